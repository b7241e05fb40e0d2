import PyProof.Rows.All
import Wide.All
import OpenK.AllK
import Wide.FinOn
import HandS.CallLocal
import HandS.Codes
import HandS.Defaults
import HandS.Evl
import HandS.ExcField
import HandS.ExcInit
import HandS.ExcIs
import HandS.ForMost
import HandS.Head2
import HandS.HeadEnd
import HandS.HeadHook3
import HandS.HeadHook4
import HandS.More
import HandS.RaiseMore
import HandS.Replace
import HandS.ReplaceList
import HandS.ReplaceLit
import HandS.TupAny
import HandS.WordsExc
import KE.DataEq
import KE.IntTextLaws
import KE.IntTextText
import PyProof.ReprRoads
import PyProof.Rows.RegFStrParts
import Wide.Once
import PySem.Challenge.RW_swornlike_k95_spoilt_texts_of_papers
set_option Elab.async false
set_option linter.all false
set_option maxRecDepth 100000
set_option maxHeartbeats 4000000
/-! Dn: a calculus over DATA. A view B of the heap H holds what never changes any more (tuples, finished lists); a slot of a def is
unknown, data of the view, or an object of one's own (a list or an instance that nothing else knows). Expressions and statements are
then read over the slots alone. -/
namespace Dn
open PySem PySem.Spec PyProof.Rows L2 Evl

inductive D where
  | non | bl (b : Bool) | int (i : Int) | str (s : Str) | raw (v : V) | tup (ds : List D) | lst (ds : List D) | rol (ds : List D)

mutual
inductive Rep (K : PySem.W.Frag) (B : Hp) : V → D → Prop
  | non : Rep K B .non .non
  | bl (b : Bool) : Rep K B (.bl b) (.bl b)
  | int (i : Int) : Rep K B (.int i) (.int i)
  | str (s : Str) : Rep K B (.str s) (.str s)
  | raw (v : V) : Rep K B v (.raw v)
  | tup {a : Addr} {xs : List V} {ds : List D} : SqT K B a xs → RepAll K B xs ds → Rep K B (.ref a) (.tup ds)
  | lst {a : Addr} {xs : List V} {ds : List D} : B a = some (.lst xs) → RepAll K B xs ds → Rep K B (.ref a) (.lst ds)
  | rol {a : Addr} {xs : List V} {ds : List D} : SqL K B a xs → RepAll K B xs ds → Rep K B (.ref a) (.rol ds)
inductive RepAll (K : PySem.W.Frag) (B : Hp) : List V → List D → Prop
  | nil : RepAll K B [] []
  | cons {v : V} {vs : List V} {d : D} {ds : List D} : Rep K B v d → RepAll K B vs ds → RepAll K B (v :: vs) (d :: ds)
end

section
variable {K : PySem.W.Frag} {B B' : Hp}
mutual
theorem Rep.mono (e : Ex B B') : ∀ (d : D) (v : V), Rep K B v d → Rep K B' v d
  | .non, _, h => by cases h; exact .non
  | .bl b, _, h => by cases h; exact .bl b
  | .int i, _, h => by cases h; exact .int i
  | .str s, _, h => by cases h; exact .str s
  | .raw v, _, h => by cases h; exact .raw v
  | .tup ds, _, h => by
    cases h with
    | tup h1 h2 => exact .tup (ex_t e h1) (RepAll.mono e ds _ h2)
  | .lst ds, _, h => by
    cases h with
    | lst h1 h2 => exact .lst (e _ _ h1) (RepAll.mono e ds _ h2)
  | .rol ds, _, h => by
    cases h with
    | rol h1 h2 => exact .rol (ex_l e h1) (RepAll.mono e ds _ h2)
theorem RepAll.mono (e : Ex B B') : ∀ (ds : List D) (vs : List V), RepAll K B vs ds → RepAll K B' vs ds
  | [], _, h => by cases h; exact .nil
  | d :: ds, _, h => by
    cases h with
    | cons h1 h2 => exact .cons (Rep.mono e d _ h1) (RepAll.mono e ds _ h2)
end
theorem Rep.up {v : V} {d : D} (h : Rep K B v d) (e : Ex B B') : Rep K B' v d := Rep.mono e d v h
theorem RepAll.up {vs : List V} {ds : List D} (h : RepAll K B vs ds) (e : Ex B B') : RepAll K B' vs ds := RepAll.mono e ds vs h
theorem RepAll.length : ∀ {vs : List V} {ds : List D}, RepAll K B vs ds → vs.length = ds.length
  | _, [], h => by cases h; rfl
  | _, d :: ds, h => by
    cases h with
    | cons h1 h2 => simp [RepAll.length h2]
theorem RepAll.append : ∀ {vs us : List V} {ds es : List D}, RepAll K B vs ds → RepAll K B us es → RepAll K B (vs ++ us) (ds ++ es)
  | _, _, [], _, h, q => by cases h; exact q
  | _, _, d :: ds, _, h, q => by
    cases h with
    | cons h1 h2 => exact .cons h1 (RepAll.append h2 q)
theorem RepAll.get : ∀ {vs : List V} {ds : List D} {i : Nat} {d : D}, RepAll K B vs ds → ds[i]? = some d → ∃ v, vs[i]? = some v ∧ Rep K B v d
  | _, [], i, d, h, e => by simp at e
  | _, d0 :: ds, 0, d, h, e => by
    cases h with
    | cons h1 h2 =>
      simp at e
      subst e
      exact ⟨_, rfl, h1⟩
  | _, d0 :: ds, i + 1, d, h, e => by
    cases h with
    | cons h1 h2 =>
      obtain ⟨v, q1, q2⟩ := RepAll.get (i := i) (d := d) h2 (by simpa using e)
      exact ⟨v, by simpa using q1, q2⟩
theorem RepAll.getV : ∀ {vs : List V} {ds : List D} {i : Nat} {v : V}, RepAll K B vs ds → vs[i]? = some v → ∃ d, ds[i]? = some d ∧ Rep K B v d
  | _, [], i, v, h, e => by cases h; simp at e
  | _, d0 :: ds, 0, v, h, e => by
    cases h with
    | cons h1 h2 =>
      simp at e
      subst e
      exact ⟨_, rfl, h1⟩
  | _, d0 :: ds, i + 1, v, h, e => by
    cases h with
    | cons h1 h2 =>
      obtain ⟨d, q1, q2⟩ := RepAll.getV (i := i) (v := v) h2 (by simpa using e)
      exact ⟨d, by simpa using q1, q2⟩
theorem RepAll.set : ∀ {vs : List V} {ds : List D} (i : Nat) {v : V} {d : D}, RepAll K B vs ds → Rep K B v d → RepAll K B (vs.set i v) (ds.set i d)
  | _, [], _, _, _, h, _ => by cases h; exact .nil
  | _, d0 :: ds, 0, v, d, h, r => by
    cases h with
    | cons h1 h2 => exact .cons r h2
  | _, d0 :: ds, i + 1, v, d, h, r => by
    cases h with
    | cons h1 h2 => exact .cons h1 (RepAll.set i h2 r)
theorem RepAll.take : ∀ {vs : List V} {ds : List D} (n : Nat), RepAll K B vs ds → RepAll K B (vs.take n) (ds.take n)
  | _, [], n, h => by cases h; simp; exact .nil
  | _, d0 :: ds, 0, h => by simp; exact .nil
  | _, d0 :: ds, n + 1, h => by
    cases h with
    | cons h1 h2 => exact .cons h1 (RepAll.take n h2)
theorem RepAll.drop : ∀ {vs : List V} {ds : List D} (n : Nat), RepAll K B vs ds → RepAll K B (vs.drop n) (ds.drop n)
  | _, [], n, h => by cases h; simp; exact .nil
  | _, d0 :: ds, 0, h => by simpa using h
  | _, d0 :: ds, n + 1, h => by
    cases h with
    | cons h1 h2 => simpa using RepAll.drop n h2
theorem RepAll.one {v : V} {d : D} (h : Rep K B v d) : RepAll K B [v] [d] := .cons h .nil
end

/-! ### slots -/
inductive Sl where
  | unk | dat (d : D) | own (p : Addr) (ds : List D) | obj (p : Addr) (C : Addr) (fs : List (Str × D))
def Sl.ad : Sl → Option Addr
  | .own p _ => some p
  | .obj p _ _ => some p
  | _ => none
def RepF (K : PySem.W.Frag) (B : Hp) : List (Str × V) → List (Str × D) → Prop := Paired fun p q => p.1 = q.1 ∧ Rep K B p.2 q.2
theorem RepF.up {K : PySem.W.Frag} {B B' : Hp} : ∀ {l : List (Str × V)} {m : List (Str × D)}, RepF K B l m → Ex B B' → RepF K B' l m
  | _, _, .nil, _ => .nil
  | _, _, .cons r t, e => .cons ⟨r.1, r.2.up e⟩ (RepF.up t e)
def SlOk (K : PySem.W.Frag) (B H : Hp) (v : Option V) : Sl → Prop
  | .unk => True
  | .dat d => ∃ u, v = some u ∧ Rep K B u d
  | .own p ds => v = some (.ref p) ∧ B p = none ∧ ∃ vs, H p = some (.lst vs) ∧ RepAll K B vs ds
  | .obj p C fs => v = some (.ref p) ∧ B p = none ∧ ∃ dx vs, H p = some (.ins C dx vs) ∧ RepF K B vs fs
/-- p is an object of one's own -/
def Own (ρ : List Sl) (p : Addr) : Prop := ∃ (i : Nat) (s : Sl), ρ[i]? = some s ∧ s.ad = some p
structure Envs (K : PySem.W.Frag) (B H : Hp) (σ : L2.St) (ρ : List Sl) : Prop where
  ex : Ex B H
  len : ρ.length = σ.length
  ok : ∀ (i : Nat) (s : Sl), ρ[i]? = some s → SlOk K B H (σ[i]?.join) s
  inj : ∀ (i j : Nat) (s t : Sl) (p : Addr), ρ[i]? = some s → ρ[j]? = some t → s.ad = some p → t.ad = some p → i = j
/-- from one moment to a later one -/
structure Stp (ρ : List Sl) (B H : Hp) (ρ' : List Sl) (B' H' : Hp) : Prop where
  ex : Ex B B'
  fr : ∀ a o, H a = some o → B a = none → ¬ Own ρ a → H' a = some o ∧ B' a = none
  sub : ∀ p, Own ρ' p → Own ρ p ∨ H p = none
  th : ∀ a, H' a = none → H a = none

section
variable {K : PySem.W.Frag} {B H B1 H1 B2 H2 : Hp} {σ σ' : L2.St} {ρ ρ1 ρ2 : List Sl}
theorem Envs.ownOf (e : Envs K B H σ ρ) {p : Addr} (h : Own ρ p) : B p = none ∧ ∃ o, H p = some o := by
  obtain ⟨i, s, h1, h2⟩ := h
  have q := e.ok i s h1
  cases s with
  | unk => cases h2
  | dat d => cases h2
  | own p' ds =>
    obtain rfl : p' = p := Option.some.inj h2
    exact ⟨q.2.1, _, q.2.2.choose_spec.1⟩
  | obj p' C fs =>
    obtain rfl : p' = p := Option.some.inj h2
    obtain ⟨_, q2, dx, vs, q3, _⟩ := q
    exact ⟨q2, _, q3⟩
theorem Stp.refl : Stp ρ B H ρ B H := ⟨Ex.refl B, fun _ _ h1 h2 _ => ⟨h1, h2⟩, fun _ h => .inl h, fun _ h => h⟩
theorem Ex.th (e : Ex H H1) : ∀ a, H1 a = none → H a = none := fun a h => fresh_back e h
theorem Stp.trans (a : Stp ρ B H ρ1 B1 H1) (_x : Ex B1 H1) (b : Stp ρ1 B1 H1 ρ2 B2 H2) : Stp ρ B H ρ2 B2 H2 := by
  refine ⟨a.ex.trans b.ex, fun p o h1 h2 h3 => ?_, fun p h => ?_, fun p h => a.th p (b.th p h)⟩
  · obtain ⟨q1, q2⟩ := a.fr p o h1 h2 h3
    refine b.fr p o q1 q2 fun z => ?_
    rcases a.sub p z with z | z
    · exact h3 z
    · rw [h1] at z; cases z
  · rcases b.sub p h with z | z
    · exact a.sub p z
    · exact .inr (a.th p z)
/-- nothing of one's own is touched, nothing that stands either: the view may grow by what is new -/
structure Pur (B H B' H' : Hp) : Prop where
  ex : Ex B B'
  sub : Ex B' H'
  kp : Ex H H'
  nw : ∀ a, (∃ o, H a = some o) → B a = none → B' a = none
theorem Pur.refl (x : Ex B H) : Pur B H B H := ⟨Ex.refl B, x, Ex.refl H, fun _ _ h => h⟩
theorem Pur.trans (a : Pur B H B1 H1) (b : Pur B1 H1 B2 H2) : Pur B H B2 H2 :=
  ⟨a.ex.trans b.ex, b.sub, a.kp.trans b.kp, fun p ⟨o, h⟩ n => b.nw p ⟨o, a.kp p o h⟩ (a.nw p ⟨o, h⟩ n)⟩
theorem SlOk.pur {v : Option V} {s : Sl} (h : SlOk K B H v s) (u : Pur B H B1 H1) : SlOk K B1 H1 v s := by
  cases s with
  | unk => trivial
  | dat d =>
    obtain ⟨w, e, r⟩ := h
    exact ⟨w, e, r.up u.ex⟩
  | own p ds =>
    obtain ⟨e, n, vs, h1, r⟩ := h
    exact ⟨e, u.nw p ⟨_, h1⟩ n, vs, u.kp p _ h1, r.up u.ex⟩
  | obj p C fs =>
    obtain ⟨e, n, dx, vs, h1, r⟩ := h
    exact ⟨e, u.nw p ⟨_, h1⟩ n, dx, vs, u.kp p _ h1, r.up u.ex⟩
theorem Envs.pur (e : Envs K B H σ ρ) (u : Pur B H B1 H1) : Envs K B1 H1 σ ρ := ⟨u.sub, e.len, fun i s h => (e.ok i s h).pur u, e.inj⟩
theorem Pur.stp (u : Pur B H B1 H1) : Stp ρ B H ρ B1 H1 := ⟨u.ex, fun a o h1 h2 _ => ⟨u.kp a o h1, u.nw a ⟨o, h1⟩ h2⟩, fun _ h => .inl h, Ex.th u.kp⟩
/-- a new object that joins the view -/
theorem Pur.new {p : Addr} {o : HO} (x : Ex B H) (n : H p = none) : Pur B H (upd B p o) (upd H p o) := by
  have nb : B p = none := fresh_back x n
  refine ⟨Ex.new nb, fun a u h => ?_, Ex.new n, fun a ⟨u, h⟩ hb => ?_⟩
  · by_cases e : a = p
    · subst e; rw [upd_same] at h ⊢; exact h
    · rw [upd_ne e] at h ⊢; exact x a u h
  · rw [upd_ne (ne_of_none h n)]; exact hb
/-- a new object that stays outside of the view -/
theorem Pur.out {p : Addr} {o : HO} (x : Ex B H) (n : H p = none) : Pur B H B (upd H p o) :=
  ⟨Ex.refl B, x.trans (Ex.new n), Ex.new n, fun a _ hb => hb⟩
end

/-! ### the judgements -/
/-- an expression: what holds of the data it gives and of the slots behind it -/
def EV (K : PySem.W.Frag) (t : TE) (ρ : List Sl) (P : D → List Sl → Prop) : Prop := ∀ (B H : Hp) (σ : L2.St) (Q : VK), Envs K B H σ ρ →
  (∀ v B' H' d ρ', P d ρ' → Stp ρ B H ρ' B' H' → (∀ p, Own ρ' p → Own ρ p) → Envs K B' H' σ ρ' → Rep K B' v d → Q v H') → t σ H Q
/-- one that gives a new list, as yet outside of the view -/
def EF (K : PySem.W.Frag) (t : TE) (ρ : List Sl) (P : List D → List Sl → Prop) : Prop := ∀ (B H : Hp) (σ : L2.St) (Q : VK), Envs K B H σ ρ →
  (∀ p vs B' H' ds ρ', P ds ρ' → Stp ρ B H ρ' B' H' → (∀ p, Own ρ' p → Own ρ p) → Envs K B' H' σ ρ' → H p = none → B' p = none → ¬ Own ρ' p → H' p = some (.lst vs) → RepAll K B' vs ds → Q (.ref p) H') → t σ H Q
/-- a test -/
def ET (K : PySem.W.Frag) (t : TT) (ρ : List Sl) (P : Bool → List Sl → Prop) : Prop := ∀ (B H : Hp) (σ : L2.St) (Q : Bool → Hp → Prop), Envs K B H σ ρ →
  (∀ b B' H' ρ', P b ρ' → Stp ρ B H ρ' B' H' → (∀ p, Own ρ' p → Own ρ p) → Envs K B' H' σ ρ' → Q b H') → t σ H Q
/-- what is handed on: data, or an object of one's own by its slot -/
inductive Ar where
  | dat (d : D) | slot (i : Nat)
def ArOk (K : PySem.W.Frag) (B : Hp) (σ : L2.St) (ρ : List Sl) (v : V) : Ar → Prop
  | .dat d => Rep K B v d
  | .slot i => σ[i]?.join = some v ∧ ∃ s p, ρ[i]? = some s ∧ s.ad = some p
def EA (K : PySem.W.Frag) (t : TA) (ρ : List Sl) (P : List Ar → List Sl → Prop) : Prop := ∀ (B H : Hp) (σ : L2.St) (Q : List V → Hp → Prop), Envs K B H σ ρ →
  (∀ vs B' H' as ρ', P as ρ' → Stp ρ B H ρ' B' H' → (∀ p, Own ρ' p → Own ρ p) → Envs K B' H' σ ρ' → Paired (ArOk K B' σ ρ') vs as → Q vs H') → t σ H Q
/-- an operation on values: from the view, nothing touched -/
def OJ (K : PySem.W.Frag) (r : R2) (x y : D) (P : D → Prop) : Prop := ∀ (B H : Hp) (v w : V) (Q : VK), Ex B H → Rep K B v x → Rep K B w y →
  (∀ u B' H' d, P d → Pur B H B' H' → Rep K B' u d → Q u H') → r v w H Q
def UJ (K : PySem.W.Frag) (r : V → Hp → VK → Prop) (x : D) (P : D → Prop) : Prop := ∀ (B H : Hp) (v : V) (Q : VK), Ex B H → Rep K B v x →
  (∀ u B' H' d, P d → Pur B H B' H' → Rep K B' u d → Q u H') → r v H Q
def CJ (K : PySem.W.Frag) (r : List V → Hp → VK → Prop) (xs : List D) (P : D → Prop) : Prop := ∀ (B H : Hp) (vs : List V) (Q : VK), Ex B H → RepAll K B vs xs →
  (∀ u B' H' d, P d → Pur B H B' H' → Rep K B' u d → Q u H') → r vs H Q
structure Post where
  nx : List Sl → Prop
  rt : D → List Sl → Prop
  bk : List Sl → Prop := fun _ => False
  ct : List Sl → Prop := fun _ => False
def XS (K : PySem.W.Frag) (t : TS) (ρ : List Sl) (P : Post) : Prop := ∀ (B H : Hp) (σ : L2.St) (E : Ends), Envs K B H σ ρ →
  (∀ σ' B' H' ρ', P.nx ρ' → Stp ρ B H ρ' B' H' → Envs K B' H' σ' ρ' → E.nx σ' H') →
  (∀ v σ' B' H' d ρ', P.rt d ρ' → Stp ρ B H ρ' B' H' → Envs K B' H' σ' ρ' → Rep K B' v d → E.rt v H') →
  (∀ σ' B' H' ρ', P.bk ρ' → Stp ρ B H ρ' B' H' → Envs K B' H' σ' ρ' → E.bk σ' H') →
  (∀ σ' B' H' ρ', P.ct ρ' → Stp ρ B H ρ' B' H' → Envs K B' H' σ' ρ' → E.ct σ' H') → t E σ H

section
variable {K : PySem.W.Frag} {ρ : List Sl} {ta tb te : TE} {tt : TT} {P Q : D → List Sl → Prop}
theorem EV.mono (h : EV K te ρ P) (m : ∀ d ρ', P d ρ' → Q d ρ') : EV K te ρ Q := fun B H σ R e k => h B H σ R e fun v B' H' d ρ' p => k v B' H' d ρ' (m d ρ' p)
theorem EF.mono {P Q : List D → List Sl → Prop} (h : EF K te ρ P) (m : ∀ d ρ', P d ρ' → Q d ρ') : EF K te ρ Q := fun B H σ R e k => h B H σ R e fun p vs B' H' d ρ' z => k p vs B' H' d ρ' (m d ρ' z)
theorem ET.mono {P Q : Bool → List Sl → Prop} (h : ET K tt ρ P) (m : ∀ d ρ', P d ρ' → Q d ρ') : ET K tt ρ Q := fun B H σ R e k => h B H σ R e fun b B' H' ρ' p => k b B' H' ρ' (m b ρ' p)
theorem XS.mono {t : TS} {P Q : Post} (h : XS K t ρ P) (m1 : ∀ ρ', P.nx ρ' → Q.nx ρ') (m2 : ∀ d ρ', P.rt d ρ' → Q.rt d ρ') (m3 : ∀ ρ', P.bk ρ' → Q.bk ρ') (m4 : ∀ ρ', P.ct ρ' → Q.ct ρ') : XS K t ρ Q :=
  fun B H σ E e k1 k2 k3 k4 => h B H σ E e (fun σ' B' H' ρ' p => k1 σ' B' H' ρ' (m1 _ p)) (fun v σ' B' H' d ρ' p => k2 v σ' B' H' d ρ' (m2 _ _ p)) (fun σ' B' H' ρ' p => k3 σ' B' H' ρ' (m3 _ p)) (fun σ' B' H' ρ' p => k4 σ' B' H' ρ' (m4 _ p))
theorem XS.rtOnly {t : TS} {P : Post} {nx : List Sl → Prop} (h : XS K t ρ { nx := fun _ => False, rt := P.rt }) : XS K t ρ P := h.mono (fun _ z => z.elim) (fun _ _ z => z) (fun _ z => z.elim) (fun _ z => z.elim)

/-! ### expressions -/
theorem ev_c {v : V} {d : D} (r : ∀ B, Rep K B v d) (h : P d ρ) : EV K (tC v) ρ P := fun B H σ Q e k => k v B H d ρ h .refl (fun _ z => z) e (r B)
theorem ev_int {i : Int} (h : P (.int i) ρ) : EV K (tC (.int i)) ρ P := ev_c (fun _ => .int i) h
theorem ev_str {s : Str} (h : P (.str s) ρ) : EV K (tC (.str s)) ρ P := ev_c (fun _ => .str s) h
theorem ev_bl {b : Bool} (h : P (.bl b) ρ) : EV K (tC (.bl b)) ρ P := ev_c (fun _ => .bl b) h
theorem ev_non (h : P .non ρ) : EV K (tC .non) ρ P := ev_c (fun _ => .non) h
/-- a name that holds data -/
theorem ev_var {i : Nat} {d : D} (hi : ρ[i]? = some (.dat d)) (h : P d ρ) : EV K (tVar i) ρ P := fun B H σ Q e k => by
  obtain ⟨u, q, r⟩ := e.ok i _ hi
  refine ⟨u, ?_, k u B H d ρ h .refl (fun _ z => z) e r⟩
  cases z : σ[i]? with
  | none => rw [z] at q; cases q
  | some w => rw [z] at q; exact congrArg some q
theorem Envs.at {B H : Hp} {σ : L2.St} (e : Envs K B H σ ρ) {i : Nat} {u : V} (q : σ[i]?.join = some u) : σ[i]? = some (some u) := by
  cases z : σ[i]? with
  | none => rw [z] at q; cases q
  | some w => rw [z] at q; exact congrArg some q
/-- an own list joins the view -/
theorem Envs.freeze {B H : Hp} {σ : L2.St} {i : Nat} {p : Addr} {ds : List D} (e : Envs K B H σ ρ) (hi : ρ[i]? = some (.own p ds)) :
    ∃ B', Envs K B' H σ (ρ.set i (.dat (.lst ds))) ∧ Stp ρ B H (ρ.set i (.dat (.lst ds))) B' H ∧ Rep K B' (.ref p) (.lst ds) ∧ (∀ q, Own (ρ.set i (.dat (.lst ds))) q → Own ρ q) := by
  obtain ⟨q, n, vs, h1, r⟩ := e.ok i _ hi
  have x : Ex B (upd B p (.lst vs)) := Ex.new n
  have rp : Rep K (upd B p (.lst vs)) (.ref p) (.lst ds) := .lst upd_same (r.up x)
  have sb : ∀ z, Own (ρ.set i (.dat (.lst ds))) z → Own ρ z := fun z ⟨j, s, h2, h3⟩ => by
    rw [List.getElem?_set] at h2
    split at h2
    · split at h2
      · cases h2; cases h3
      · cases h2
    · exact ⟨j, s, h2, h3⟩
  refine ⟨upd B p (.lst vs), ⟨fun a o h => ?_, ?_, fun j s h => ?_, fun j k s t z h2 h3 h4 h5 => ?_⟩, ⟨x, fun a o h2 h3 h4 => ⟨h2, ?_⟩, fun z h => .inl (sb z h), fun _ h => h⟩, rp, sb⟩
  · by_cases z : a = p
    · subst z; rw [upd_same] at h; rw [← h]; exact h1
    · rw [upd_ne z] at h; exact e.ex a o h
  · rw [List.length_set]; exact e.len
  · rw [List.getElem?_set] at h
    split at h
    · rename_i ij
      subst ij
      split at h
      · cases h
        exact ⟨_, q, rp⟩
      · cases h
    · rename_i ij
      have o := e.ok j s h
      cases s with
      | unk => trivial
      | dat d =>
        obtain ⟨w, h2, h3⟩ := o
        exact ⟨w, h2, h3.up x⟩
      | own p' ds' =>
        obtain ⟨h2, h3, us, h4, h5⟩ := o
        refine ⟨h2, ?_, us, h4, h5.up x⟩
        rw [upd_ne (fun z => ij (e.inj i j _ _ p hi h rfl (by rw [← z]; rfl)))]
        exact h3
      | obj p' C fs =>
        obtain ⟨h2, h3, dx, us, h4, h5⟩ := o
        refine ⟨h2, ?_, dx, us, h4, h5.up x⟩
        rw [upd_ne (fun z => ij (e.inj i j _ _ p hi h rfl (by rw [← z]; rfl)))]
        exact h3
  · rw [List.getElem?_set] at h2 h3
    split at h2
    · split at h2
      · cases h2; cases h4
      · cases h2
    · split at h3
      · split at h3
        · cases h3; cases h5
        · cases h3
      · exact e.inj j k s t z h2 h3 h4 h5
  · rw [upd_ne (fun z => h4 ⟨i, _, hi, by rw [z]; rfl⟩)]
    exact h3
/-- a name that holds a list of one's own: it becomes data -/
theorem ev_frz {i : Nat} {p : Addr} {ds : List D} (hi : ρ[i]? = some (.own p ds)) (h : P (.lst ds) (ρ.set i (.dat (.lst ds)))) : EV K (tVar i) ρ P := fun B H σ Q e k => by
  obtain ⟨B', e', s', r, sb⟩ := e.freeze hi
  exact ⟨.ref p, e.at (e.ok i _ hi).1, k _ B' H _ _ h s' sb e' r⟩
/-- a new list joins the view -/
theorem EF.ev (h : EF K te ρ fun ds ρ' => P (.lst ds) ρ') : EV K te ρ P := fun B H σ Q e k => h B H σ Q e fun p vs B' H' ds ρ' hp s sb e' np nb no hl r => by
  have x : Ex B' (upd B' p (.lst vs)) := Ex.new nb
  refine k _ (upd B' p (.lst vs)) H' _ ρ' hp ⟨s.ex.trans x, fun a o h1 h2 h3 => ?_, s.sub, s.th⟩ sb ⟨fun a o h1 => ?_, e'.len, fun i t h1 => ?_, e'.inj⟩ (.lst upd_same (r.up x))
  · obtain ⟨q1, q2⟩ := s.fr a o h1 h2 h3
    refine ⟨q1, ?_⟩
    rw [upd_ne (fun z => by rw [z, np] at h1; cases h1)]
    exact q2
  · by_cases z : a = p
    · subst z; rw [upd_same] at h1; rw [← h1]; exact hl
    · rw [upd_ne z] at h1; exact e'.ex a o h1
  · have o := e'.ok i t h1
    cases t with
    | unk => trivial
    | dat d =>
      obtain ⟨w, h2, h3⟩ := o
      exact ⟨w, h2, h3.up x⟩
    | own p' ds' =>
      obtain ⟨h2, h3, us, h4, h5⟩ := o
      refine ⟨h2, ?_, us, h4, h5.up x⟩
      rw [upd_ne (fun z => no ⟨i, _, h1, by rw [← z]; rfl⟩)]
      exact h3
    | obj p' C fs =>
      obtain ⟨h2, h3, dx, us, h4, h5⟩ := o
      refine ⟨h2, ?_, dx, us, h4, h5.up x⟩
      rw [upd_ne (fun z => no ⟨i, _, h1, by rw [← z]; rfl⟩)]
      exact h3
theorem ev_op {r : R2} (h : EV K ta ρ fun x ρ1 => EV K tb ρ1 fun y ρ2 => OJ K r x y fun d => P d ρ2) : EV K (tOp r ta tb) ρ P := fun B H σ Q e k =>
  h B H σ _ e fun v B1 H1 x ρ1 h1 s1 b1 e1 r1 => h1 B1 H1 σ _ e1 fun w B2 H2 y ρ2 h2 s2 b2 e2 r2 => h2 B2 H2 v w Q e2.ex (r1.up s2.ex) r2 fun u B3 H3 d p pu rd =>
    k u B3 H3 d ρ2 p ((s1.trans e1.ex s2).trans e2.ex pu.stp) (fun z h => b1 z (b2 z h)) (e2.pur pu) rd
theorem ev_un {r : V → Hp → VK → Prop} (h : EV K ta ρ fun x ρ1 => UJ K r x fun d => P d ρ1) : EV K (tUn r ta) ρ P := fun B H σ Q e k =>
  h B H σ _ e fun v B1 H1 x ρ1 h1 s1 b1 e1 r1 => h1 B1 H1 v Q e1.ex r1 fun u B3 H3 d p pu rd =>
    k u B3 H3 d ρ1 p (s1.trans e1.ex pu.stp) b1 (e1.pur pu) rd
theorem et_test (h : EV K te ρ fun d ρ' => ∃ b, d = .bl b ∧ R b ρ') : ET K (tTest te) ρ R := fun B H σ Q e k =>
  h B H σ _ e fun v B1 H1 d ρ1 ⟨b, hd, hr⟩ s1 b1 e1 r1 => by
    subst hd
    cases r1
    exact ⟨b, rfl, k b B1 H1 ρ1 hr s1 b1 e1⟩
theorem et_B (h : EV K te ρ fun d ρ' => ∃ b, d = .bl b ∧ R b ρ') : ET K (tB te) ρ R := fun B H σ Q e k =>
  h B H σ _ e fun v B1 H1 d ρ1 ⟨b, hd, hr⟩ s1 b1 e1 r1 => by
    subst hd
    cases r1
    exact ⟨b, rfl, k b B1 H1 ρ1 hr s1 b1 e1⟩
theorem et_not {R : Bool → List Sl → Prop} {t : TT} (h : ET K t ρ fun b ρ' => R (!b) ρ') : ET K (tNot t) ρ R := fun B H σ Q e k =>
  h B H σ _ e fun b B1 H1 ρ1 hr s1 b1 e1 => k (!b) B1 H1 ρ1 hr s1 b1 e1
theorem et_and {R : Bool → List Sl → Prop} {t u : TT} (h : ET K t ρ fun b ρ' => (b = true → ET K u ρ' R) ∧ (b = false → R false ρ')) : ET K (tAnd t u) ρ R := fun B H σ Q e k =>
  h B H σ _ e fun b B1 H1 ρ1 hr s1 b1 e1 => by
    cases b with
    | true =>
      refine iteT (hr.1 rfl B1 H1 σ Q e1 fun c B2 H2 ρ2 h2 s2 b2 e2 => k c B2 H2 ρ2 h2 (s1.trans e1.ex s2) (fun z h => b1 z (b2 z h)) e2)
    | false => exact iteF (k false B1 H1 ρ1 (hr.2 rfl) s1 b1 e1)
theorem et_or {R : Bool → List Sl → Prop} {t u : TT} (h : ET K t ρ fun b ρ' => (b = true → R true ρ') ∧ (b = false → ET K u ρ' R)) : ET K (tOr t u) ρ R := fun B H σ Q e k =>
  h B H σ _ e fun b B1 H1 ρ1 hr s1 b1 e1 => by
    cases b with
    | false =>
      refine iteF (hr.2 rfl B1 H1 σ Q e1 fun c B2 H2 ρ2 h2 s2 b2 e2 => k c B2 H2 ρ2 h2 (s1.trans e1.ex s2) (fun z h => b1 z (b2 z h)) e2)
    | true => exact iteT (k true B1 H1 ρ1 (hr.1 rfl) s1 b1 e1)
theorem ev_if {t : TT} (h : ET K t ρ fun b ρ' => (b = true → EV K ta ρ' P) ∧ (b = false → EV K tb ρ' P)) : EV K (tIf t ta tb) ρ P := fun B H σ Q e k =>
  h B H σ _ e fun b B1 H1 ρ1 hr s1 b1 e1 => by
    cases b with
    | true => exact iteT (hr.1 rfl B1 H1 σ Q e1 fun c B2 H2 d ρ2 h2 s2 b2 e2 => k c B2 H2 d ρ2 h2 (s1.trans e1.ex s2) (fun z h => b1 z (b2 z h)) e2)
    | false => exact iteF (hr.2 rfl B1 H1 σ Q e1 fun c B2 H2 d ρ2 h2 s2 b2 e2 => k c B2 H2 d ρ2 h2 (s1.trans e1.ex s2) (fun z h => b1 z (b2 z h)) e2)
theorem ev_andV (h : EV K ta ρ fun d ρ' => ∃ b, d = .bl b ∧ (b = true → EV K tb ρ' P) ∧ (b = false → P (.bl false) ρ')) : EV K (tAndV ta tb) ρ P := fun B H σ Q e k =>
  h B H σ _ e fun v B1 H1 d ρ1 ⟨b, hd, hr⟩ s1 b1 e1 r1 => by
    subst hd
    cases r1
    refine ⟨b, rfl, ?_⟩
    cases b with
    | true => exact iteT (hr.1 rfl B1 H1 σ Q e1 fun c B2 H2 d ρ2 h2 s2 b2 e2 => k c B2 H2 d ρ2 h2 (s1.trans e1.ex s2) (fun z h => b1 z (b2 z h)) e2)
    | false => exact iteF (k _ B1 H1 _ ρ1 (hr.2 rfl) s1 b1 e1 (.bl false))
theorem ev_orV (h : EV K ta ρ fun d ρ' => ∃ b, d = .bl b ∧ (b = true → P (.bl true) ρ') ∧ (b = false → EV K tb ρ' P)) : EV K (tOrV ta tb) ρ P := fun B H σ Q e k =>
  h B H σ _ e fun v B1 H1 d ρ1 ⟨b, hd, hr⟩ s1 b1 e1 r1 => by
    subst hd
    cases r1
    refine ⟨b, rfl, ?_⟩
    cases b with
    | false => exact iteF (hr.2 rfl B1 H1 σ Q e1 fun c B2 H2 d ρ2 h2 s2 b2 e2 => k c B2 H2 d ρ2 h2 (s1.trans e1.ex s2) (fun z h => b1 z (b2 z h)) e2)
    | true => exact iteT (k _ B1 H1 _ ρ1 (hr.1 rfl) s1 b1 e1 (.bl true))
theorem ev_notV (h : EV K ta ρ fun d ρ' => ∃ b, d = .bl b ∧ P (.bl (!b)) ρ') : EV K (tNotV ta) ρ P := fun B H σ Q e k =>
  h B H σ _ e fun v B1 H1 d ρ1 ⟨b, hd, hr⟩ s1 b1 e1 r1 => by
    subst hd
    cases r1
    exact ⟨b, rfl, k _ B1 H1 _ ρ1 hr s1 b1 e1 (.bl _)⟩
theorem ev_chain {r r' : R2} {tc : TE} (h : EV K ta ρ fun x ρ1 => EV K tb ρ1 fun y ρ2 => OJ K r x y fun d => ∃ b, d = .bl b ∧ (b = true → EV K tc ρ2 fun z ρ3 => OJ K r' y z fun d => P d ρ3) ∧ (b = false → P (.bl false) ρ2)) :
    EV K (tChain r r' ta tb tc) ρ P := fun B H σ Q e k =>
  h B H σ _ e fun v B1 H1 x ρ1 h1 s1 b1 e1 r1 => h1 B1 H1 σ _ e1 fun w B2 H2 y ρ2 h2 s2 b2 e2 r2 => h2 B2 H2 v w _ e2.ex (r1.up s2.ex) r2 fun u B3 H3 d ⟨b, hd, hr⟩ pu rd => by
    subst hd
    cases rd
    refine ⟨b, rfl, ?_⟩
    have e3 := e2.pur pu
    have s3 := (s1.trans e1.ex s2).trans e2.ex (pu.stp (ρ := ρ2))
    cases b with
    | true =>
      refine iteT (hr.1 rfl B3 H3 σ _ e3 fun c B4 H4 z ρ4 h4 s4 b4 e4 r4 => h4 B4 H4 w c Q e4.ex (r2.up (pu.ex.trans s4.ex)) r4 fun u B5 H5 d p pu5 rd => ?_)
      exact k u B5 H5 d ρ4 p ((s3.trans e3.ex s4).trans e4.ex pu5.stp) (fun z h => b1 z (b2 z (b4 z h))) (e4.pur pu5) rd
    | false => exact iteF (k _ B3 H3 _ ρ2 (hr.2 rfl) s3 (fun z h => b1 z (b2 z h)) e3 (.bl false))
end
end Dn
namespace Dn
open PySem PySem.Spec PyProof.Rows L2 Evl
section
variable {K : PySem.W.Frag} {B H B1 H1 : Hp} {σ : L2.St} {ρ ρ1 : List Sl} {ta tb te : TE} {tt : TT} {t u : TS} {P : Post}

/-! ### a slot changed -/
theorem own_set {i : Nat} {s : Sl} {z : Addr} (h : Own (ρ.set i s) z) : (s.ad = some z ∧ i < ρ.length) ∨ ∃ j t, j ≠ i ∧ ρ[j]? = some t ∧ t.ad = some z := by
  obtain ⟨j, t, h1, h2⟩ := h
  rw [List.getElem?_set] at h1
  split at h1
  · split at h1
    · cases h1; exact .inl ⟨h2, by assumption⟩
    · cases h1
  · rename_i ij
    exact .inr ⟨j, t, fun q => ij q.symm, h1, h2⟩
theorem get_set_own {i j : Nat} {s t : Sl} (h : (ρ.set i s)[j]? = some t) : (j = i ∧ t = s) ∨ (j ≠ i ∧ ρ[j]? = some t) := by
  by_cases c : i = j
  · subst c
    rw [List.getElem?_set] at h
    split at h
    · split at h
      · cases h; exact .inl ⟨rfl, rfl⟩
      · cases h
    · rename_i q; exact (q rfl).elim
  · rw [List.getElem?_set_ne c] at h
    exact .inr ⟨fun q => c q.symm, h⟩
theorem inj_set {i : Nat} {s : Sl} (inj : ∀ (i j : Nat) (s t : Sl) (p : Addr), ρ[i]? = some s → ρ[j]? = some t → s.ad = some p → t.ad = some p → i = j) (n : ∀ p j t, s.ad = some p → ρ[j]? = some t → t.ad = some p → j = i) :
    ∀ (j k : Nat) (t r : Sl) (p : Addr), (ρ.set i s)[j]? = some t → (ρ.set i s)[k]? = some r → t.ad = some p → r.ad = some p → j = k := fun j k t r z h2 h3 h4 h5 => by
  rcases get_set_own h2 with ⟨a1, a2⟩ | ⟨a1, a2⟩
  · rcases get_set_own h3 with ⟨b1, b2⟩ | ⟨b1, b2⟩
    · rw [a1, b1]
    · rw [a1]; rw [a2] at h4; exact (n z k r h4 b2 h5).symm
  · rcases get_set_own h3 with ⟨b1, b2⟩ | ⟨b1, b2⟩
    · rw [b1]; rw [b2] at h5; exact n z j t h5 a2 h4
    · exact inj j k t r z a2 b2 h4 h5
/-- a slot is given a value: data of the view, or a thing of one's own that no other slot has -/
theorem Envs.setS {i : Nat} {s : Sl} {v : V} (e : Envs K B H σ ρ) (o : SlOk K B H (some v) s) (n : ∀ p j t, s.ad = some p → ρ[j]? = some t → t.ad = some p → j = i) : Envs K B H (σ.set i (some v)) (ρ.set i s) := by
  refine ⟨e.ex, by rw [List.length_set, List.length_set]; exact e.len, fun j t h => ?_, fun j k t r z h2 h3 h4 h5 => ?_⟩
  · rw [List.getElem?_set] at h
    split at h
    · rename_i ij
      subst ij
      split at h
      · rename_i lt
        cases h
        rw [List.getElem?_set_self (by rw [← e.len]; exact lt)]
        exact o
      · cases h
    · rename_i ij
      rw [List.getElem?_set_ne ij]
      exact e.ok j t h
  · exact inj_set e.inj n j k t r z h2 h3 h4 h5
theorem Envs.setD {i : Nat} {v : V} {d : D} (e : Envs K B H σ ρ) (r : Rep K B v d) : Envs K B H (σ.set i (some v)) (ρ.set i (.dat d)) :=
  e.setS ⟨v, rfl, r⟩ fun p j t h => by cases h
theorem Stp.setD {i : Nat} {d : D} (s : Stp ρ B H ρ1 B1 H1) : Stp ρ B H (ρ1.set i (.dat d)) B1 H1 :=
  ⟨s.ex, s.fr, fun p h => by
    rcases own_set h with ⟨z, _⟩ | ⟨j, t, _, h1, h2⟩
    · cases z
    · exact s.sub p ⟨j, t, h1, h2⟩, s.th⟩

/-! ### statements -/
theorem xs_next (h : P.nx ρ) : XS K tNext ρ P := fun B H σ E e k1 _ _ _ => k1 σ B H ρ h .refl e
theorem xs_brk (h : P.bk ρ) : XS K tBreak ρ P := fun B H σ E e _ _ k3 _ => k3 σ B H ρ h .refl e
theorem xs_cont (h : P.ct ρ) : XS K tCont ρ P := fun B H σ E e _ _ _ k4 => k4 σ B H ρ h .refl e
theorem xs_seq (h : XS K t ρ { P with nx := fun ρ' => XS K u ρ' P }) : XS K (tSeq t u) ρ P := fun B H σ E e k1 k2 k3 k4 =>
  h B H σ { E with nx := u E } e (fun σ' B' H' ρ' p s e' => p B' H' σ' E e' (fun σ2 B2 H2 ρ2 p2 s2 => k1 σ2 B2 H2 ρ2 p2 (s.trans e'.ex s2)) (fun v σ2 B2 H2 d ρ2 p2 s2 => k2 v σ2 B2 H2 d ρ2 p2 (s.trans e'.ex s2))
    (fun σ2 B2 H2 ρ2 p2 s2 => k3 σ2 B2 H2 ρ2 p2 (s.trans e'.ex s2)) (fun σ2 B2 H2 ρ2 p2 s2 => k4 σ2 B2 H2 ρ2 p2 (s.trans e'.ex s2))) k2 k3 k4
theorem xs_ret (h : EV K te ρ P.rt) : XS K (tRet te) ρ P := fun B H σ E e _ k2 _ _ => h B H σ E.rt e fun v B' H' d ρ' p s _ e' r => k2 v σ B' H' d ρ' p s e' r
theorem xs_retN (h : P.rt .non ρ) : XS K tRetN ρ P := fun B H σ E e _ k2 _ _ => k2 .non σ B H .non ρ h .refl e .non
theorem xs_drop (h : EV K te ρ fun _ ρ' => P.nx ρ') : XS K (tDrop te) ρ P := fun B H σ E e k1 _ _ _ => h B H σ _ e fun v B' H' d ρ' p s _ e' r => k1 σ B' H' ρ' p s e'
theorem xs_if (h : ET K tt ρ fun b ρ' => (b = true → XS K t ρ' P) ∧ (b = false → XS K u ρ' P)) : XS K (tIfS tt t u) ρ P := fun B H σ E e k1 k2 k3 k4 =>
  h B H σ _ e fun b B1 H1 ρ1 hr s1 b1 e1 => by
    have go : ∀ {w : TS}, XS K w ρ1 P → w E σ H1 := fun hw => hw B1 H1 σ E e1 (fun σ2 B2 H2 ρ2 p2 s2 => k1 σ2 B2 H2 ρ2 p2 (s1.trans e1.ex s2)) (fun v σ2 B2 H2 d ρ2 p2 s2 => k2 v σ2 B2 H2 d ρ2 p2 (s1.trans e1.ex s2))
      (fun σ2 B2 H2 ρ2 p2 s2 => k3 σ2 B2 H2 ρ2 p2 (s1.trans e1.ex s2)) (fun σ2 B2 H2 ρ2 p2 s2 => k4 σ2 B2 H2 ρ2 p2 (s1.trans e1.ex s2))
    cases b with
    | true => exact iteT (go (hr.1 rfl))
    | false => exact iteF (go (hr.2 rfl))
/-- x = e: data -/
theorem xs_set {i : Nat} (h : EV K te ρ fun d ρ' => P.nx (ρ'.set i (.dat d))) : XS K (tAsg te (gName i)) ρ P := fun B H σ E e k1 _ _ _ =>
  h B H σ _ e fun v B' H' d ρ' p s _ e' r => k1 _ B' H' _ p s.setD (e'.setD r)
/-- x = e: a new list of one's own -/
theorem xs_setO {i : Nat} (h : EF K te ρ fun ds ρ' => ∀ p, P.nx (ρ'.set i (.own p ds))) : XS K (tAsg te (gName i)) ρ P := fun B H σ E e k1 _ _ _ =>
  h B H σ _ e fun p vs B' H' ds ρ' hp s sb e' np nb no hl r => by
    refine k1 _ B' H' _ (hp p) ⟨s.ex, s.fr, fun q h => ?_, s.th⟩ (e'.setS ⟨rfl, nb, vs, hl, r⟩ fun q j t h1 h2 h3 => ?_)
    · rcases own_set h with ⟨z, _⟩ | ⟨j, t, _, h1, h2⟩
      · obtain rfl : p = q := Option.some.inj z
        exact .inr np
      · exact s.sub q ⟨j, t, h1, h2⟩
    · obtain rfl : p = q := Option.some.inj h1
      exact (no ⟨j, t, h2, h3⟩).elim

/-! ### an own list changed -/
theorem Envs.write {i : Nat} {p : Addr} {ds ds' : List D} {vs' : List V} (e : Envs K B H σ ρ) (hi : ρ[i]? = some (.own p ds)) (r : RepAll K B vs' ds') :
    Envs K B (upd H p (.lst vs')) σ (ρ.set i (.own p ds')) ∧ Stp ρ B H (ρ.set i (.own p ds')) B (upd H p (.lst vs')) ∧ ∀ q, Own (ρ.set i (.own p ds')) q → Own ρ q := by
  obtain ⟨q, n, vs, h1, _⟩ := e.ok i _ hi
  have ow : Own ρ p := ⟨i, _, hi, rfl⟩
  have sb : ∀ z, Own (ρ.set i (.own p ds')) z → Own ρ z := fun z h => by
    rcases own_set h with ⟨z, _⟩ | ⟨j, t, _, h1, h2⟩
    · obtain rfl := Option.some.inj z
      exact ow
    · exact ⟨j, t, h1, h2⟩
  refine ⟨⟨fun a o h => ?_, by rw [List.length_set]; exact e.len, fun j t h => ?_, fun j k t s z h2 h3 h4 h5 => ?_⟩, ⟨Ex.refl B, fun a o h2 h3 h4 => ⟨?_, h3⟩, fun z h => .inl (sb z h), fun a h => ?_⟩, sb⟩
  · rw [upd_ne (ne_of_none h n)]
    exact e.ex a o h
  · rw [List.getElem?_set] at h
    split at h
    · rename_i ij
      subst ij
      split at h
      · cases h
        exact ⟨q, n, vs', upd_same, r⟩
      · cases h
    · rename_i ij
      have o := e.ok j t h
      cases t with
      | unk => trivial
      | dat d => exact o
      | own p' d' =>
        obtain ⟨h2, h3, us, h4, h5⟩ := o
        refine ⟨h2, h3, us, ?_, h5⟩
        rw [upd_ne (fun z => ij (e.inj i j _ _ p hi h rfl (by rw [← z]; rfl)))]
        exact h4
      | obj p' C fs =>
        obtain ⟨h2, h3, dx, us, h4, h5⟩ := o
        refine ⟨h2, h3, dx, us, ?_, h5⟩
        rw [upd_ne (fun z => ij (e.inj i j _ _ p hi h rfl (by rw [← z]; rfl)))]
        exact h4
  · exact inj_set e.inj (fun q j t h1 h2 h3 => by
      obtain rfl := Option.some.inj h1
      exact e.inj j i _ _ _ h2 hi h3 rfl) j k t s z h2 h3 h4 h5
  · rw [upd_ne (fun z => h4 (by rw [z]; exact ow))]
    exact h2
  · by_cases z : a = p
    · subst z; rw [upd_same] at h; cases h
    · rw [upd_ne z] at h; exact h
/-- xs.append(e) -/
theorem xs_app {i : Nat} {p : Addr} {ds0 : List D} (hi : ρ[i]? = some (.own p ds0)) (h : EV K te ρ fun d ρ' => ∃ ds, ρ'[i]? = some (.own p ds) ∧ ds.length < sizeLine ∧ P.nx (ρ'.set i (.own p (ds ++ [d])))) :
    XS K (tDrop (tBM K "list" rAppend (tVar i) (tCons te tNil))) ρ P := fun B H σ E e k1 _ _ _ => by
  obtain ⟨q, n, vs, h1, r0⟩ := e.ok i _ hi
  refine ⟨.ref p, e.at q, .inl ⟨rfl, vs, SqL.of h1⟩, h B H σ _ e fun v B' H' d ρ' ⟨ds, hi', hz, hp⟩ s sb e' r => ?_⟩
  obtain ⟨q', n', us, h1', r'⟩ := e'.ok i _ hi'
  obtain ⟨e2, s2, _⟩ := e'.write (vs' := us ++ [v]) hi' (r'.append (RepAll.one r))
  exact ⟨p, us, v, rfl, rfl, h1', by rw [r'.length]; exact hz, k1 σ B' _ _ hp (s.trans e'.ex s2) e2⟩
/-- xs.extend(e) -/
theorem xs_ext {i : Nat} {p : Addr} {ds0 : List D} (hi : ρ[i]? = some (.own p ds0)) (h : EV K te ρ fun d ρ' => ∃ ds es, d = .lst es ∧ ρ'[i]? = some (.own p ds) ∧ ds.length + es.length ≤ sizeLine ∧ P.nx (ρ'.set i (.own p (ds ++ es)))) :
    XS K (tDrop (tBM K "list" rExtend (tVar i) (tCons te tNil))) ρ P := fun B H σ E e k1 _ _ _ => by
  obtain ⟨q, n, vs, h1, r0⟩ := e.ok i _ hi
  refine ⟨.ref p, e.at q, .inl ⟨rfl, vs, SqL.of h1⟩, h B H σ _ e fun v B' H' d ρ' ⟨ds, es, hd, hi', hz, hp⟩ s sb e' r => ?_⟩
  subst hd
  cases r with
  | lst hb rr =>
    rename_i a xs
    obtain ⟨q', n', us, h1', r'⟩ := e'.ok i _ hi'
    obtain ⟨e2, s2, _⟩ := e'.write (vs' := us ++ xs) hi' (r'.append rr)
    exact ⟨p, a, us, xs, rfl, rfl, h1', e'.ex _ _ hb, by rw [r'.length, rr.length]; exact hz, k1 σ B' _ _ hp (s.trans e'.ex s2) e2⟩
/-- xs[j] = e -/
theorem xs_put {i : Nat} {p : Addr} {ti : TE} (h : EV K te ρ fun d ρ1 => ∃ ds1, ρ1[i]? = some (.own p ds1) ∧ EV K ti ρ1 fun x ρ2 => ∃ ds k j, x = .int k ∧ ρ2[i]? = some (.own p ds) ∧ ixN ds.length k = some j ∧ P.nx (ρ2.set i (.own p (ds.set j d)))) :
    XS K (tAsg te (gSub (tVar i) ti rSetL)) ρ P := fun B H σ E e k1 _ _ _ => by
  refine h B H σ _ e fun v B1 H1 d ρ1 ⟨ds1, hi1, h1⟩ s1 sb1 e1 r1 => ?_
  obtain ⟨q, n, vs, hl, r0⟩ := e1.ok i _ hi1
  refine ⟨.ref p, e1.at q, h1 B1 H1 σ _ e1 fun x B2 H2 d2 ρ2 ⟨ds, k, j, hd, hi2, hj, hp⟩ s2 sb2 e2 r2 => ?_⟩
  subst hd
  cases r2
  obtain ⟨q', n', us, h1', r'⟩ := e2.ok i _ hi2
  obtain ⟨e3, s3, _⟩ := e2.write (vs' := us.set j v) hi2 (r'.set j (r1.up s2.ex))
  exact ⟨p, us, k, j, rfl, rfl, h1', by rw [r'.length]; exact hj, k1 σ B2 _ _ hp ((s1.trans e1.ex s2).trans e2.ex s3) e3⟩
/-- x += e, ints -/
theorem xs_aug {i : Nat} {f : Int → Int → Int} {a : Int} (hi : ρ[i]? = some (.dat (.int a))) (h : EV K te ρ fun d ρ' => ∃ b, d = .int b ∧ P.nx (ρ'.set i (.dat (.int (f a b))))) : XS K (tAug i te (ipI f)) ρ P := fun B H σ E e k1 _ _ _ => by
  obtain ⟨u, q, r⟩ := e.ok i _ hi
  cases r
  refine ⟨.int a, e.at q, h B H σ _ e fun v B' H' d ρ' ⟨b, hd, hp⟩ s sb e' r => ?_⟩
  subst hd
  cases r
  exact ⟨a, b, rfl, rfl, k1 _ B' H' _ hp s.setD (e'.setD (.int _))⟩

/-! ### own lists read -/
theorem ev_ixO {i : Nat} {p : Addr} {ti : TE} {Q : D → List Sl → Prop} {ds0 : List D} (hi : ρ[i]? = some (.own p ds0)) (h : EV K ti ρ fun x ρ1 => ∃ ds k d, x = .int k ∧ ρ1[i]? = some (.own p ds) ∧ atI ds k = some d ∧ Q d ρ1) : EV K (tOp (rIx K) (tVar i) ti) ρ Q := fun B H σ R e k1 => by
  obtain ⟨q, n, vs, h1, r0⟩ := e.ok i _ hi
  refine ⟨.ref p, e.at q, h B H σ _ e fun x B' H' d' ρ' ⟨ds, k, d, hd, hi', ha, hp⟩ s sb e' r => ?_⟩
  subst hd
  cases r
  obtain ⟨q', n', us, h1', r'⟩ := e'.ok i _ hi'
  unfold atI at ha
  cases hx : ixN ds.length k with
  | none => rw [hx] at ha; cases ha
  | some j =>
    rw [hx] at ha
    obtain ⟨v, hv, rv⟩ := r'.get (show ds[j]? = some d from ha)
    refine .inl ⟨p, us, k, v, rfl, rfl, SqL.of h1', ?_, k1 v B' H' d ρ' hp s sb e' rv⟩
    unfold atI
    rw [r'.length, hx]
    exact hv
end
end Dn
namespace Dn
open PySem PySem.Spec PyProof.Rows L2 Evl
/-! ### what is handed on -/
def slOf (ρ : List Sl) : Ar → Sl
  | .dat d => .dat d
  | .slot i => ρ[i]?.getD .unk
def slots : List Ar → List Nat
  | [] => []
  | .dat _ :: r => slots r
  | .slot i :: r => i :: slots r
def upds : List Sl → List Ar → List Sl → List Sl
  | ρ, [], _ => ρ
  | ρ, _ :: _, [] => ρ
  | ρ, .dat _ :: as, _ :: rs => upds ρ as rs
  | ρ, .slot i :: as, r :: rs => upds (ρ.set i r) as rs
theorem mem_slots : ∀ {as : List Ar} {j i : Nat}, as[j]? = some (.slot i) → i ∈ slots as
  | [], j, i, h => by simp at h
  | .dat d :: r, 0, i, h => by simp at h
  | .slot k :: r, 0, i, h => by
    simp at h
    subst h
    exact List.mem_cons_self
  | .dat d :: r, j + 1, i, h => mem_slots (as := r) (j := j) (by simpa using h)
  | .slot k :: r, j + 1, i, h => List.mem_cons_of_mem _ (mem_slots (as := r) (j := j) (by simpa using h))
theorem slots_inj : ∀ {as : List Ar} {j k i : Nat}, (slots as).Nodup → as[j]? = some (.slot i) → as[k]? = some (.slot i) → j = k
  | [], j, k, i, _, h, _ => by simp at h
  | .dat d :: r, 0, k, i, _, h, _ => by simp at h
  | .dat d :: r, j + 1, 0, i, _, _, h => by simp at h
  | .dat d :: r, j + 1, k + 1, i, n, h, q => by rw [slots_inj (as := r) (j := j) (k := k) n (by simpa using h) (by simpa using q)]
  | .slot m :: r, 0, 0, i, _, _, _ => rfl
  | .slot m :: r, 0, k + 1, i, n, h, q => by
    simp at h
    subst h
    exact absurd (mem_slots (as := r) (j := k) (by simpa using q)) (List.nodup_cons.mp n).1
  | .slot m :: r, j + 1, 0, i, n, h, q => by
    simp at q
    subst q
    exact absurd (mem_slots (as := r) (j := j) (by simpa using h)) (List.nodup_cons.mp n).1
  | .slot m :: r, j + 1, k + 1, i, n, h, q => by rw [slots_inj (as := r) (j := j) (k := k) (List.nodup_cons.mp n).2 (by simpa using h) (by simpa using q)]
theorem upds_len : ∀ (as : List Ar) (ρ rs : List Sl), (upds ρ as rs).length = ρ.length
  | [], ρ, [] => rfl
  | [], ρ, _ :: _ => rfl
  | .dat d :: as, ρ, [] => rfl
  | .slot i :: as, ρ, [] => rfl
  | .dat d :: as, ρ, r :: rs => upds_len as ρ rs
  | .slot i :: as, ρ, r :: rs => by
    show (upds (ρ.set i r) as rs).length = ρ.length
    rw [upds_len as (ρ.set i r) rs, List.length_set]
theorem upds_get : ∀ (as : List Ar) (ρ rs : List Sl), as.length = rs.length → ∀ k t, (upds ρ as rs)[k]? = some t → (∃ j : Nat, as[j]? = some (.slot k) ∧ rs[j]? = some t) ∨ (k ∉ slots as ∧ ρ[k]? = some t)
  | [], ρ, [], _, k, t, h => .inr ⟨List.not_mem_nil, h⟩
  | [], ρ, _ :: _, l, k, t, h => by cases l
  | _ :: _, ρ, [], l, k, t, h => by cases l
  | .dat d :: as, ρ, r :: rs, l, k, t, h => by
    rcases upds_get as ρ rs (Nat.succ.inj l) k t h with ⟨j, h1, h2⟩ | ⟨h1, h2⟩
    · exact .inl ⟨j + 1, by simpa using h1, by simpa using h2⟩
    · exact .inr ⟨h1, h2⟩
  | .slot i :: as, ρ, r :: rs, l, k, t, h => by
    rcases upds_get as (ρ.set i r) rs (Nat.succ.inj l) k t h with ⟨j, h1, h2⟩ | ⟨h1, h2⟩
    · exact .inl ⟨j + 1, by simpa using h1, by simpa using h2⟩
    · rcases get_set_own h2 with ⟨a, b⟩ | ⟨a, b⟩
      · subst a b
        exact .inl ⟨0, rfl, rfl⟩
      · refine .inr ⟨fun z => ?_, b⟩
        rcases List.mem_cons.mp z with z | z
        · exact a z
        · exact h1 z
theorem paired_at {α β : Type} {F : α → β → Prop} : ∀ {l : List α} {m : List β} {j : Nat} {b : β}, Paired F l m → m[j]? = some b → ∃ a, l[j]? = some a ∧ F a b
  | _, _, j, b, .nil, h => by simp at h
  | _, _, 0, b, .cons r _, h => by
    simp at h
    subst h
    exact ⟨_, rfl, r⟩
  | _, _, j + 1, b, .cons _ t, h => by
    obtain ⟨a, h1, h2⟩ := paired_at (j := j) t (by simpa using h)
    exact ⟨a, by simpa using h1, h2⟩
theorem map_some_at {vs : List V} {j : Nat} : (vs.map some)[j]?.join = vs[j]? := by
  rw [List.getElem?_map]
  cases vs[j]? <;> rfl

section
variable {K : PySem.W.Frag} {B H B1 H1 B' H' : Hp} {σ : L2.St} {ρ ρ1 : List Sl} {te : TE} {ta : TA}
theorem slOf_ad {a : Ar} {s : Sl} {p : Addr} (h : slOf ρ a = s) (q : s.ad = some p) : ∃ i, a = .slot i ∧ ρ[i]? = some s := by
  cases a with
  | dat d =>
    subst h
    cases q
  | slot i =>
    refine ⟨i, rfl, ?_⟩
    have h' : ρ[i]?.getD .unk = s := h
    cases e : ρ[i]? with
    | none =>
      rw [e] at h'
      subst h'
      cases q
    | some t =>
      rw [e] at h'
      exact congrArg some h'
theorem own_args {as : List Ar} {p : Addr} (h : Own (as.map (slOf ρ)) p) : ∃ (j i : Nat) (s : Sl), as[j]? = some (.slot i) ∧ ρ[i]? = some s ∧ s.ad = some p := by
  obtain ⟨j, s, h1, h2⟩ := h
  rw [List.getElem?_map] at h1
  cases e : as[j]? with
  | none => rw [e] at h1; cases h1
  | some a =>
    rw [e] at h1
    obtain ⟨i, h3, h4⟩ := slOf_ad (Option.some.inj h1) h2
    exact ⟨j, i, s, by rw [← h3]; exact e, h4, h2⟩
theorem Envs.args {vs : List V} {as : List Ar} (e : Envs K B H σ ρ) (r : Paired (ArOk K B σ ρ) vs as) (nd : (slots as).Nodup) : Envs K B H (vs.map some) (as.map (slOf ρ)) := by
  refine ⟨e.ex, by rw [List.length_map, List.length_map]; exact r.length.symm, fun j s h => ?_, fun j k s t p h1 h2 h3 h4 => ?_⟩
  · rw [map_some_at]
    rw [List.getElem?_map] at h
    cases ea : as[j]? with
    | none => rw [ea] at h; cases h
    | some a =>
      rw [ea] at h
      obtain ⟨v, hv, ro⟩ := paired_at r ea
      rw [hv]
      have hs : slOf ρ a = s := Option.some.inj h
      subst hs
      cases a with
      | dat d => exact ⟨v, rfl, ro⟩
      | slot i =>
        obtain ⟨q1, s, p, q2, q3⟩ := ro
        show SlOk K B H (some v) (ρ[i]?.getD .unk)
        rw [q2]
        show SlOk K B H (some v) s
        rw [← q1]
        exact e.ok i s q2
  · rw [List.getElem?_map] at h1 h2
    cases ea : as[j]? with
    | none => rw [ea] at h1; cases h1
    | some a =>
      cases eb : as[k]? with
      | none => rw [eb] at h2; cases h2
      | some b =>
        rw [ea] at h1
        rw [eb] at h2
        obtain ⟨i1, x1, y1⟩ := slOf_ad (Option.some.inj h1) h3
        obtain ⟨i2, x2, y2⟩ := slOf_ad (Option.some.inj h2) h4
        have ii : i1 = i2 := e.inj i1 i2 s t p y1 y2 h3 h4
        subst x1 x2
        subst ii
        exact slots_inj nd ea eb
/-- behind a call -/
theorem Envs.back {vs : List V} {as : List Ar} {ρ0' : List Sl} (e : Envs K B H σ ρ) (r : Paired (ArOk K B σ ρ) vs as) (e' : Envs K B' H' (vs.map some) ρ0')
    (s : Stp (as.map (slOf ρ)) B H ρ0' B' H') (sb : ∀ p, Own ρ0' p → Own (as.map (slOf ρ)) p) : Envs K B' H' σ (upds ρ as ρ0') ∧ Stp ρ B H (upds ρ as ρ0') B' H' ∧ ∀ p, Own (upds ρ as ρ0') p → Own ρ p := by
  have ll : as.length = ρ0'.length := by rw [e'.len, List.length_map, r.length]
  have back : ∀ p, Own ρ0' p → Own ρ p := fun p h => by
    obtain ⟨j, i, t, _, h2, h3⟩ := own_args (sb p h)
    exact ⟨i, t, h2, h3⟩
  have out : ∀ k t p, k ∉ slots as → ρ[k]? = some t → t.ad = some p → ¬ Own (as.map (slOf ρ)) p := fun k t p h1 h2 h3 h4 => by
    obtain ⟨j, i, t', h5, h6, h7⟩ := own_args h4
    obtain rfl := e.inj k i t t' p h2 h6 h3 h7
    exact h1 (mem_slots h5)
  have osub : ∀ p, Own (upds ρ as ρ0') p → Own ρ p := fun p ⟨k, t, h1, h2⟩ => by
    rcases upds_get as ρ ρ0' ll k t h1 with ⟨j, _, h4⟩ | ⟨_, h4⟩
    · exact back p ⟨j, t, h4, h2⟩
    · exact ⟨k, t, h4, h2⟩
  refine ⟨⟨e'.ex, by rw [upds_len]; exact e.len, fun k t h => ?_, fun k m t u p h1 h2 h3 h4 => ?_⟩, ⟨s.ex, fun a o h1 h2 h3 => s.fr a o h1 h2 fun z => h3 ?_, fun p h => .inl (osub p h), s.th⟩, osub⟩
  · rcases upds_get as ρ ρ0' ll k t h with ⟨j, h1, h2⟩ | ⟨h1, h2⟩
    · obtain ⟨v, hv, q1, _⟩ := paired_at r h1
      have o := e'.ok j t h2
      rw [map_some_at, hv] at o
      rw [q1]
      exact o
    · have o := e.ok k t h2
      cases t with
      | unk => trivial
      | dat d =>
        obtain ⟨w, q1, q2⟩ := o
        exact ⟨w, q1, q2.up s.ex⟩
      | own p ds =>
        obtain ⟨q1, q2, us, q3, q4⟩ := o
        obtain ⟨z1, z2⟩ := s.fr p _ q3 q2 (out k _ p h1 h2 rfl)
        exact ⟨q1, z2, us, z1, q4.up s.ex⟩
      | obj p C fs =>
        obtain ⟨q1, q2, dx, us, q3, q4⟩ := o
        obtain ⟨z1, z2⟩ := s.fr p _ q3 q2 (out k _ p h1 h2 rfl)
        exact ⟨q1, z2, dx, us, z1, q4.up s.ex⟩
  · rcases upds_get as ρ ρ0' ll k t h1 with ⟨j, x1, y1⟩ | ⟨x1, y1⟩
    · rcases upds_get as ρ ρ0' ll m u h2 with ⟨j', x2, y2⟩ | ⟨x2, y2⟩
      · obtain rfl := e'.inj j j' t u p y1 y2 h3 h4
        rw [x1] at x2
        exact Ar.slot.inj (Option.some.inj x2)
      · exact (out m u p x2 y2 h4 (sb p ⟨j, t, y1, h3⟩)).elim
    · rcases upds_get as ρ ρ0' ll m u h2 with ⟨j', x2, y2⟩ | ⟨x2, y2⟩
      · exact (out k t p x1 y1 h3 (sb p ⟨j', u, y2, h4⟩)).elim
      · exact e.inj k m t u p y1 y2 h3 h4
  · obtain ⟨j, i, t, _, q1, q2⟩ := own_args z
    exact ⟨i, t, q1, q2⟩

/-! ### argument lists -/
theorem ea_nil {P : List Ar → List Sl → Prop} (h : P [] ρ) : EA K tNil ρ P := fun B H σ Q e k => k [] B H [] ρ h .refl (fun _ z => z) e .nil
theorem ea_cons {P : List Ar → List Sl → Prop} (h : EV K te ρ fun d ρ1 => EA K ta ρ1 fun as ρ2 => P (.dat d :: as) ρ2) : EA K (tCons te ta) ρ P := fun B H σ Q e k =>
  h B H σ _ e fun v B1 H1 d ρ1 h1 s1 b1 e1 r1 => h1 B1 H1 σ _ e1 fun vs B2 H2 as ρ2 h2 s2 b2 e2 r2 => k (v :: vs) B2 H2 (.dat d :: as) ρ2 h2 (s1.trans e1.ex s2) (fun z h => b1 z (b2 z h)) e2 (.cons (r1.up s2.ex) r2)
theorem ea_slot {P : List Ar → List Sl → Prop} {i : Nat} {s : Sl} {p : Addr} (hi : ρ[i]? = some s) (hp : s.ad = some p) (h : EA K ta ρ fun as ρ2 => (∃ s' p', ρ2[i]? = some s' ∧ s'.ad = some p') ∧ P (.slot i :: as) ρ2) : EA K (tCons (tVar i) ta) ρ P := fun B H σ Q e k => by
  have q : ∃ v, σ[i]?.join = some v := by
    have o := e.ok i s hi
    cases s with
    | unk => cases hp
    | dat d => cases hp
    | own p' ds => exact ⟨_, o.1⟩
    | obj p' C fs => exact ⟨_, o.1⟩
  obtain ⟨v, hv⟩ := q
  exact ⟨v, e.at hv, h B H σ _ e fun vs B2 H2 as ρ2 ⟨ho, h2⟩ s2 b2 e2 r2 => k (v :: vs) B2 H2 (.slot i :: as) ρ2 h2 s2 b2 e2 (.cons ⟨hv, ho⟩ r2)⟩

/-! ### a def's promise over data: W is its weakest precondition -/
def spW (K : PySem.W.Frag) (W : List Sl → (D → List Sl → Prop) → Prop) : Sp := fun vs H Q _ => ∃ B ρ P, Envs K B H (vs.map some) ρ ∧ W ρ P ∧
  ∀ v B' H' d ρ', P d ρ' → Stp ρ B H ρ' B' H' → (∀ p, Own ρ' p → Own ρ p) → Envs K B' H' (vs.map some) ρ' → Rep K B' v d → Q v H'
theorem ev_call {P : D → List Sl → Prop} {W : List Sl → (D → List Sl → Prop) → Prop} {E : XK} (h : EA K ta ρ fun as ρ1 => (slots as).Nodup ∧ W (as.map (slOf ρ1)) fun d ρ0' => P d (upds ρ1 as ρ0')) : EV K (tCall (spW K W) [] E ta) ρ P := fun B H σ Q e k =>
  h B H σ _ e fun vs B1 H1 as ρ1 ⟨nd, hw⟩ s1 b1 e1 r1 => by
    rw [List.append_nil]
    refine ⟨B1, as.map (slOf ρ1), _, e1.args r1 nd, hw, fun v B' H' d ρ' hp s' sb' e' r' => ?_⟩
    obtain ⟨e2, s2, b2⟩ := e1.back r1 e' s' sb'
    exact k v B' H' d _ hp (s1.trans e1.ex s2) (fun z h => b1 z (b2 z h)) e2 r'
/-- a def without inout: data in, data out -/
def pureW (W : List D → (D → Prop) → Prop) : List Sl → (D → List Sl → Prop) → Prop := fun ρ P => ∃ ds : List D, ρ = ds.map .dat ∧ W ds fun d => P d (ds.map fun _ => .unk)

/-! ### a def's body -/
def fin : List Sl → List Sl → List Sl
  | [], _ => []
  | s0 :: r0, [] => .unk :: fin r0 []
  | s0 :: r0, s :: r => (match s0.ad with | some _ => s | none => .unk) :: fin r0 r
def kept : List Sl → List Sl → Prop
  | [], _ => True
  | s0 :: r0, [] => s0.ad = none ∧ kept r0 []
  | s0 :: r0, s :: r => (∀ p, s0.ad = some p → s.ad = some p) ∧ kept r0 r
theorem fin_len : ∀ (ρ0 ρ' : List Sl), (fin ρ0 ρ').length = ρ0.length
  | [], _ => rfl
  | _ :: r0, [] => congrArg Nat.succ (fin_len r0 [])
  | _ :: r0, _ :: r => congrArg Nat.succ (fin_len r0 r)
theorem fin_get : ∀ (ρ0 ρ' : List Sl) (i : Nat) (s : Sl), kept ρ0 ρ' → (fin ρ0 ρ')[i]? = some s → s = .unk ∨ ∃ s0 p, ρ0[i]? = some s0 ∧ s0.ad = some p ∧ ρ'[i]? = some s ∧ s.ad = some p
  | [], _, i, s, _, h => by simp [fin] at h
  | s0 :: r0, [], 0, s, _, h => by
    simp [fin] at h
    exact .inl h.symm
  | s0 :: r0, [], i + 1, s, k, h => by
    rcases fin_get r0 [] i s k.2 (by simpa [fin] using h) with z | ⟨s0, p, h1, h2, h3, h4⟩
    · exact .inl z
    · simp at h3
  | s0 :: r0, t :: r, 0, s, k, h => by
    cases e : s0.ad with
    | none =>
      simp [fin, e] at h
      exact .inl h.symm
    | some p =>
      simp [fin, e] at h
      subst h
      exact .inr ⟨s0, p, rfl, e, rfl, k.1 p e⟩
  | s0 :: r0, t :: r, i + 1, s, k, h => by
    rcases fin_get r0 r i s k.2 (by simpa [fin] using h) with z | ⟨s0, p, h1, h2, h3, h4⟩
    · exact .inl z
    · exact .inr ⟨s0, p, by simpa using h1, h2, by simpa using h3, h4⟩
theorem Envs.fin {vs : List V} {σ' : L2.St} {ρ0 ρ' : List Sl} (e0 : Envs K B H (vs.map some) ρ0) (e : Envs K B' H' σ' ρ') (k : kept ρ0 ρ') : Envs K B' H' (vs.map some) (fin ρ0 ρ') := by
  refine ⟨e.ex, by rw [fin_len]; exact e0.len, fun i s h => ?_, fun i j s t p h1 h2 h3 h4 => ?_⟩
  · rcases fin_get ρ0 ρ' i s k h with z | ⟨s0, p, h1, h2, h3, h4⟩
    · subst z; trivial
    · have o0 := e0.ok i s0 h1
      have o := e.ok i s h3
      have v0 : (vs.map some)[i]?.join = some (.ref p) := by
        cases s0 with
        | unk => cases h2
        | dat d => cases h2
        | own p' ds => obtain rfl := Option.some.inj h2; exact o0.1
        | obj p' C fs => obtain rfl := Option.some.inj h2; exact o0.1
      rw [v0]
      cases s with
      | unk => trivial
      | dat d => cases h4
      | own p' ds =>
        obtain rfl := Option.some.inj h4
        exact ⟨rfl, o.2⟩
      | obj p' C fs =>
        obtain rfl := Option.some.inj h4
        exact ⟨rfl, o.2⟩
  · rcases fin_get ρ0 ρ' i s k h1 with z | ⟨_, _, _, _, q1, _⟩
    · subst z; cases h3
    · rcases fin_get ρ0 ρ' j t k h2 with z | ⟨_, _, _, _, q2, _⟩
      · subst z; cases h4
      · exact e.inj i j s t p q1 q2 h3 h4
theorem own_fin {ρ0 ρ' : List Sl} {p : Addr} (k : kept ρ0 ρ') (h : Own (Dn.fin ρ0 ρ') p) : Own ρ0 p := by
  obtain ⟨i, s, h1, h2⟩ := h
  rcases fin_get ρ0 ρ' i s k h1 with z | ⟨s0, q, q1, q2, q3, q4⟩
  · subst z; cases h2
  · rw [q4] at h2
    obtain rfl := Option.some.inj h2
    exact ⟨i, s0, q1, q2⟩
/-- what is wanted of a body: the objects handed in are still where they were -/
def bodyPost (ρ0 : List Sl) (P : D → List Sl → Prop) : Post where
  nx := fun ρ' => kept ρ0 ρ' ∧ P .non (fin ρ0 ρ')
  rt := fun d ρ' => kept ρ0 ρ' ∧ P d (fin ρ0 ρ')
theorem start_env {vs : List V} {ρ0 : List Sl} {N : List Str} (e : Envs K B H (vs.map some) ρ0) : Envs K B H (L2.start N vs) (ρ0 ++ List.replicate (N.length - ρ0.length) .unk) := by
  have l : ρ0.length = vs.length := by rw [e.len, List.length_map]
  have gt : ∀ (i : Nat) (s : Sl), (ρ0 ++ List.replicate (N.length - ρ0.length) Sl.unk)[i]? = some s → ρ0[i]? = some s ∨ s = .unk := fun i s h => by
    by_cases c : i < ρ0.length
    · rw [List.getElem?_append_left c] at h
      exact .inl h
    · rw [List.getElem?_append_right (by omega)] at h
      exact .inr (List.eq_of_mem_replicate (List.mem_of_getElem? h))
  refine ⟨e.ex, ?_, fun i s h => ?_, fun i j s t p h1 h2 h3 h4 => ?_⟩
  · unfold L2.start
    simp [l]
  · rcases gt i s h with z | z
    · have o := e.ok i s z
      have c : i < (vs.map some).length := by
        rw [← e.len]
        exact (List.getElem?_eq_some_iff.mp z).1
      unfold L2.start
      rw [List.getElem?_append_left c]
      exact o
    · subst z; trivial
  · rcases gt i s h1 with z1 | z1
    · rcases gt j t h2 with z2 | z2
      · exact e.inj i j s t p z1 z2 h3 h4
      · subst z2; cases h4
    · subst z1; cases h3
theorem own_start {ρ0 : List Sl} {n : Nat} {p : Addr} : Own (ρ0 ++ List.replicate n .unk) p ↔ Own ρ0 p := by
  constructor
  · rintro ⟨i, s, h1, h2⟩
    by_cases c : i < ρ0.length
    · rw [List.getElem?_append_left c] at h1
      exact ⟨i, s, h1, h2⟩
    · rw [List.getElem?_append_right (by omega)] at h1
      rw [List.eq_of_mem_replicate (List.mem_of_getElem? h1)] at h2
      cases h2
  · rintro ⟨i, s, h1, h2⟩
    exact ⟨i, s, by rw [List.getElem?_append_left (List.getElem?_eq_some_iff.mp h1).1]; exact h1, h2⟩
theorem body_ok {t : TS} {N : List Str} {W : List Sl → (D → List Sl → Prop) → Prop} (hx : ∀ ρ0 P, W ρ0 P → XS K t (ρ0 ++ List.replicate (N.length - ρ0.length) .unk) (bodyPost ρ0 P)) (vs : List V) (H : Hp) (Q : VK) (E : XK) (h : spW K W vs H Q E) :
    t { nx := fun _ H' => Q .non H', rt := Q } (L2.start N vs) H := by
  obtain ⟨B, ρ0, P, e, w, k⟩ := h
  have go : ∀ (v : V) (σ' : L2.St) (B' H' : Hp) (d : D) (ρ' : List Sl), kept ρ0 ρ' ∧ P d (fin ρ0 ρ') → Stp (ρ0 ++ List.replicate (N.length - ρ0.length) .unk) B H ρ' B' H' → Envs K B' H' σ' ρ' → Rep K B' v d → Q v H' := fun v σ' B' H' d ρ' hp s e' r =>
    k v B' H' d _ hp.2 ⟨s.ex, fun a o h1 h2 h3 => s.fr a o h1 h2 fun z => h3 (own_start.mp z), fun p h => .inl (own_fin hp.1 h), s.th⟩ (fun p h => own_fin hp.1 h) (e.fin e' hp.1) r
  exact hx ρ0 P w B H _ _ (start_env e) (fun σ' B' H' ρ' hp s e' => go .non σ' B' H' .non ρ' hp s e' .non) (fun v σ' B' H' d ρ' hp s e' r => go v σ' B' H' d ρ' hp s e' r) (fun _ _ _ _ z => z.elim) (fun _ _ _ _ z => z.elim)
section
variable {P : Program} {w : World} {mg : Str → Option Value} {base : Heap} {x qual : Str} {params : Arguments} {body : List Stmt} {scope : Scope} {f : Addr} {fd : FuncData} {N ps : List Str}
/-- a def of the text keeps its promise -/
theorem fnD {k : Nat} {W : List Sl → (D → List Sl → Prop) → Prop} {t : TS} (F : FunD K x qual params body scope [] [] f fd) (S : FnScope N ps scope) (len : ∀ ρ0 Q, W ρ0 Q → ρ0.length = ps.length)
    (hd : ∀ (cdv : Value) (A : Around) (outer : List Env) (s : Shared) (H : Hp) (E : XK), Room k (A.deeper (envOfC qual scope s.heap.objs.size f cdv)) → PSs (cxOf CX0 P w K mg base N qual scope f cdv A outer s H E).nox body t)
    (hx : ∀ ρ0 Q, W ρ0 Q → XS K t (ρ0 ++ List.replicate (N.length - ρ0.length) .unk) (bodyPost ρ0 Q)) : FnOk P w K mg base CX0 (k + 1) f fd ps (spW K W) := by
  refine F.ok S (fun vs H Q E h => ?_) (fun cdv A outer s H vs Q E hr h => ⟨t, (hd cdv A outer s H E hr).nox, body_ok hx vs H Q E h⟩)
  obtain ⟨B, ρ0, R, e, hw, _⟩ := h
  rw [← len ρ0 R hw, e.len, List.length_map]
end
end
end Dn
namespace Dn
open PySem PySem.Spec PyProof.Rows L2 Evl
/-! ### what is walked -/
structure ItOk (K : PySem.W.Frag) (J : It) (B : Hp) (items : List D) : Prop where
  go : ∀ i H, Ex B H → i < items.length → J.go i H
  yld : ∀ i H x H', Ex B H → i < items.length → J.yld i H x H' → ∀ B1, Ex B B1 → Ex B1 H → ∃ B2 d, items[i]? = some d ∧ Pur B1 H B2 H' ∧ Rep K B2 x d
  stop : ∀ i H, Ex B H → items.length ≤ i → J.stop i H
theorem ItOk.up {K : PySem.W.Frag} {J : It} {B B' : Hp} {items : List D} (h : ItOk K J B items) (e : Ex B B') : ItOk K J B' items :=
  ⟨fun i H x l => h.go i H (e.trans x) l, fun i H v H' x l y B1 b1 b2 => h.yld i H v H' (e.trans x) l y B1 (e.trans b1) b2, fun i H x l => h.stop i H (e.trans x) l⟩
def EI (K : PySem.W.Frag) (w : TI) (ρ : List Sl) (P : List D → List Sl → Prop) : Prop := ∀ (B H : Hp) (σ : L2.St) (R : It → Hp → Prop), Envs K B H σ ρ →
  (∀ J B' H' items ρ', P items ρ' → Stp ρ B H ρ' B' H' → (∀ p, Own ρ' p → Own ρ p) → Envs K B' H' σ ρ' → ItOk K J B' items → R J H') → w σ H R
/-- a target of an assignment, of a loop; gs: the slots that it may turn -/
def GJ (K : PySem.W.Frag) (g : TG) (gs : List Nat) (d : D) (ρ : List Sl) (P : List Sl → Prop) : Prop := ∀ (B H : Hp) (σ : L2.St) (v : V) (Q : L2.St → Hp → Prop), Envs K B H σ ρ → Rep K B v d →
  (∀ σ' B' H' ρ', P ρ' → Stp ρ B H ρ' B' H' → (∀ p, Own ρ' p → Own ρ p) → Envs K B' H' σ' ρ' → σ'.length = σ.length → (∀ k, k ∉ gs → σ'[k]? = σ[k]?) → Q σ' H') → g v σ H Q
def GsJ (K : PySem.W.Frag) (g : TGs) (gs : List Nat) (ds : List D) (ρ : List Sl) (P : List Sl → Prop) : Prop := ∀ (B H : Hp) (σ : L2.St) (vs : List V) (Q : L2.St → Hp → Prop), Envs K B H σ ρ → RepAll K B vs ds →
  (∀ σ' B' H' ρ', P ρ' → Stp ρ B H ρ' B' H' → (∀ p, Own ρ' p → Own ρ p) → Envs K B' H' σ' ρ' → σ'.length = σ.length → (∀ k, k ∉ gs → σ'[k]? = σ[k]?) → Q σ' H') → g vs σ H Q
section
variable {K : PySem.W.Frag} {B H B1 H1 : Hp} {σ : L2.St} {ρ ρ1 : List Sl} {ta tb te tl : TE} {tt : TT} {t u tb : TS} {P : Post}
theorem own_setD {i : Nat} {d : D} {p : Addr} (h : Own (ρ.set i (.dat d)) p) : Own ρ p := by
  rcases own_set h with ⟨z, _⟩ | ⟨j, t, _, h1, h2⟩
  · cases z
  · exact ⟨j, t, h1, h2⟩
theorem gj_name {i : Nat} {gs : List Nat} {d : D} {Q : List Sl → Prop} (hg : i ∈ gs) (h : Q (ρ.set i (.dat d))) : GJ K (gName i) gs d ρ Q := fun B H σ v R e r k =>
  k _ B H _ h Stp.refl.setD (fun p z => own_setD z) (e.setD r) (List.length_set ..) fun m hm => List.getElem?_set_ne fun z => hm (by rw [← z]; exact hg)
theorem gj_tup {n : Nat} {g : TGs} {gs : List Nat} {ds : List D} {Q : List Sl → Prop} (hn : ds.length = n) (h : GsJ K g gs ds ρ Q) : GJ K (gTup K n g) gs (.tup ds) ρ Q := fun B H σ v R e r k => by
  cases r with
  | tup ht ha =>
    rename_i a xs
    refine ⟨a, xs, rfl, ?_, by rw [ha.length]; exact hn, h B H σ xs R e ha k⟩
    rcases ht with ht | ht
    · refine .inl ?_
      rcases ht with ht | ⟨o, ht⟩
      · exact .inl (e.ex _ _ ht)
      · exact .inr ⟨o, e.ex _ _ ht⟩
    · exact .inr ht
theorem gsj_nil {gs : List Nat} {Q : List Sl → Prop} (h : Q ρ) : GsJ K gNil gs [] ρ Q := fun B H σ vs R e r k => by
  cases r
  exact ⟨rfl, k σ B H ρ h .refl (fun _ z => z) e rfl fun _ _ => rfl⟩
theorem gsj_cons {g : TG} {gr : TGs} {gs : List Nat} {d : D} {ds : List D} {Q : List Sl → Prop} (h : GJ K g gs d ρ fun ρ1 => GsJ K gr gs ds ρ1 Q) : GsJ K (gCons g gr) gs (d :: ds) ρ Q := fun B H σ vs R e r k => by
  cases r with
  | cons r1 r2 =>
    refine ⟨_, _, rfl, h B H σ _ _ e r1 fun σ1 B1 H1 ρ1 h1 s1 b1 e1 l1 f1 => h1 B1 H1 σ1 _ R e1 (r2.up s1.ex) fun σ2 B2 H2 ρ2 h2 s2 b2 e2 l2 f2 => ?_⟩
    exact k σ2 B2 H2 ρ2 h2 (s1.trans e1.ex s2) (fun z q => b1 z (b2 z q)) e2 (l2.trans l1) fun m hm => (f2 m hm).trans (f1 m hm)
/-- (a, b, ..) = e -/
theorem xs_asgG {g : TG} {gs : List Nat} (h : EV K te ρ fun d ρ1 => GJ K g gs d ρ1 P.nx) : XS K (tAsg te g) ρ P := fun B H σ E e k1 _ _ _ =>
  h B H σ _ e fun v B1 H1 d ρ1 h1 s1 b1 e1 r1 => h1 B1 H1 σ v _ e1 r1 fun σ2 B2 H2 ρ2 h2 s2 b2 e2 _ _ => k1 σ2 B2 H2 ρ2 h2 (s1.trans e1.ex s2) e2

/-! ### sources -/
theorem rd_up {H H' : Hp} {a : Addr} {u : HO} (e : Ex H H') (h : Rd H a u) : Rd H' a u := ex_rd e h
theorem itOk_list {a : Addr} {xs : List V} {ds : List D} (h : SqL K B a xs) (r : RepAll K B xs ds) (inj : ∀ H ys, Ex B H → SqL K H a ys → ys = xs) : ItOk K (Itl K a) B ds :=
  ⟨fun i H e l => ⟨xs, xs[i]'(by rw [r.length]; exact l), ex_l e h, by simp [r.length, l]⟩, fun i H x H' e l y B1 b1 b2 => by
    obtain ⟨rfl, y⟩ := y
    obtain ⟨d, h1, h2⟩ := r.getV (y xs (ex_l e h))
    exact ⟨B1, d, h1, Pur.refl b2, h2.up b1⟩, fun i H e l => ⟨xs, ex_l e h, by rw [r.length]; exact l⟩⟩
theorem ei_list (h : EV K tl ρ fun d ρ1 => ∃ ds, (d = .lst ds ∨ d = .rol ds) ∧ R ds ρ1) : EI K (iList K tl) ρ R := fun B H σ Q e k =>
  h B H σ _ e fun v B1 H1 d ρ1 ⟨ds, hd, hr⟩ s1 b1 e1 r1 => by
    have go : ∀ {a : Addr} {xs : List V}, SqL K B1 a xs → RepAll K B1 xs ds → (∃ xs, SqL K H1 a xs) ∧ Q (Itl K a) H1 := fun {a xs} hs ha => by
      refine ⟨⟨xs, ex_l e1.ex hs⟩, k _ B1 H1 ds ρ1 hr s1 b1 e1 ⟨fun i H e l => ⟨xs, xs[i]'(by rw [ha.length]; exact l), ex_l e hs, by simp [ha.length, l]⟩, fun i H x H' e l y B2 b1 b2 => ?_, fun i H e l => ⟨xs, ex_l e hs, by rw [ha.length]; exact l⟩⟩⟩
      obtain ⟨rfl, y⟩ := y
      obtain ⟨d, h1, h2⟩ := ha.getV (y xs (ex_l e hs))
      exact ⟨B2, d, h1, Pur.refl b2, h2.up b1⟩
    rcases hd with rfl | rfl
    · cases r1 with
      | lst hb ha => exact ⟨_, rfl, go (sq_of hb) ha⟩
    · cases r1 with
      | rol hb ha => exact ⟨_, rfl, go hb ha⟩
theorem ei_tup (h : EV K tl ρ fun d ρ1 => ∃ ds, d = .tup ds ∧ R ds ρ1) : EI K (iTup K tl) ρ R := fun B H σ Q e k =>
  h B H σ _ e fun v B1 H1 d ρ1 ⟨ds, hd, hr⟩ s1 b1 e1 r1 => by
    subst hd
    cases r1 with
    | tup hs ha =>
      rename_i a xs
      refine ⟨a, rfl, ⟨xs, ex_t e1.ex hs⟩, k _ B1 H1 ds ρ1 hr s1 b1 e1 ⟨fun i H e l => ⟨xs, xs[i]'(by rw [ha.length]; exact l), ex_t e hs, by simp [ha.length, l]⟩, fun i H x H' e l y B2 b1 b2 => ?_, fun i H e l => ⟨xs, ex_t e hs, by rw [ha.length]; exact l⟩⟩⟩
      obtain ⟨rfl, y⟩ := y
      obtain ⟨d, h1, h2⟩ := ha.getV (y xs (ex_t e hs))
      exact ⟨B2, d, h1, Pur.refl b2, h2.up b1⟩
def rangeD (lo : Int) (n : Nat) : List D := (List.range n).map fun (i : Nat) => .int (lo + (i : Int))
theorem rangeD_len (lo : Int) (n : Nat) : (rangeD lo n).length = n := by simp [rangeD]
theorem rangeD_at {lo : Int} {n i : Nat} (h : i < n) : (rangeD lo n)[i]? = some (.int (lo + (i : Int))) := by simp [rangeD, h]
theorem itOk_range {lo : Int} {n : Nat} : ItOk K (Itr lo n) B (rangeD lo n) :=
  ⟨fun i H e l => by rw [rangeD_len] at l; exact l, fun i H x H' e l y B1 b1 b2 => by
    obtain ⟨rfl, rfl⟩ := y
    rw [rangeD_len] at l
    exact ⟨B1, _, rangeD_at l, Pur.refl b2, .int _⟩, fun i H e l => by rw [rangeD_len] at l; exact l⟩
theorem ei_rng1 {ta : TA} (h : EA K ta ρ fun as ρ1 => ∃ n : Int, as = [.dat (.int n)] ∧ -(2 ^ 62) ≤ n ∧ n < 2 ^ 62 ∧ R (rangeD 0 n.toNat) ρ1) : EI K (iRng1 ta) ρ R := fun B H σ Q e k =>
  h B H σ _ e fun vs B1 H1 as ρ1 ⟨n, ha, h1, h2, hr⟩ s1 b1 e1 r1 => by
    subst ha
    cases r1 with
    | cons r r' =>
      cases r'
      cases r
      exact ⟨n, rfl, h1, h2, k _ B1 H1 _ ρ1 hr s1 b1 e1 itOk_range⟩
theorem ei_rng2 {ta : TA} (h : EA K ta ρ fun as ρ1 => ∃ m n : Int, as = [.dat (.int m), .dat (.int n)] ∧ (-(2 ^ 62) ≤ m ∧ m < 2 ^ 62 ∧ -(2 ^ 62) ≤ n ∧ n < 2 ^ 62) ∧ R (rangeD m (n - m).toNat) ρ1) : EI K (iRng2 ta) ρ R := fun B H σ Q e k =>
  h B H σ _ e fun vs B1 H1 as ρ1 ⟨m, n, ha, h1, hr⟩ s1 b1 e1 r1 => by
    subst ha
    cases r1 with
    | cons r r' =>
      cases r' with
      | cons q q' =>
        cases q'
        cases r
        cases q
        exact ⟨m, n, rfl, h1, k _ B1 H1 _ ρ1 hr s1 b1 e1 itOk_range⟩
def rangeC (lo c : Int) (n : Nat) : List D := (List.range n).map fun (i : Nat) => .int (lo + (i : Int) * c)
theorem rangeC_len (lo c : Int) (n : Nat) : (rangeC lo c n).length = n := by simp [rangeC]
theorem rangeC_at {lo c : Int} {n i : Nat} (h : i < n) : (rangeC lo c n)[i]? = some (.int (lo + (i : Int) * c)) := by simp [rangeC, h]
theorem ei_rng3 {ta : TA} (h : EA K ta ρ fun as ρ1 => ∃ (i j c : Int) (n : Nat), as = [.dat (.int i), .dat (.int j), .dat (.int c)] ∧ RgC i j c n ∧ R (rangeC i c n) ρ1) : EI K (iRng3 ta) ρ R := fun B H σ Q e k =>
  h B H σ _ e fun vs B1 H1 as ρ1 ⟨i, j, c, n, ha, h1, hr⟩ s1 b1 e1 r1 => by
    subst ha
    cases r1 with
    | cons r r' =>
      cases r' with
      | cons q q' =>
        cases q' with
        | cons z z' =>
          cases z'
          cases r
          cases q
          cases z
          refine ⟨i, j, c, n, rfl, h1, k _ B1 H1 _ ρ1 hr s1 b1 e1 ⟨fun i H e l => by rw [rangeC_len] at l; exact l, fun i H x H' e l y B1 b1 b2 => ?_, fun i H e l => by rw [rangeC_len] at l; exact l⟩⟩
          obtain ⟨rfl, rfl⟩ := y
          rw [rangeC_len] at l
          exact ⟨B1, _, rangeC_at l, Pur.refl b2, .int _⟩
def signsD (s : Str) : List D := s.cps.toList.map fun c => .str ⟨#[c]⟩
theorem ei_str (h : EV K te ρ fun d ρ1 => ∃ s, d = .str s ∧ R (signsD s) ρ1) : EI K (iStr te) ρ R := fun B H σ Q e k =>
  h B H σ _ e fun v B1 H1 d ρ1 ⟨s, hd, hr⟩ s1 b1 e1 r1 => by
    subst hd
    cases r1
    have ln : (signsD s).length = s.cps.size := by simp [signsD]
    refine ⟨s, rfl, k _ B1 H1 _ ρ1 hr s1 b1 e1 ⟨fun i H e l => by rw [ln] at l; exact l, fun i H x H' e l y B1 b1 b2 => ?_, fun i H e l => by rw [ln] at l; exact l⟩⟩
    obtain ⟨rfl, c, hc, rfl⟩ := y
    refine ⟨B1, .str ⟨#[c]⟩, ?_, Pur.refl b2, .str _⟩
    unfold signsD
    rw [List.getElem?_map, Array.getElem?_toList, hc]
    rfl

/-! ### for -/
theorem xs_for {wi : TI} {g : TG} {gs : List Nat} (h : EI K wi ρ fun items ρ1 => ∃ Inv : Nat → List Sl → Prop, Inv 0 ρ1 ∧
    (∀ i d ρ', items[i]? = some d → Inv i ρ' → GJ K g gs d ρ' fun ρ2 => XS K tb ρ2 { P with nx := Inv (i + 1), ct := Inv (i + 1), bk := P.nx }) ∧ (∀ ρ', Inv items.length ρ' → P.nx ρ')) : XS K (tFor wi g tb) ρ P := fun B H σ E e k1 k2 k3 k4 =>
  h B H σ _ e fun J B1 H1 items ρ1 ⟨Iv, h0, hs, hd⟩ s1 b1 e1 it => by
    refine ⟨fun i m σ' H' => m = items.length - i ∧ i ≤ items.length ∧ ∃ B' ρ', Iv i ρ' ∧ Stp ρ B H ρ' B' H' ∧ Ex B1 B' ∧ Envs K B' H' σ' ρ', ⟨items.length, by simp, Nat.zero_le _, B1, ρ1, h0, s1, Ex.refl _, e1⟩, ?_⟩
    rintro i m σ' H' ⟨rfl, hi, B', ρ', hv, s', x', e'⟩
    have itx := it.up x'
    by_cases lt : i < items.length
    · refine .inr ⟨itx.go i H' e'.ex lt, fun σ2 H2 => ∃ B2 ρ2, Iv (i + 1) ρ2 ∧ Stp ρ B H ρ2 B2 H2 ∧ Ex B1 B2 ∧ Envs K B2 H2 σ2 ρ2, fun σ2 H2 ⟨B2, ρ2, q1, q2, q3, q4⟩ => ⟨items.length - (i + 1), by omega, rfl, lt, B2, ρ2, q1, q2, q3, q4⟩, fun x H2 y => ?_⟩
      obtain ⟨B2, d, hd', pu, rd⟩ := itx.yld i H' x H2 e'.ex lt y B' (Ex.refl _) e'.ex
      have e2 := e'.pur pu
      have s2 := s'.trans e'.ex (pu.stp (ρ := ρ'))
      refine hs i d ρ' hd' hv B2 H2 σ' x _ e2 rd fun σ3 B3 H3 ρ3 h3 s3 b3 e3 _ _ => ?_
      have st3 := s2.trans e2.ex s3
      have x3 : Ex B1 B3 := (x'.trans pu.ex).trans s3.ex
      exact h3 B3 H3 σ3 _ e3 (fun σ4 B4 H4 ρ4 p4 s4 e4 => ⟨B4, ρ4, p4, st3.trans e3.ex s4, x3.trans s4.ex, e4⟩) (fun v σ4 B4 H4 d ρ4 p4 s4 e4 r4 => k2 v σ4 B4 H4 d ρ4 p4 (st3.trans e3.ex s4) e4 r4)
        (fun σ4 B4 H4 ρ4 p4 s4 e4 => k1 σ4 B4 H4 ρ4 p4 (st3.trans e3.ex s4) e4) (fun σ4 B4 H4 ρ4 p4 s4 e4 => ⟨B4, ρ4, p4, st3.trans e3.ex s4, x3.trans s4.ex, e4⟩)
    · obtain rfl : i = items.length := by omega
      exact .inl ⟨itx.stop _ H' e'.ex (Nat.le_refl _), k1 σ' B' H' ρ' (hd ρ' hv) s' e'⟩
/-! ### while -/
theorem xs_while (Iv : Nat → List Sl → Prop) (m0 : Nat) (h0 : Iv m0 ρ) (hs : ∀ m ρ', Iv m ρ' → ET K tt ρ' fun b ρ2 => (b = true → XS K tb ρ2 { P with nx := fun ρ3 => ∃ m', m' < m ∧ Iv m' ρ3, ct := fun ρ3 => ∃ m', m' < m ∧ Iv m' ρ3, bk := P.nx }) ∧ (b = false → P.nx ρ2)) :
    XS K (tWhile tt tb) ρ P := fun B H σ E e k1 k2 k3 k4 => by
  refine ⟨fun m σ' H' => ∃ B' ρ', Iv m ρ' ∧ Stp ρ B H ρ' B' H' ∧ Envs K B' H' σ' ρ', ⟨m0, B, ρ, h0, .refl, e⟩, ?_⟩
  rintro m σ' H' ⟨B', ρ', hv, s', e'⟩
  refine hs m ρ' hv B' H' σ' _ e' fun b B2 H2 ρ2 h2 s2 b2 e2 => ?_
  have st2 := s'.trans e'.ex s2
  cases b with
  | true =>
    refine iteT ⟨fun σ3 H3 => ∃ B3 ρ3, (∃ m', m' < m ∧ Iv m' ρ3) ∧ Stp ρ B H ρ3 B3 H3 ∧ Envs K B3 H3 σ3 ρ3, fun σ3 H3 ⟨B3, ρ3, ⟨m', q0, q1⟩, q2, q3⟩ => ⟨m', q0, B3, ρ3, q1, q2, q3⟩, ?_⟩
    exact h2.1 rfl B2 H2 σ' _ e2 (fun σ4 B4 H4 ρ4 p4 s4 e4 => ⟨B4, ρ4, p4, st2.trans e2.ex s4, e4⟩) (fun v σ4 B4 H4 d ρ4 p4 s4 e4 r4 => k2 v σ4 B4 H4 d ρ4 p4 (st2.trans e2.ex s4) e4 r4)
        (fun σ4 B4 H4 ρ4 p4 s4 e4 => k1 σ4 B4 H4 ρ4 p4 (st2.trans e2.ex s4) e4) (fun σ4 B4 H4 ρ4 p4 s4 e4 => ⟨B4, ρ4, p4, st2.trans e2.ex s4, e4⟩)
  | false => exact iteF (k1 σ' B2 H2 ρ2 (h2.2 rfl) st2 e2)

/-! ### comprehensions -/
def wipeS (ρ : List Sl) : List Nat → List Sl
  | [] => ρ
  | v :: vs => (wipeS ρ vs).set v .unk
/-- behind a turn: the comprehension's own names as they were -/
def rest (ρ ρ' : List Sl) : List Nat → List Sl
  | [] => ρ'
  | v :: vs => (rest ρ ρ' vs).set v (ρ[v]?.getD .unk)
def noOwn (ρ : List Sl) (vs : List Nat) : Prop := ∀ k ∈ vs, ∀ s, ρ[k]? = some s → s.ad = none
theorem wipeS_len (ρ : List Sl) : ∀ vs, (wipeS ρ vs).length = ρ.length
  | [] => rfl
  | v :: vs => by unfold wipeS; rw [List.length_set, wipeS_len ρ vs]
theorem rest_len (ρ ρ' : List Sl) : ∀ vs, (rest ρ ρ' vs).length = ρ'.length
  | [] => rfl
  | v :: vs => by unfold rest; rw [List.length_set, rest_len ρ ρ' vs]
theorem wipeS_get : ∀ {vs : List Nat} {i : Nat} {s : Sl}, (wipeS ρ vs)[i]? = some s → (i ∈ vs ∧ s = .unk) ∨ (i ∉ vs ∧ ρ[i]? = some s)
  | [], i, s, h => .inr ⟨List.not_mem_nil, h⟩
  | v :: vs, i, s, h => by
    rcases get_set_own (show ((wipeS ρ vs).set v .unk)[i]? = some s from h) with ⟨a, b⟩ | ⟨a, b⟩
    · exact .inl ⟨by rw [a]; exact List.mem_cons_self, b⟩
    · rcases wipeS_get b with ⟨c, q⟩ | ⟨c, q⟩
      · exact .inl ⟨List.mem_cons_of_mem _ c, q⟩
      · exact .inr ⟨fun z => (List.mem_cons.mp z).elim a c, q⟩
theorem rest_get {ρ' : List Sl} : ∀ {vs : List Nat} {i : Nat} {s : Sl}, (rest ρ ρ' vs)[i]? = some s → (i ∈ vs ∧ s = ρ[i]?.getD .unk) ∨ (i ∉ vs ∧ ρ'[i]? = some s)
  | [], i, s, h => .inr ⟨List.not_mem_nil, h⟩
  | v :: vs, i, s, h => by
    rcases get_set_own (show ((rest ρ ρ' vs).set v (ρ[v]?.getD .unk))[i]? = some s from h) with ⟨a, b⟩ | ⟨a, b⟩
    · exact .inl ⟨by rw [a]; exact List.mem_cons_self, by rw [b, a]⟩
    · rcases rest_get b with ⟨c, q⟩ | ⟨c, q⟩
      · exact .inl ⟨List.mem_cons_of_mem _ c, q⟩
      · exact .inr ⟨fun z => (List.mem_cons.mp z).elim a c, q⟩
theorem wipe_at {σ : L2.St} : ∀ {vs : List Nat} {i : Nat}, (wipe σ vs)[i]? = if i ∈ vs ∧ i < σ.length then some none else σ[i]?
  | [], i => by simp [wipe]
  | v :: vs, i => by
    unfold wipe
    by_cases c : v = i
    · subst c
      by_cases l : v < σ.length
      · rw [List.getElem?_set_self (by rw [wipe_length]; exact l), if_pos ⟨List.mem_cons_self, l⟩]
      · rw [List.getElem?_eq_none (by rw [List.length_set, wipe_length]; omega), if_neg (fun z => l z.2), List.getElem?_eq_none (by omega)]
    · rw [List.getElem?_set_ne c, wipe_at]
      have e : (i ∈ v :: vs ∧ i < σ.length) ↔ (i ∈ vs ∧ i < σ.length) := by
        constructor
        · rintro ⟨a, b⟩
          exact ⟨(List.mem_cons.mp a).resolve_left fun z => c z.symm, b⟩
        · rintro ⟨a, b⟩
          exact ⟨List.mem_cons_of_mem _ a, b⟩
      by_cases q : i ∈ vs ∧ i < σ.length
      · rw [if_pos q, if_pos (e.mpr q)]
      · rw [if_neg q, if_neg (fun z => q (e.mp z))]
theorem wipe_same {σ σ2 : L2.St} {vs gs : List Nat} (hl : σ2.length = (wipe σ vs).length) (hf : ∀ k, k ∉ gs → σ2[k]? = (wipe σ vs)[k]?) (hg : ∀ k ∈ gs, k ∈ vs) : wipe σ2 vs = wipe σ vs := by
  rw [wipe_length] at hl
  refine List.ext_getElem? fun i => ?_
  rw [wipe_at, wipe_at, hl]
  by_cases c : i ∈ vs ∧ i < σ.length
  · rw [if_pos c, if_pos c]
  · rw [if_neg c, if_neg c]
    by_cases d : i ∈ vs
    · have : ¬ i < σ.length := fun z => c ⟨d, z⟩
      rw [List.getElem?_eq_none (by omega), List.getElem?_eq_none (by omega)]
    · rw [hf i (fun z => d (hg i z)), wipe_at, if_neg c]
theorem noOwn_wipe {vs : List Nat} {p : Addr} (n : noOwn ρ vs) : Own (wipeS ρ vs) p ↔ Own ρ p := by
  constructor
  · rintro ⟨i, s, h1, h2⟩
    rcases wipeS_get h1 with ⟨_, q⟩ | ⟨_, q⟩
    · subst q; cases h2
    · exact ⟨i, s, q, h2⟩
  · rintro ⟨i, s, h1, h2⟩
    refine ⟨i, s, ?_, h2⟩
    have hv : i ∉ vs := fun z => by have := n i z s h1; rw [h2] at this; cases this
    have hl : i < (wipeS ρ vs).length := by rw [wipeS_len]; exact (List.getElem?_eq_some_iff.mp h1).1
    have := wipeS_get (ρ := ρ) (vs := vs) (i := i) (List.getElem?_eq_getElem hl)
    rcases this with ⟨q, _⟩ | ⟨_, q⟩
    · exact (hv q).elim
    · rw [List.getElem?_eq_getElem hl, ← q, h1]
theorem Envs.wipe {vs : List Nat} (e : Envs K B H σ ρ) : Envs K B H (L2.wipe σ vs) (wipeS ρ vs) := by
  refine ⟨e.ex, by rw [wipeS_len, wipe_length]; exact e.len, fun i s h => ?_, fun i j s t p h1 h2 h3 h4 => ?_⟩
  · rcases wipeS_get h with ⟨_, q⟩ | ⟨c, q⟩
    · subst q; trivial
    · rw [wipe_at, if_neg (fun z => c z.1)]
      exact e.ok i s q
  · rcases wipeS_get h1 with ⟨_, q⟩ | ⟨_, q1⟩
    · subst q; cases h3
    · rcases wipeS_get h2 with ⟨_, q⟩ | ⟨_, q2⟩
      · subst q; cases h4
      · exact e.inj i j s t p q1 q2 h3 h4
/-- the slots behind a turn -/
theorem rest_get2 {vs : List Nat} {ρ' : List Sl} {i : Nat} {s : Sl} (h : (Dn.rest ρ ρ' vs)[i]? = some s) : (i ∈ vs ∧ (s = .unk ∨ ρ[i]? = some s)) ∨ (i ∉ vs ∧ ρ'[i]? = some s) := by
  rcases rest_get h with ⟨c, q⟩ | h
  · refine .inl ⟨c, ?_⟩
    cases z : ρ[i]? with
    | none => rw [z] at q; exact .inl q
    | some r => rw [z] at q; exact .inr (congrArg some q.symm)
  · exact .inr h
theorem rest_own {vs : List Nat} {ρ' : List Sl} (n : noOwn ρ vs) {i : Nat} {s : Sl} {p : Addr} (h : (Dn.rest ρ ρ' vs)[i]? = some s) (q : s.ad = some p) : ρ'[i]? = some s := by
  rcases rest_get2 h with ⟨c, z | z⟩ | ⟨_, z⟩
  · subst z; cases q
  · rw [n i c s z] at q; cases q
  · exact z
theorem Envs.rest {vs : List Nat} {σ2 : L2.St} {ρ' : List Sl} {B' H' : Hp} (e : Envs K B H σ ρ) (e' : Envs K B' H' σ2 ρ') (x : Ex B B') (n : noOwn ρ vs) (hl : σ2.length = σ.length) (hf : ∀ k, k ∉ vs → σ2[k]? = σ[k]?) : Envs K B' H' σ (Dn.rest ρ ρ' vs) := by
  refine ⟨e'.ex, by rw [rest_len, e'.len, hl], fun i s h => ?_, fun i j s t p h1 h2 h3 h4 => e'.inj i j s t p (rest_own n h1 h3) (rest_own n h2 h4) h3 h4⟩
  rcases rest_get2 h with ⟨c, z | z⟩ | ⟨c, q⟩
  · subst z; trivial
  · have o := e.ok i s z
    have na := n i c s z
    cases s with
    | unk => trivial
    | dat d =>
      obtain ⟨w, q1, q2⟩ := o
      exact ⟨w, q1, q2.up x⟩
    | own p ds => cases na
    | obj p C fs => cases na
  · rw [← hf i c]
    exact e'.ok i s q
theorem own_rest {vs : List Nat} {ρ' : List Sl} {p : Addr} (n : noOwn ρ vs) (h : Own (Dn.rest ρ ρ' vs) p) : Own ρ' p := by
  obtain ⟨i, s, h1, h2⟩ := h
  exact ⟨i, s, rest_own n h1 h2, h2⟩
/-- [e for x in source if test] -/
theorem ef_lc {wi : TI} {g : TG} {gs vs : List Nat} {R : List D → List Sl → Prop} (hgs : ∀ k ∈ gs, k ∈ vs) (h : EI K wi ρ fun items ρ1 => ∃ Inv : Nat → List D → List Sl → Prop, Inv 0 [] ρ1 ∧
    (∀ i d acc ρ', items[i]? = some d → Inv i acc ρ' → noOwn ρ' vs ∧ GJ K g gs d (wipeS ρ' vs) fun ρ2 => ET K tt ρ2 fun b ρ3 =>
      (b = true → EV K te ρ3 fun y ρ4 => acc.length < sizeLine ∧ Inv (i + 1) (acc ++ [y]) (Dn.rest ρ' ρ4 vs)) ∧ (b = false → Inv (i + 1) acc (Dn.rest ρ' ρ3 vs))) ∧ (∀ acc ρ', Inv items.length acc ρ' → R acc ρ')) : EF K (tLc wi g tt te vs) ρ R := fun B H σ Q e k =>
  h B H σ _ e fun J B1 H1 items ρ1 ⟨Iv, h0, hs, hd⟩ s1 b1 e1 it Dl hD => by
    refine ⟨fun i m H' => m = items.length - i ∧ i ≤ items.length ∧ ∃ B' ρ' acc va, Iv i acc ρ' ∧ Stp ρ B H ρ' B' H' ∧ (∀ p, Own ρ' p → Own ρ p) ∧ Ex B1 B' ∧ Envs K B' H' σ ρ' ∧ H' Dl = some (.lst va) ∧ B' Dl = none ∧ ¬ Own ρ' Dl ∧ RepAll K B' va acc,
      ⟨items.length, by simp, Nat.zero_le _, B1, ρ1, [], [], h0, ?_, b1, Ex.refl _, ?_, upd_same, fresh_back e1.ex hD, ?_, .nil⟩, ?_⟩
    · exact s1.trans e1.ex (Pur.out e1.ex hD).stp
    · exact e1.pur (Pur.out e1.ex hD)
    · exact fun z => by
        obtain ⟨_, o, q⟩ := e1.ownOf z
        rw [hD] at q; cases q
    rintro i m H' ⟨rfl, hi, B', ρ', acc, va, hv, s', b', x', e', hl, nb, no, ra⟩
    have itx := it.up x'
    by_cases lt : i < items.length
    · refine .inr ⟨itx.go i H' e'.ex lt, fun H2 => ∃ B2 ρ2 acc2 va2, Iv (i + 1) acc2 ρ2 ∧ Stp ρ B H ρ2 B2 H2 ∧ (∀ p, Own ρ2 p → Own ρ p) ∧ Ex B1 B2 ∧ Envs K B2 H2 σ ρ2 ∧ H2 Dl = some (.lst va2) ∧ B2 Dl = none ∧ ¬ Own ρ2 Dl ∧ RepAll K B2 va2 acc2,
        fun H2 ⟨B2, ρ2, acc2, va2, q⟩ => ⟨items.length - (i + 1), by omega, rfl, lt, B2, ρ2, acc2, va2, q⟩, fun x H2 y => ?_⟩
      obtain ⟨B2, d, hd', pu, rd⟩ := itx.yld i H' x H2 e'.ex lt y B' (Ex.refl _) e'.ex
      have e2 := e'.pur pu
      have s2 := s'.trans e'.ex (pu.stp (ρ := ρ'))
      obtain ⟨nw, hg⟩ := hs i d acc ρ' hd' hv
      have hl2 : H2 Dl = some (.lst va) := pu.kp _ _ hl
      have nb2 : B2 Dl = none := pu.nw _ ⟨_, hl⟩ nb
      have now : ¬ Own (wipeS ρ' vs) Dl := fun z => no ((noOwn_wipe nw).mp z)
      refine hg B2 H2 (wipe σ vs) x _ e2.wipe rd fun σ3 B3 H3 ρ3 h3 s3 b3 e3 l3 f3 => ⟨wipe_same l3 f3 hgs, ?_⟩
      refine h3 B3 H3 σ3 _ e3 fun b B4 H4 ρ4 h4 s4 b4 e4 => ?_
      have s34 := s3.trans e3.ex s4
      have l3' : σ3.length = σ.length := by rw [l3, wipe_length]
      have f3' : ∀ k, k ∉ vs → σ3[k]? = σ[k]? := fun k hk => by rw [f3 k (fun z => hk (hgs k z)), wipe_at, if_neg (fun z => hk z.1)]
      -- what is kept through the turn
      have fin : ∀ {B5 H5 : Hp} {ρ5 : List Sl}, Stp (wipeS ρ' vs) B2 H2 ρ5 B5 H5 → (∀ p, Own ρ5 p → Own (wipeS ρ' vs) p) → Envs K B5 H5 σ3 ρ5 →
          Stp ρ B H (Dn.rest ρ' ρ5 vs) B5 H5 ∧ (∀ p, Own (Dn.rest ρ' ρ5 vs) p → Own ρ p) ∧ Ex B1 B5 ∧ Envs K B5 H5 σ (Dn.rest ρ' ρ5 vs) ∧ H5 Dl = some (.lst va) ∧ B5 Dl = none ∧ ¬ Own (Dn.rest ρ' ρ5 vs) Dl ∧ RepAll K B5 va acc := fun {B5 H5 ρ5} s5 b5 e5 => by
        obtain ⟨z1, z2⟩ := s5.fr Dl _ hl2 nb2 now
        have ob : ∀ p, Own (Dn.rest ρ' ρ5 vs) p → Own ρ' p := fun p z => (noOwn_wipe nw).mp (b5 p (own_rest nw z))
        have sx : Stp ρ' B2 H2 (Dn.rest ρ' ρ5 vs) B5 H5 := ⟨s5.ex, fun a o q1 q2 q3 => s5.fr a o q1 q2 fun z => q3 ((noOwn_wipe nw).mp z), fun p z => .inl (ob p z), s5.th⟩
        exact ⟨s2.trans e2.ex sx, fun p z => b' p (ob p z), (x'.trans pu.ex).trans s5.ex, e2.rest e5 s5.ex nw l3' f3', z1, z2, fun z => no (ob _ z), ra.up (pu.ex.trans s5.ex)⟩
      cases b with
      | true =>
        refine iteT (h4.1 rfl B4 H4 σ3 _ e4 fun v B5 H5 y ρ5 ⟨hz, h5⟩ s5 b5 e5 r5 => ?_)
        obtain ⟨q1, q2, q3, q4, q5, q6, q7, q8⟩ := fin (s34.trans e4.ex s5) (fun p z => b3 p (b4 p (b5 p z))) e5
        refine ⟨va, q5, by rw [q8.length]; exact hz, B5, _, acc ++ [y], va ++ [v], h5, ?_, q2, q3, ?_, upd_same, q6, q7, q8.append (RepAll.one r5)⟩
        · refine ⟨q1.ex, fun a o w1 w2 w3 => ?_, fun p z => .inl (q2 p z), fun a w => q1.th a ?_⟩
          · obtain ⟨w4, w5⟩ := q1.fr a o w1 w2 w3
            refine ⟨?_, w5⟩
            rw [upd_ne (fun z => ?_)]
            · exact w4
            · rw [z] at w1
              have := s1.fr Dl o w1 (by rw [← z]; exact w2) (by rw [← z]; exact w3)
              rw [hD] at this
              cases this.1
          · by_cases z : a = Dl
            · subst z; rw [upd_same] at w; cases w
            · rw [upd_ne z] at w; exact w
        · refine ⟨fun a o w => ?_, q4.len, fun j s w => ?_, q4.inj⟩
          · rw [upd_ne (ne_of_none w q6)]
            exact q4.ex a o w
          · have o := q4.ok j s w
            cases s with
            | unk => trivial
            | dat d => exact o
            | own p ds =>
              obtain ⟨w1, w2, us, w3, w4⟩ := o
              refine ⟨w1, w2, us, ?_, w4⟩
              rw [upd_ne (fun z => q7 ⟨j, _, w, by rw [← z]; rfl⟩)]
              exact w3
            | obj p C fs =>
              obtain ⟨w1, w2, dx, us, w3, w4⟩ := o
              refine ⟨w1, w2, dx, us, ?_, w4⟩
              rw [upd_ne (fun z => q7 ⟨j, _, w, by rw [← z]; rfl⟩)]
              exact w3
      | false =>
        refine iteF ?_
        obtain ⟨q1, q2, q3, q4, q5, q6, q7, q8⟩ := fin s34 (fun p z => b3 p (b4 p z)) e4
        exact ⟨B4, _, acc, va, h4.2 rfl, q1, q2, q3, q4, q5, q6, q7, q8⟩
    · obtain rfl : i = items.length := by omega
      refine .inl ⟨itx.stop _ H' e'.ex (Nat.le_refl _), k Dl va B' H' acc ρ' (hd acc ρ' hv) s' b' e' ?_ nb no hl ra⟩
      exact s1.th Dl hD
end
end Dn
namespace Dn
open PySem PySem.Spec PyProof.Rows L2 Evl
/-! ### operators for any kinds of values -/
def rAddU (K : PySem.W.Frag) : R2 := fun x y H Q => rI0 (fun i j => .int (i + j)) x y H Q ∨ (fun x y H Q => (∃ i j, x = .str i ∧ y = .str j ∧ i.length + j.length ≤ sizeLine ∧ Q (.str (i ++ j)) H) ∨ (rCat x y H Q ∨ rCatA K x y H Q)) x y H Q
theorem op_addU {X : Cx} : OpR X (binaryOp .Add) (rAddU X.K) := op_add.or (op_add_str.or (op_cat.or op_catA))
def rSubU : R2 := rI0 fun i j => .int (i - j)
theorem op_subU {X : Cx} : OpR X (binaryOp .Sub) rSubU := op_sub
def rMulU : R2 := fun x y H Q => rI CMul (fun i j => .int (i * j)) x y H Q ∨ rRep x y H Q
theorem op_mulU {X : Cx} : OpR X (binaryOp .Mult) rMulU := op_mul.or op_rep
def rDivU : R2 := rI CDivN fun i j => .int (i.fdiv j)
theorem op_divU {X : Cx} : OpR X (binaryOp .FloorDiv) rDivU := op_fdivN
def rModU : R2 := rI (fun _ j => j ≠ 0) fun i j => .int (i.fmod j)
theorem op_modU {X : Cx} : OpR X (binaryOp .Mod) rModU := op_modN
def rPowU : R2 := rI CPow fun i j => .int (i ^ j.toNat)
theorem op_powU {X : Cx} : OpR X (binaryOp .Pow) rPowU := op_pow
def rEqU (K : PySem.W.Frag) : R2 := fun x y H Q => rEq x y H Q ∨ rEqD K x y H Q
def rNeU (K : PySem.W.Frag) : R2 := fun x y H Q => rNe x y H Q ∨ rNeD K x y H Q
theorem op_eqU {X : Cx} (hu : X.A.units + 64 < cLine) : OpR X (compareOp .Eq) (rEqU X.K) := op_eq.or (op_eqD hu)
theorem op_neU {X : Cx} (hu : X.A.units + 64 < cLine) : OpR X (compareOp .NotEq) (rNeU X.K) := op_ne.or (op_neD hu)
def rLtU : R2 := rI0 fun i j => .bl (decide (i < j))
def rLeU : R2 := rI0 fun i j => .bl (decide (i ≤ j))
def rGtU : R2 := rI0 fun i j => .bl (decide (j < i))
def rGeU : R2 := rI0 fun i j => .bl (decide (j ≤ i))
theorem op_ltU {X : Cx} : OpR X (compareOp .Lt) rLtU := op_lt
theorem op_leU {X : Cx} : OpR X (compareOp .LtE) rLeU := op_le
theorem op_gtU {X : Cx} : OpR X (compareOp .Gt) rGtU := op_gt
theorem op_geU {X : Cx} : OpR X (compareOp .GtE) rGeU := op_ge
def rIsU : R2 := fun x y H Q => y = .non ∧ Q (.bl (decide (x = .non))) H
def rIsnU : R2 := fun x y H Q => y = .non ∧ Q (.bl (!decide (x = .non))) H
theorem op_isU {X : Cx} : OpR X (compareOp .Is) rIsU := op_isN
theorem op_isnU {X : Cx} : OpR X (compareOp .IsNot) rIsnU := op_notN
def rInU (K : PySem.W.Frag) : R2 := fun x y H Q => rIn K false x y H Q ∨ (fun x y H Q => ∃ (c : Nat) (z : Str), x = .str ⟨#[c]⟩ ∧ y = .str z ∧ Q (.bl (decide (c ∈ z.cps.toList))) H) x y H Q
def rNinU (K : PySem.W.Frag) : R2 := fun x y H Q => rIn K true x y H Q ∨ (fun x y H Q => ∃ (c : Nat) (z : Str), x = .str ⟨#[c]⟩ ∧ y = .str z ∧ Q (.bl (!decide (c ∈ z.cps.toList))) H) x y H Q
theorem op_inU {X : Cx} : OpR X (compareOp .In) (rInU X.K) := op_in_seq.or op_in_sign
theorem op_ninU {X : Cx} : OpR X (compareOp .NotIn) (rNinU X.K) := op_notIn_seq.or op_notIn_sign
def rSlU (K : PySem.W.Frag) : V → Option Int → Option Int → Hp → VK → Prop := fun x lo hi H Q => rSlL K x lo hi H Q ∨ rSlA K x lo hi H Q ∨ rSlS x lo hi H Q
theorem sl_U {X : Cx} : SlR X (rSlU X.K) := by
  intro pins s σ H x v vl vu lo hi sl Q I rx hs pl pu h
  rcases h with h | h | h
  · exact sl_list pins s σ H x v vl vu lo hi sl Q I rx hs pl pu h
  · exact sl_tupA pins s σ H x v vl vu lo hi sl Q I rx hs pl pu h
  · exact sl_str pins s σ H x v vl vu lo hi sl Q I rx hs pl pu h
def cLenU (K : PySem.W.Frag) : List V → Hp → VK → Prop := fun xs H Q => ∃ x n, xs = [x] ∧ LenV K x H n ∧ Q (.int n) H
theorem call_lenU {X : Cx} : CallR X (.builtin "len") (cLenU X.K) := call_len
def cStrU : List V → Hp → VK → Prop := fun xs H Q => (∃ i, xs = [.int i] ∧ i.natAbs.log2 < 1920 ∧ Q (.str (toString i)) H) ∨ ∃ a, xs = [.str a] ∧ Q (.str a) H
theorem call_strU {X : Cx} : CallR X (.type "str") cStrU := call_str_int.or SkE.call_str_str
def cIntU : List V → Hp → VK → Prop := fun xs H Q => ((∃ i, xs = [.int i] ∧ Q (.int i) H) ∨ ∃ k, xs = [.bl k] ∧ Q (.int (if k then 1 else 0)) H) ∨ ∃ a n, xs = [.str a] ∧ PySem.intText? a = some n ∧ a.length ≤ 640 ∧ Q (.int n) H
theorem call_intU {X : Cx} : CallR X (.type "int") cIntU := call_int1.or call_int_str
def cTupU (K : PySem.W.Frag) : List V → Hp → VK → Prop := fun xs H Q => ∃ p ys, xs = [.ref p] ∧ ((SqL K H p ys ∧ ∀ l, H l = none → Q (.ref l) (upd H l (.tup ys))) ∨ (SqT K H p ys ∧ Q (.ref p) H))
theorem call_tupU {X : Cx} : CallR X (.type "tuple") (cTupU X.K) := call_tuple_of
def cLstU (K : PySem.W.Frag) : List V → Hp → VK → Prop := fun xs H Q => ∃ p ys, xs = [.ref p] ∧ (SqL K H p ys ∨ SqT K H p ys) ∧ ∀ l, H l = none → Q (.ref l) (upd H l (.lst ys))
theorem call_lstU {X : Cx} : CallR X (.type "list") (cLstU X.K) := call_list_of

section
variable {K : PySem.W.Frag} {P : D → Prop} {B H : Hp}
theorem sqL_up {a : Addr} {xs : List V} (x : Ex B H) (h : SqL K B a xs) : SqL K H a xs := ex_l x h
theorem sqT_up {a : Addr} {xs : List V} (x : Ex B H) (h : SqT K B a xs) : SqT K H a xs := ex_t x h
/-! ### the operators over data -/
theorem oj_add_int {i j : Int} (h : P (.int (i + j))) : OJ K (rAddU K) (.int i) (.int j) P := fun B H v w Q x r q k => by
  cases r; cases q
  exact .inl ⟨i, j, rfl, rfl, k _ B H _ h (Pur.refl x) (.int _)⟩
theorem oj_add_str {i j : Str} (hz : i.length + j.length ≤ sizeLine) (h : P (.str (i ++ j))) : OJ K (rAddU K) (.str i) (.str j) P := fun B H v w Q x r q k => by
  cases r; cases q
  exact .inr (.inl ⟨i, j, rfl, rfl, hz, k _ B H _ h (Pur.refl x) (.str _)⟩)
theorem oj_add_lst {ds es : List D} (hz : ds.length + es.length ≤ sizeLine) (h : P (.lst (ds ++ es))) : OJ K (rAddU K) (.lst ds) (.lst es) P := fun B H v w Q x r q k => by
  cases r with
  | lst hb ha =>
    cases q with
    | lst hb' ha' =>
      refine .inr (.inr (.inl ⟨_, _, _, _, rfl, rfl, x _ _ hb, x _ _ hb', by rw [ha.length, ha'.length]; exact hz, fun p hp => ?_⟩))
      have fb := fresh_back x hp
      exact k _ (upd B p _) _ _ h (Pur.new x hp) (.lst upd_same ((ha.up (Ex.new fb)).append (ha'.up (Ex.new fb))))
theorem oj_add_tup {ds es : List D} (hz : ds.length + es.length ≤ sizeLine) (h : P (.tup (ds ++ es))) : OJ K (rAddU K) (.tup ds) (.tup es) P := fun B H v w Q x r q k => by
  cases r with
  | tup hb ha =>
    rename_i a xs
    cases q with
    | tup hb' ha' =>
      rename_i b ys
      refine .inr (.inr (.inr ⟨a, b, xs, ys, rfl, rfl, sqT_up x hb, sqT_up x hb', by rw [ha.length, ha'.length]; exact hz, fun e => ?_, fun _ e => ?_, fun _ _ p hp => ?_⟩))
      · subst e
        cases ha
        exact k _ B H _ h (Pur.refl x) (.tup hb' ha')
      · subst e
        cases ha'
        rw [List.append_nil] at h
        exact k _ B H _ h (Pur.refl x) (.tup hb ha)
      · have fb := fresh_back x hp
        exact k _ (upd B p _) _ _ h (Pur.new x hp) (.tup (SqT.of upd_same) ((ha.up (Ex.new fb)).append (ha'.up (Ex.new fb))))
theorem oj_sub {i j : Int} (h : P (.int (i - j))) : OJ K rSubU (.int i) (.int j) P := fun B H v w Q x r q k => by
  cases r; cases q
  exact ⟨i, j, rfl, rfl, k _ B H _ h (Pur.refl x) (.int _)⟩
theorem oj_mul {i j : Int} (c : CMul i j) (h : P (.int (i * j))) : OJ K rMulU (.int i) (.int j) P := fun B H v w Q x r q k => by
  cases r; cases q
  exact .inl ⟨i, j, rfl, rfl, c, k _ B H _ h (Pur.refl x) (.int _)⟩
theorem oj_div {i j : Int} (c : CDivN i j) (h : P (.int (i.fdiv j))) : OJ K rDivU (.int i) (.int j) P := fun B H v w Q x r q k => by
  cases r; cases q
  exact ⟨i, j, rfl, rfl, c, k _ B H _ h (Pur.refl x) (.int _)⟩
theorem oj_mod {i j : Int} (c : j ≠ 0) (h : P (.int (i.fmod j))) : OJ K rModU (.int i) (.int j) P := fun B H v w Q x r q k => by
  cases r; cases q
  exact ⟨i, j, rfl, rfl, c, k _ B H _ h (Pur.refl x) (.int _)⟩
theorem oj_pow {i j : Int} (c : CPow i j) (h : P (.int (i ^ j.toNat))) : OJ K rPowU (.int i) (.int j) P := fun B H v w Q x r q k => by
  cases r; cases q
  exact ⟨i, j, rfl, rfl, c, k _ B H _ h (Pur.refl x) (.int _)⟩
theorem oj_lt {i j : Int} (h : P (.bl (decide (i < j)))) : OJ K rLtU (.int i) (.int j) P := fun B H v w Q x r q k => by
  cases r; cases q
  exact ⟨i, j, rfl, rfl, k _ B H _ h (Pur.refl x) (.bl _)⟩
theorem oj_le {i j : Int} (h : P (.bl (decide (i ≤ j)))) : OJ K rLeU (.int i) (.int j) P := fun B H v w Q x r q k => by
  cases r; cases q
  exact ⟨i, j, rfl, rfl, k _ B H _ h (Pur.refl x) (.bl _)⟩
theorem oj_gt {i j : Int} (h : P (.bl (decide (j < i)))) : OJ K rGtU (.int i) (.int j) P := fun B H v w Q x r q k => by
  cases r; cases q
  exact ⟨i, j, rfl, rfl, k _ B H _ h (Pur.refl x) (.bl _)⟩
theorem oj_ge {i j : Int} (h : P (.bl (decide (j ≤ i)))) : OJ K rGeU (.int i) (.int j) P := fun B H v w Q x r q k => by
  cases r; cases q
  exact ⟨i, j, rfl, rfl, k _ B H _ h (Pur.refl x) (.bl _)⟩
/-- a flat value -/
def fl : D → Option V
  | .non => some .non
  | .bl b => some (.bl b)
  | .int i => some (.int i)
  | .str s => some (.str s)
  | _ => none
theorem fl_rep {d : D} {u v : V} (h : fl d = some u) (r : Rep K B v d) : v = u := by
  cases d with
  | non => cases r; cases h; rfl
  | bl b => cases r; cases h; rfl
  | int i => cases r; cases h; rfl
  | str s => cases r; cases h; rfl
  | raw v => cases h
  | tup ds => cases h
  | lst ds => cases h
  | rol ds => cases h
theorem fl_flat {d : D} {u : V} (h : fl d = some u) : flatV u = true := by
  cases d with
  | non => cases h; rfl
  | bl b => cases h; rfl
  | int i => cases h; rfl
  | str s => cases h; rfl
  | raw v => cases h
  | tup ds => cases h
  | lst ds => cases h
  | rol ds => cases h
theorem oj_eq {x y : D} {u v : V} (hx : fl x = some u) (hy : fl y = some v) (hs : scal u v = true) (h : P (.bl (decide (u = v)))) : OJ K (rEqU K) x y P := fun B H a b Q e r q k => by
  rw [fl_rep hx r, fl_rep hy q]
  exact .inl ⟨hs, k _ B H _ h (Pur.refl e) (.bl _)⟩
theorem oj_ne {x y : D} {u v : V} (hx : fl x = some u) (hy : fl y = some v) (hs : scal u v = true) (h : P (.bl (!decide (u = v)))) : OJ K (rNeU K) x y P := fun B H a b Q e r q k => by
  rw [fl_rep hx r, fl_rep hy q]
  exact .inl ⟨hs, k _ B H _ h (Pur.refl e) (.bl _)⟩
theorem oj_eq_int {i j : Int} (h : P (.bl (decide (i = j)))) : OJ K (rEqU K) (.int i) (.int j) P := by
  refine oj_eq rfl rfl rfl ?_
  have e : decide (V.int i = V.int j) = decide (i = j) := by simp
  rw [e]; exact h
theorem oj_ne_int {i j : Int} (h : P (.bl (!decide (i = j)))) : OJ K (rNeU K) (.int i) (.int j) P := by
  refine oj_ne rfl rfl rfl ?_
  have e : decide (V.int i = V.int j) = decide (i = j) := by simp
  rw [e]; exact h
theorem oj_eq_str {i j : Str} (h : P (.bl (decide (i = j)))) : OJ K (rEqU K) (.str i) (.str j) P := by
  refine oj_eq rfl rfl rfl ?_
  have e : decide (V.str i = V.str j) = decide (i = j) := by simp
  rw [e]; exact h
theorem oj_ne_str {i j : Str} (h : P (.bl (!decide (i = j)))) : OJ K (rNeU K) (.str i) (.str j) P := by
  refine oj_ne rfl rfl rfl ?_
  have e : decide (V.str i = V.str j) = decide (i = j) := by simp
  rw [e]; exact h
mutual
def py : D → Option PyData
  | .non => some .none
  | .bl b => some (.bool b)
  | .int i => some (.int i)
  | .str s => some (.str s)
  | .raw _ => none
  | .tup ds => (pys ds).map .tuple
  | .lst ds => (pys ds).map .list
  | .rol ds => (pys ds).map .list
def pys : List D → Option (List PyData)
  | [] => some []
  | d :: ds => match py d, pys ds with
    | some x, some xs => some (x :: xs)
    | _, _ => none
end
mutual
theorem py_rep : ∀ (d : D) (v : V) (p : PyData), Rep K B v d → py d = some p → Dp K B v p
  | .non, _, _, r, h => by cases r; cases h; exact .non
  | .bl b, _, _, r, h => by cases r; cases h; exact .bl b
  | .int i, _, _, r, h => by cases r; cases h; exact .int i
  | .str s, _, _, r, h => by cases r; cases h; exact .str s
  | .raw v, _, _, r, h => by cases h
  | .tup ds, _, _, r, h => by
    cases r with
    | tup hs ha =>
      unfold py at h
      cases e : pys ds with
      | none => rw [e] at h; cases h
      | some xs =>
        rw [e] at h
        cases h
        exact .tup hs (pys_rep ds _ xs ha e)
  | .lst ds, _, _, r, h => by
    cases r with
    | lst hs ha =>
      unfold py at h
      cases e : pys ds with
      | none => rw [e] at h; cases h
      | some xs =>
        rw [e] at h
        cases h
        exact .lst (SqL.of hs) (pys_rep ds _ xs ha e)
  | .rol ds, _, _, r, h => by
    cases r with
    | rol hs ha =>
      unfold py at h
      cases e : pys ds with
      | none => rw [e] at h; cases h
      | some xs =>
        rw [e] at h
        cases h
        exact .lst hs (pys_rep ds _ xs ha e)
theorem pys_rep : ∀ (ds : List D) (vs : List V) (ps : List PyData), RepAll K B vs ds → pys ds = some ps → DpAll K B vs ps
  | [], _, _, r, h => by cases r; cases h; exact .nil
  | d :: ds, _, _, r, h => by
    cases r with
    | cons r1 r2 =>
      unfold pys at h
      cases e1 : py d with
      | none => rw [e1] at h; cases h
      | some x =>
        cases e2 : pys ds with
        | none => rw [e1, e2] at h; cases h
        | some xs =>
          rw [e1, e2] at h
          cases h
          exact .cons (py_rep d _ x r1 e1) (pys_rep ds _ xs r2 e2)
end
mutual
theorem Dp_up {H' : Hp} (e : Ex H H') : ∀ (d : PyData) (v : V), Dp K H v d → Dp K H' v d
  | .none, _, h => by cases h; exact .non
  | .bool b, _, h => by cases h; exact .bl b
  | .int i, _, h => by cases h; exact .int i
  | .str s, _, h => by cases h; exact .str s
  | .list ds, _, h => by
    cases h with
    | lst h1 h2 => exact .lst (ex_l e h1) (DpAll_up e ds _ h2)
  | .tuple ds, _, h => by
    cases h with
    | tup h1 h2 => exact .tup (ex_t e h1) (DpAll_up e ds _ h2)
  | .dict _, _, h => by cases h
theorem DpAll_up {H' : Hp} (e : Ex H H') : ∀ (ds : List PyData) (vs : List V), DpAll K H vs ds → DpAll K H' vs ds
  | [], _, h => by cases h; exact .nil
  | d :: ds, _, h => by
    cases h with
    | cons h1 h2 => exact .cons (Dp_up e d _ h1) (DpAll_up e ds _ h2)
end
theorem oj_eqD {x y : D} {p q : PyData} (hx : py x = some p) (hy : py y = some q) (sx : SeqAt.shaped p = true) (sy : SeqAt.shaped q = true) (h : P (.bl (PyData.eqv p q))) : OJ K (rEqU K) x y P := fun B H a b Q e r z k =>
  .inr ⟨p, q, Dp_up e p _ (py_rep x a p r hx), Dp_up e q _ (py_rep y b q z hy), sx, sy, k _ B H _ h (Pur.refl e) (.bl _)⟩
theorem oj_neD {x y : D} {p q : PyData} (hx : py x = some p) (hy : py y = some q) (sx : SeqAt.shaped p = true) (sy : SeqAt.shaped q = true) (h : P (.bl (!PyData.eqv p q))) : OJ K (rNeU K) x y P := fun B H a b Q e r z k =>
  .inr ⟨p, q, Dp_up e p _ (py_rep x a p r hx), Dp_up e q _ (py_rep y b q z hy), sx, sy, k _ B H _ h (Pur.refl e) (.bl _)⟩
def isNon : D → Bool
  | .non => true
  | _ => false
/-- is None of what is no raw value -/
theorem non_rep {d : D} {v : V} (r : Rep K B v d) (n : ∀ u, d ≠ .raw u) : decide (v = .non) = isNon d := by
  cases r with
  | non => rfl
  | bl b => rfl
  | int i => rfl
  | str s => rfl
  | raw v => exact (n v rfl).elim
  | tup _ _ => rfl
  | lst _ _ => rfl
  | rol _ _ => rfl
theorem oj_is {d : D} (n : ∀ u, d ≠ .raw u) (h : P (.bl (isNon d))) : OJ K rIsU d .non P := fun B H a b Q e r z k => by
  cases z
  refine ⟨rfl, ?_⟩
  rw [non_rep r n]
  exact k _ B H _ h (Pur.refl e) (.bl _)
theorem oj_isn {d : D} (n : ∀ u, d ≠ .raw u) (h : P (.bl (!isNon d))) : OJ K rIsnU d .non P := fun B H a b Q e r z k => by
  cases z
  refine ⟨rfl, ?_⟩
  rw [non_rep r n]
  exact k _ B H _ h (Pur.refl e) (.bl _)
/-- in a list or tuple of flat things -/
def fls : List D → Option (List V)
  | [] => some []
  | d :: ds => match fl d, fls ds with
    | some x, some xs => some (x :: xs)
    | _, _ => none
theorem fls_rep : ∀ {ds : List D} {vs us : List V}, fls ds = some us → RepAll K B vs ds → vs = us ∧ us.all flatV = true
  | [], _, _, h, r => by cases r; cases h; exact ⟨rfl, rfl⟩
  | d :: ds, _, _, h, r => by
    cases r with
    | cons r1 r2 =>
      unfold fls at h
      cases e1 : fl d with
      | none => rw [e1] at h; cases h
      | some x =>
        cases e2 : fls ds with
        | none => rw [e1, e2] at h; cases h
        | some xs =>
          rw [e1, e2] at h
          cases h
          obtain ⟨q1, q2⟩ := fls_rep e2 r2
          rw [fl_rep e1 r1, q1]
          exact ⟨rfl, by rw [List.all_cons, fl_flat e1, q2]; rfl⟩
def sqd : D → Option (List D)
  | .tup ds => some ds
  | .lst ds => some ds
  | .rol ds => some ds
  | _ => none
theorem sqd_rep {d : D} {ds : List D} {v : V} (h : sqd d = some ds) (r : Rep K B v d) : ∃ p xs, v = .ref p ∧ (SqL K B p xs ∨ SqT K B p xs) ∧ RepAll K B xs ds := by
  cases r with
  | tup h1 h2 => cases h; exact ⟨_, _, rfl, .inr h1, h2⟩
  | lst h1 h2 => cases h; exact ⟨_, _, rfl, .inl (SqL.of h1), h2⟩
  | rol h1 h2 => cases h; exact ⟨_, _, rfl, .inl h1, h2⟩
  | _ => cases h
theorem oj_in {x y : D} {u : V} {ds : List D} {us : List V} (hx : fl x = some u) (hy : sqd y = some ds) (hf : fls ds = some us) (h : P (.bl (inV u us))) : OJ K (rInU K) x y P := fun B H a b Q e r z k => by
  rw [fl_rep hx r]
  obtain ⟨p, xs, rfl, hs, ra⟩ := sqd_rep hy z
  obtain ⟨rfl, ff⟩ := fls_rep hf ra
  exact .inl ⟨p, xs, rfl, hs.imp (sqL_up e) (sqT_up e), fl_flat hx, ff, k _ B H _ h (Pur.refl e) (.bl _)⟩
theorem oj_nin {x y : D} {u : V} {ds : List D} {us : List V} (hx : fl x = some u) (hy : sqd y = some ds) (hf : fls ds = some us) (h : P (.bl (!inV u us))) : OJ K (rNinU K) x y P := fun B H a b Q e r z k => by
  rw [fl_rep hx r]
  obtain ⟨p, xs, rfl, hs, ra⟩ := sqd_rep hy z
  obtain ⟨rfl, ff⟩ := fls_rep hf ra
  exact .inl ⟨p, xs, rfl, hs.imp (sqL_up e) (sqT_up e), fl_flat hx, ff, k _ B H _ h (Pur.refl e) (.bl _)⟩
theorem oj_in_sign {c : Nat} {z : Str} (h : P (.bl (decide (c ∈ z.cps.toList)))) : OJ K (rInU K) (.str ⟨#[c]⟩) (.str z) P := fun B H a b Q e r q k => by
  cases r; cases q
  exact .inr ⟨c, z, rfl, rfl, k _ B H _ h (Pur.refl e) (.bl _)⟩
theorem oj_nin_sign {c : Nat} {z : Str} (h : P (.bl (!decide (c ∈ z.cps.toList)))) : OJ K (rNinU K) (.str ⟨#[c]⟩) (.str z) P := fun B H a b Q e r q k => by
  cases r; cases q
  exact .inr ⟨c, z, rfl, rfl, k _ B H _ h (Pur.refl e) (.bl _)⟩
/-- items -/
theorem atI_rep {xs : List V} {ds : List D} {i : Int} {d : D} (r : RepAll K B xs ds) (h : atI ds i = some d) : ∃ v, atI xs i = some v ∧ Rep K B v d := by
  unfold atI at h ⊢
  rw [r.length]
  cases e : ixN ds.length i with
  | none => rw [e] at h; cases h
  | some j =>
    rw [e] at h
    exact r.get h
theorem oj_ix {x : D} {ds : List D} {i : Int} {d : D} (hx : sqd x = some ds) (ha : atI ds i = some d) (h : P d) : OJ K (rIx K) x (.int i) P := fun B H a b Q e r q k => by
  cases q
  obtain ⟨p, xs, rfl, hs, ra⟩ := sqd_rep hx r
  obtain ⟨v, hv, rv⟩ := atI_rep ra ha
  rcases hs with hs | hs
  · exact .inl ⟨p, xs, i, v, rfl, rfl, sqL_up e hs, hv, k _ B H _ h (Pur.refl e) rv⟩
  · exact .inr (.inl ⟨p, xs, i, v, rfl, rfl, sqT_up e hs, hv, k _ B H _ h (Pur.refl e) rv⟩)
theorem oj_ixS {s : Str} {i : Int} {c : Nat} (hz : s.length ≤ sizeLine) (ha : atI s.cps.toList i = some c) (h : P (.str ⟨#[c]⟩)) : OJ K (rIx K) (.str s) (.int i) P := fun B H a b Q e r q k => by
  cases r; cases q
  exact .inr (.inr ⟨s, i, c, rfl, rfl, hz, ha, k _ B H _ h (Pur.refl e) (.str _)⟩)

/-! ### slices -/
def EO (K : PySem.W.Frag) (t : TO) (ρ : List Sl) (P : Option Int → List Sl → Prop) : Prop := ∀ (B H : Hp) (σ : L2.St) (Q : Option Int → Hp → Prop), Envs K B H σ ρ →
  (∀ o B' H' ρ', P o ρ' → Stp ρ B H ρ' B' H' → (∀ p, Own ρ' p → Own ρ p) → Envs K B' H' σ ρ' → Q o H') → t σ H Q
theorem eo_none {ρ : List Sl} {P : Option Int → List Sl → Prop} (h : P none ρ) : EO K tNoPart ρ P := fun B H σ Q e k => k none B H ρ h .refl (fun _ z => z) e
theorem eo_some {ρ : List Sl} {te : TE} {P : Option Int → List Sl → Prop} (h : EV K te ρ fun d ρ1 => ∃ i, d = .int i ∧ P (some i) ρ1) : EO K (tPart te) ρ P := fun B H σ Q e k =>
  h B H σ _ e fun v B1 H1 d ρ1 ⟨i, hd, hp⟩ s1 b1 e1 r1 => by
    subst hd
    cases r1
    exact ⟨i, rfl, k _ B1 H1 ρ1 hp s1 b1 e1⟩
def SJ (K : PySem.W.Frag) (r : V → Option Int → Option Int → Hp → VK → Prop) (x : D) (lo hi : Option Int) (P : D → Prop) : Prop := ∀ (B H : Hp) (v : V) (Q : VK), Ex B H → Rep K B v x →
  (∀ u B' H' d, P d → Pur B H B' H' → Rep K B' u d → Q u H') → r v lo hi H Q
theorem ev_sl {ρ : List Sl} {te : TE} {tl th : TO} {r : V → Option Int → Option Int → Hp → VK → Prop} {P : D → List Sl → Prop} (h : EV K te ρ fun x ρ1 => EO K tl ρ1 fun lo ρ2 => EO K th ρ2 fun hi ρ3 => SJ K r x lo hi fun d => P d ρ3) : EV K (tSl r te tl th) ρ P := fun B H σ Q e k =>
  h B H σ _ e fun v B1 H1 x ρ1 h1 s1 b1 e1 r1 => h1 B1 H1 σ _ e1 fun lo B2 H2 ρ2 h2 s2 b2 e2 => h2 B2 H2 σ _ e2 fun hi B3 H3 ρ3 h3 s3 b3 e3 => h3 B3 H3 v Q e3.ex (r1.up (s2.ex.trans s3.ex)) fun u B4 H4 d p pu rd =>
    k u B4 H4 d ρ3 p (((s1.trans e1.ex s2).trans e2.ex s3).trans e3.ex pu.stp) (fun z q => b1 z (b2 z (b3 z q))) (e3.pur pu) rd
def cutD (xs : List D) (lo hi : Option Int) : List D := (xs.drop (HT.sIx xs.length 0 lo)).take (HT.sIx xs.length xs.length hi - HT.sIx xs.length 0 lo)
theorem cut_rep {xs : List V} {ds : List D} {lo hi : Option Int} (r : RepAll K B xs ds) : RepAll K B (cutV xs lo hi) (cutD ds lo hi) := by
  unfold cutV cutD
  rw [r.length]
  exact (r.drop _).take _
theorem cutD_whole {ds : List D} {lo hi : Option Int} (h : HT.sIx ds.length 0 lo = 0 ∧ HT.sIx ds.length ds.length hi = ds.length) : cutD ds lo hi = ds := by
  unfold cutD
  rw [h.1, h.2]
  simp
theorem sj_lst {ds : List D} {lo hi : Option Int} (h : P (.lst (cutD ds lo hi))) : SJ K (rSlU K) (.lst ds) lo hi P := fun B H v Q e r k => by
  cases r with
  | lst hb ha =>
    refine .inl ⟨_, _, rfl, SqL.of (e _ _ hb), fun p hp => ?_⟩
    have fb := fresh_back e hp
    exact k _ (upd B p _) _ _ h (Pur.new e hp) (.lst upd_same ((cut_rep ha).up (Ex.new fb)))
theorem sj_rol {ds : List D} {lo hi : Option Int} (h : P (.lst (cutD ds lo hi))) : SJ K (rSlU K) (.rol ds) lo hi P := fun B H v Q e r k => by
  cases r with
  | rol hb ha =>
    refine .inl ⟨_, _, rfl, sqL_up e hb, fun p hp => ?_⟩
    have fb := fresh_back e hp
    exact k _ (upd B p _) _ _ h (Pur.new e hp) (.lst upd_same ((cut_rep ha).up (Ex.new fb)))
theorem sj_tup {ds : List D} {lo hi : Option Int} (h : P (.tup (cutD ds lo hi))) : SJ K (rSlU K) (.tup ds) lo hi P := fun B H v Q e r k => by
  cases r with
  | tup hb ha =>
    rename_i a xs
    refine .inr (.inl ⟨a, xs, rfl, sqT_up e hb, fun w => ?_, fun _ p hp => ?_⟩)
    · rw [ha.length] at w
      rw [cutD_whole w] at h
      exact k _ B H _ h (Pur.refl e) (.tup hb ha)
    · have fb := fresh_back e hp
      exact k _ (upd B p _) _ _ h (Pur.new e hp) (.tup (SqT.of upd_same) ((cut_rep ha).up (Ex.new fb)))
theorem sj_str {s : Str} {lo hi : Option Int} (hz : s.length ≤ sizeLine) (h : P (.str (cutS s lo hi))) : SJ K (rSlU K) (.str s) lo hi P := fun B H v Q e r k => by
  cases r
  exact .inr (.inr ⟨s, rfl, hz, k _ B H _ h (Pur.refl e) (.str _)⟩)

/-! ### displays -/
section
variable {ρ : List Sl} {ta : TA} {Q : D → List Sl → Prop}
theorem ars_rep {σ : L2.St} {ρ1 : List Sl} : ∀ {vs : List V} {ds : List D}, Paired (ArOk K B σ ρ1) vs (ds.map .dat) → RepAll K B vs ds
  | _, [], .nil => .nil
  | _, d :: ds, .cons r t => .cons r (ars_rep t)
theorem ev_tup (h : EA K ta ρ fun as ρ1 => ∃ ds : List D, as = ds.map .dat ∧ ds.length ≤ sizeLine ∧ Q (.tup ds) ρ1) : EV K (tTup ta) ρ Q := fun B H σ R e k =>
  h B H σ _ e fun vs B1 H1 as ρ1 ⟨ds, ha, hz, hq⟩ s1 b1 e1 r1 => by
    subst ha
    have rr := ars_rep r1
    refine ⟨by rw [rr.length]; exact hz, fun p hp => ?_⟩
    have pu := Pur.new (o := .tup vs) e1.ex hp
    exact k _ _ _ _ ρ1 hq (s1.trans e1.ex pu.stp) b1 (e1.pur pu) (.tup (SqT.of upd_same) (rr.up pu.ex))
theorem ef_lst {Q : List D → List Sl → Prop} (h : EA K ta ρ fun as ρ1 => ∃ ds : List D, as = ds.map .dat ∧ ds.length ≤ sizeLine ∧ Q ds ρ1) : EF K (tLst ta) ρ Q := fun B H σ R e k =>
  h B H σ _ e fun vs B1 H1 as ρ1 ⟨ds, ha, hz, hq⟩ s1 b1 e1 r1 => by
    subst ha
    have rr := ars_rep r1
    refine ⟨by rw [rr.length]; exact hz, fun p hp => ?_⟩
    have pu := Pur.out (o := .lst vs) e1.ex hp
    exact k p vs B1 _ ds ρ1 hq (s1.trans e1.ex pu.stp) b1 (e1.pur pu) (s1.th p hp) (fresh_back e1.ex hp) (fun z => by obtain ⟨_, o, q⟩ := e1.ownOf z; rw [hp] at q; cases q) upd_same rr

/-! ### built-ins called -/
theorem ev_cb {r : List V → Hp → VK → Prop} (h : EA K ta ρ fun as ρ1 => ∃ ds : List D, as = ds.map .dat ∧ CJ K r ds fun d => Q d ρ1) : EV K (tCB r ta) ρ Q := fun B H σ R e k =>
  h B H σ _ e fun vs B1 H1 as ρ1 ⟨ds, ha, hc⟩ s1 b1 e1 r1 => by
    subst ha
    exact hc B1 H1 vs R e1.ex (ars_rep r1) fun u B2 H2 d p pu rd => k u B2 H2 d ρ1 p (s1.trans e1.ex pu.stp) b1 (e1.pur pu) rd
theorem cj1 {r : List V → Hp → VK → Prop} {x : D} (h : ∀ (B H : Hp) (v : V) (Q : VK), Ex B H → Rep K B v x → (∀ u B' H' d, P d → Pur B H B' H' → Rep K B' u d → Q u H') → r [v] H Q) : CJ K r [x] P := fun B H vs Q e ra k => by
  cases ra with
  | cons r1 r2 =>
    cases r2
    exact h B H _ Q e r1 k
theorem cj_len {x : D} {ds : List D} (hx : sqd x = some ds) (h : P (.int (ds.length : Int))) : CJ K (cLenU K) [x] P := cj1 fun B H v Q e r k => by
  obtain ⟨p, xs, rfl, hs, ra⟩ := sqd_rep hx r
  rw [← ra.length] at h
  rcases hs with hs | hs
  · exact ⟨_, _, rfl, .inl ⟨xs, sqL_up e hs, rfl⟩, k _ B H _ h (Pur.refl e) (.int _)⟩
  · exact ⟨_, _, rfl, .inr ⟨xs, sqT_up e hs, rfl⟩, k _ B H _ h (Pur.refl e) (.int _)⟩
theorem cj_lenS {s : Str} (hz : s.length ≤ sizeLine) (h : P (.int (s.length : Int))) : CJ K (cLenU K) [.str s] P := cj1 fun B H v Q e r k => by
  cases r
  exact ⟨_, _, rfl, ⟨hz, rfl⟩, k _ B H _ h (Pur.refl e) (.int _)⟩
theorem cj_str {i : Int} (hz : i.natAbs.log2 < 1920) (h : P (.str (toString i))) : CJ K cStrU [.int i] P := cj1 fun B H v Q e r k => by
  cases r
  exact .inl ⟨i, rfl, hz, k _ B H _ h (Pur.refl e) (.str _)⟩
theorem cj_strS {s : Str} (h : P (.str s)) : CJ K cStrU [.str s] P := cj1 fun B H v Q e r k => by
  cases r
  exact .inr ⟨s, rfl, k _ B H _ h (Pur.refl e) (.str _)⟩
theorem cj_int {i : Int} (h : P (.int i)) : CJ K cIntU [.int i] P := cj1 fun B H v Q e r k => by
  cases r
  exact .inl (.inl ⟨i, rfl, k _ B H _ h (Pur.refl e) (.int _)⟩)
theorem cj_intS {s : Str} {n : Int} (hn : PySem.intText? s = some n) (hz : s.length ≤ 640) (h : P (.int n)) : CJ K cIntU [.str s] P := cj1 fun B H v Q e r k => by
  cases r
  exact .inr ⟨s, n, rfl, hn, hz, k _ B H _ h (Pur.refl e) (.int _)⟩
theorem cj_tup {x : D} {ds : List D} (hx : sqd x = some ds) (h : P (.tup ds)) : CJ K (cTupU K) [x] P := cj1 fun B H v Q e r k => by
  cases r with
  | tup h1 h2 =>
    cases hx
    exact ⟨_, _, rfl, .inr ⟨sqT_up e h1, k _ B H _ h (Pur.refl e) (.tup h1 h2)⟩⟩
  | lst h1 h2 =>
    cases hx
    refine ⟨_, _, rfl, .inl ⟨SqL.of (e _ _ h1), fun p hp => ?_⟩⟩
    have fb := fresh_back e hp
    exact k _ (upd B p _) _ _ h (Pur.new e hp) (.tup (SqT.of upd_same) (h2.up (Ex.new fb)))
  | rol h1 h2 =>
    cases hx
    refine ⟨_, _, rfl, .inl ⟨sqL_up e h1, fun p hp => ?_⟩⟩
    have fb := fresh_back e hp
    exact k _ (upd B p _) _ _ h (Pur.new e hp) (.tup (SqT.of upd_same) (h2.up (Ex.new fb)))
  | _ => cases hx
/-! ### truth -/
def tTru (K : PySem.W.Frag) (ta : TE) : TT := fun σ H Q => ta σ H fun x H' => ∃ k, TruV K x H' k ∧ Q k H'
theorem et_tru {te : TE} {R : Bool → List Sl → Prop} (h : EV K te ρ fun d ρ1 => (∃ ds, sqd d = some ds ∧ R (!ds.isEmpty) ρ1) ∨ (∃ i, d = .int i ∧ R (i != 0) ρ1) ∨ (∃ b, d = .bl b ∧ R b ρ1) ∨ (d = .non ∧ R false ρ1) ∨ ∃ s, d = .str s ∧ s.length ≤ sizeLine ∧ R ((s.length : Int) != 0) ρ1) :
    ET K (fun σ H Q => te σ H fun x H' => ∃ k, TruV K x H' k ∧ Q k H') ρ R := fun B H σ Q e k =>
  h B H σ _ e fun v B1 H1 d ρ1 hd s1 b1 e1 r1 => by
    rcases hd with ⟨ds, h1, h2⟩ | ⟨i, rfl, h2⟩ | ⟨b, rfl, h2⟩ | ⟨rfl, h2⟩ | ⟨s, rfl, hz, h2⟩
    · obtain ⟨p, xs, rfl, hs, ra⟩ := sqd_rep h1 r1
      have eb : (!xs.isEmpty) = !ds.isEmpty := by
        cases ds with
        | nil => cases ra; rfl
        | cons d ds => cases ra; rfl
      rcases hs with hs | hs
      · exact ⟨_, .inl ⟨xs, sqL_up e1.ex hs, rfl⟩, by rw [eb]; exact k _ B1 H1 ρ1 h2 s1 b1 e1⟩
      · exact ⟨_, .inr (.inl ⟨xs, sqT_up e1.ex hs, rfl⟩), by rw [eb]; exact k _ B1 H1 ρ1 h2 s1 b1 e1⟩
    · cases r1; exact ⟨_, rfl, k _ B1 H1 ρ1 h2 s1 b1 e1⟩
    · cases r1; exact ⟨_, rfl, k _ B1 H1 ρ1 h2 s1 b1 e1⟩
    · cases r1; exact ⟨_, rfl, k _ B1 H1 ρ1 h2 s1 b1 e1⟩
    · cases r1; exact ⟨_, ⟨hz, rfl⟩, k _ B1 H1 ρ1 h2 s1 b1 e1⟩
/-! ### methods of texts -/
theorem ev_m0 {te : TE} {r : V → List V → Hp → VK → Prop} (h : EV K te ρ fun d ρ1 => ∃ s, d = .str s ∧ UJ K (fun v H Q => r v [] H Q) d fun d => Q d ρ1) : EV K (tM0 r te) ρ Q := fun B H σ R e k =>
  h B H σ _ e fun v B1 H1 d ρ1 ⟨s, hd, hu⟩ s1 b1 e1 r1 => by
    subst hd
    cases r1
    exact ⟨⟨s, rfl⟩, hu B1 H1 (.str s) R e1.ex (.str s) fun u B2 H2 d p pu rd => k u B2 H2 d ρ1 p (s1.trans e1.ex pu.stp) b1 (e1.pur pu) rd⟩
theorem ev_m1 {te tf : TE} {r : V → List V → Hp → VK → Prop} (h : EV K te ρ fun d ρ1 => ∃ s, d = .str s ∧ EV K tf ρ1 fun x ρ2 => OJ K (fun v w H Q => r v [w] H Q) d x fun d => Q d ρ2) : EV K (tM1 r te tf) ρ Q := fun B H σ R e k =>
  h B H σ _ e fun v B1 H1 d ρ1 ⟨s, hd, hu⟩ s1 b1 e1 r1 => by
    subst hd
    cases r1
    exact ⟨⟨s, rfl⟩, hu B1 H1 σ _ e1 fun w B2 H2 x ρ2 h2 s2 b2 e2 r2 => h2 B2 H2 (.str s) w R e2.ex (.str s) r2 fun u B3 H3 d p pu rd =>
      k u B3 H3 d ρ2 p ((s1.trans e1.ex s2).trans e2.ex pu.stp) (fun z q => b1 z (b2 z q)) (e2.pur pu) rd⟩
abbrev rIsdigit : V → List V → Hp → VK → Prop := fun x xs H Q => ∃ a, x = .str a ∧ xs = [] ∧ True ∧ Q (.bl (Txt.isdigit a)) H
theorem uj_isdigit {s : Str} (h : P (.bl (Txt.isdigit s))) : UJ K (fun v H Q => rIsdigit v [] H Q) (.str s) P := fun B H v Q e r k => by
  cases r
  exact ⟨s, rfl, rfl, trivial, k _ B H _ h (Pur.refl e) (.bl _)⟩
abbrev rUpper : V → List V → Hp → VK → Prop := fun x xs H Q => ∃ a, x = .str a ∧ xs = [] ∧ a.length ≤ 5592405 ∧ Q (.str (Txt.upper a)) H
theorem uj_upper {s : Str} (hz : s.length ≤ 5592405) (h : P (.str (Txt.upper s))) : UJ K (fun v H Q => rUpper v [] H Q) (.str s) P := fun B H v Q e r k => by
  cases r
  exact ⟨s, rfl, rfl, hz, k _ B H _ h (Pur.refl e) (.str _)⟩
abbrev rJoin (K : PySem.W.Frag) : V → List V → Hp → VK → Prop := fun x xs H Q => ∃ a p, ∃ ys : List Str, x = .str a ∧ xs = [.ref p] ∧ (SqL K H p (ys.map V.str) ∨ SqT K H p (ys.map V.str)) ∧
      (ys.map (·.length)).sum + ys.length * a.length ≤ 16777216 ∧ Q (.str (Txt.join a ys)) H
theorem strs_rep : ∀ {ys : List Str} {xs : List V}, RepAll K B xs (ys.map .str) → xs = ys.map V.str
  | [], _, h => by cases h; rfl
  | y :: ys, _, h => by
    cases h with
    | cons h1 h2 =>
      cases h1
      rw [strs_rep h2]
      rfl
theorem oj_join {s : Str} {x : D} {ys : List Str} (hx : sqd x = some (ys.map .str)) (hz : (ys.map (·.length)).sum + ys.length * s.length ≤ 16777216) (h : P (.str (Txt.join s ys))) : OJ K (fun v w H Q => rJoin K v [w] H Q) (.str s) x P := fun B H v w Q e r q k => by
  cases r
  obtain ⟨p, xs, rfl, hs, ra⟩ := sqd_rep hx q
  obtain rfl := strs_rep ra
  exact ⟨s, p, ys, rfl, rfl, hs.imp (sqL_up e) (sqT_up e), hz, k _ B H _ h (Pur.refl e) (.str _)⟩
abbrev rSplit : V → List V → Hp → VK → Prop := fun x xs H Q => ∃ a b, x = .str a ∧ xs = [.str b] ∧ (b.length == 0) = false ∧ a.length + 2 ≤ sizeLine ∧ rNewStrs (Txt.split a b) H Q
theorem repAll_strs : ∀ (ys : List Str), RepAll K B (ys.map V.str) (ys.map .str)
  | [] => .nil
  | y :: ys => .cons (.str y) (repAll_strs ys)
theorem oj_split {s t : Str} (ht : (t.length == 0) = false) (hz : s.length + 2 ≤ sizeLine) (h : P (.lst ((Txt.split s t).map .str))) : OJ K (fun v w H Q => rSplit v [w] H Q) (.str s) (.str t) P := fun B H v w Q e r q k => by
  cases r; cases q
  refine ⟨s, t, rfl, rfl, ht, hz, fun p hp => ?_⟩
  have fb := fresh_back e hp
  exact k _ (upd B p _) _ _ h (Pur.new e hp) (.lst upd_same (repAll_strs _))
/-- s.split(t): a new list -/
theorem ef_split {te tf : TE} {Q : List D → List Sl → Prop} (h : EV K te ρ fun d ρ1 => ∃ s, d = .str s ∧ EV K tf ρ1 fun x ρ2 => ∃ t, x = .str t ∧ (t.length == 0) = false ∧ s.length + 2 ≤ sizeLine ∧ Q ((Txt.split s t).map .str) ρ2) : EF K (tM1 rSplit te tf) ρ Q := fun B H σ R e k =>
  h B H σ _ e fun v B1 H1 d ρ1 ⟨s, hd, hu⟩ s1 b1 e1 r1 => by
    subst hd
    cases r1
    refine ⟨⟨s, rfl⟩, hu B1 H1 σ _ e1 fun w B2 H2 x ρ2 ⟨t, hx, ht, hz, hq⟩ s2 b2 e2 r2 => ?_⟩
    subst hx
    cases r2
    refine ⟨s, t, rfl, rfl, ht, hz, fun p hp => ?_⟩
    have pu := Pur.out (o := .lst ((Txt.split s t).map V.str)) e2.ex hp
    have s12 := s1.trans e1.ex s2
    exact k p _ B2 _ _ ρ2 hq (s12.trans e2.ex pu.stp) (fun z q => b1 z (b2 z q)) (e2.pur pu) (s12.th p hp) (fresh_back e2.ex hp) (fun z => by obtain ⟨_, o, q⟩ := e2.ownOf z; rw [hp] at q; cases q) upd_same (repAll_strs _)
/-- -x -/
theorem uj_neg {i : Int} (h : P (.int (-i))) : UJ K (rU fun i => .int (-i)) (.int i) P := fun B H v Q e r k => by
  cases r
  exact ⟨i, rfl, k _ B H _ h (Pur.refl e) (.int _)⟩
/-- a tuple of the module -/
theorem rep_globT {a : Addr} {xs : List V} {ds : List D} (h : ∀ B : Hp, SqT K B a xs) (r : ∀ B : Hp, RepAll K B xs ds) (B : Hp) : Rep K B (.ref a) (.tup ds) := .tup (h B) (r B)
end
end
end Dn
namespace Dn
open PySem PySem.Spec PyProof.Rows L2 Evl
/-! ### a list, a tuple or a text that is walked -/
def iSeqU (K : PySem.W.Frag) (te : TE) : TI := fun σ H R => te σ H fun x H1 =>
  (∃ a, x = .ref a ∧ (∃ xs, SqL K H1 a xs) ∧ R (Itl K a) H1) ∨ (∃ a, x = .ref a ∧ (∃ xs, SqT K H1 a xs) ∧ R (Itt K a) H1)
theorem pi_seqU {X : Cx} {tg l : Expr} {te : TE} (hl : PE X l te) : PI X tg l (iSeqU X.K te) := ⟨fun pins s σ H R I h =>
  thn (hl.run pins s σ H _ I h) fun v s1 ⟨x, H1, I1, r1, q1⟩ => by
    rcases q1 with ⟨a, e, ⟨xs, hq⟩, q⟩ | ⟨a, e, ⟨xs, hq⟩, q⟩
    · subst e
      cases r1
      obtain ⟨its, _, p, _⟩ := I1.list hq
      refine wpAny_pyIter_list p.isList ⟨s1.heap.objs.size, [s1.heap.objs.size], _, _, H1, rfl, ?_, turn_list a _, ⟨_, Heap.get?_push_size _ rfl, rfl, rfl⟩, fun b hb => ?_, q⟩
      · exact I1.kept (t' := s1.toks) fun _ _ e => Heap.get?_push_of_some _ e
      · rw [List.mem_singleton.mp hb]
        exact I1.fpOk (Nat.le_refl _) (I1.hok.fresh (Nat.le_refl _))
    · subst e
      cases r1
      obtain ⟨its, _, p, _⟩ := I1.tuple hq
      have p' : s1.heap.IsTuple a its.toArray := p
      refine wpAny_pyIter_tuple p' ⟨s1.heap.objs.size, [s1.heap.objs.size], _, _, H1, rfl, ?_, turn_tuple a _, ⟨_, Heap.get?_push_size _ rfl, rfl, rfl⟩, fun b hb => ?_, q⟩
      · exact I1.kept (t' := s1.toks) fun _ _ e => Heap.get?_push_of_some _ e
      · rw [List.mem_singleton.mp hb]
        exact I1.fpOk (Nat.le_refl _) (I1.hok.fresh (Nat.le_refl _))⟩
section
variable {K : PySem.W.Frag} {B H : Hp} {ρ : List Sl}
theorem ei_seq {te : TE} {R : List D → List Sl → Prop} (h : EV K te ρ fun d ρ1 => ∃ ds, sqd d = some ds ∧ R ds ρ1) : EI K (iSeqU K te) ρ R := fun B H σ Q e k =>
  h B H σ _ e fun v B1 H1 d ρ1 ⟨ds, hd, hr⟩ s1 b1 e1 r1 => by
    obtain ⟨a, xs, rfl, hs, ha⟩ := sqd_rep hd r1
    rcases hs with hs | hs
    · refine .inl ⟨a, rfl, ⟨xs, ex_l e1.ex hs⟩, k _ B1 H1 ds ρ1 hr s1 b1 e1 ⟨fun i H e l => ⟨xs, xs[i]'(by rw [ha.length]; exact l), ex_l e hs, by simp [ha.length, l]⟩, fun i H x H' e l y B2 b1 b2 => ?_, fun i H e l => ⟨xs, ex_l e hs, by rw [ha.length]; exact l⟩⟩⟩
      obtain ⟨rfl, y⟩ := y
      obtain ⟨d, h1, h2⟩ := ha.getV (y xs (ex_l e hs))
      exact ⟨B2, d, h1, Pur.refl b2, h2.up b1⟩
    · refine .inr ⟨a, rfl, ⟨xs, ex_t e1.ex hs⟩, k _ B1 H1 ds ρ1 hr s1 b1 e1 ⟨fun i H e l => ⟨xs, xs[i]'(by rw [ha.length]; exact l), ex_t e hs, by simp [ha.length, l]⟩, fun i H x H' e l y B2 b1 b2 => ?_, fun i H e l => ⟨xs, ex_t e hs, by rw [ha.length]; exact l⟩⟩⟩
      obtain ⟨rfl, y⟩ := y
      obtain ⟨d, h1, h2⟩ := ha.getV (y xs (ex_t e hs))
      exact ⟨B2, d, h1, Pur.refl b2, h2.up b1⟩
end
/-! ### a def found by its global name -/
structure At (K : PySem.W.Frag) (mg : Str → Option Value) (x : Str) (st : Stmt) (f : Addr) (fd : FuncData) : Prop where
  fn : FunD K x x (defArgs st) (defBody st) (defScope st) [] [] f fd
  mgf : mg x = some (.ref f)
section
variable {P : Program} {w : World} {K : PySem.W.Frag} {mg : Str → Option Value} {base : Heap} {x : Str} {st : Stmt} {N ps : List Str}
theorem fnC {k : Nat} {W : List Sl → (D → List Sl → Prop) → Prop} {t : TS} (F : ∃ f fd, At K mg x st f fd) (S : FnScope N ps (defScope st)) (len : ∀ ρ0 Q, W ρ0 Q → ρ0.length = ps.length)
    (bd : ∀ (kV doc pm : Value) (an : Option Addr) (cdv ct : Value) (us : List Value), us.length = ps.length → bindArgs (PySem.W.fnOf x x (defArgs st) (defBody st) (defScope st) .none kV doc pm an cdv ct) ⟨us, []⟩ = pure (ps.zip us))
    (hd : ∀ (f : Addr) (cdv : Value) (A : Around) (outer : List Env) (s : Shared) (H : Hp) (E : XK), Room k (A.deeper (envOfC x (defScope st) s.heap.objs.size f cdv)) → PSs (cxOf CX0 P w K mg base N x (defScope st) f cdv A outer s H E).nox (defBody st) t)
    (hx : ∀ ρ0 Q, W ρ0 Q → XS K t (ρ0 ++ List.replicate (N.length - ρ0.length) .unk) (bodyPost ρ0 Q)) : C8.Cal P w K mg base (k + 1) x (spW K W) [] := by
  obtain ⟨f, fd, F⟩ := F
  exact ⟨f, fd, ps, [], fnD F.fn S len (hd f) hx, F.mgf, F.fn.kp, F.fn.bindsN bd, .nil⟩
end
/-! ### defs that lean on repr: no guard stands around -/
structure FnG (P : Program) (w : World) (K : PySem.W.Frag) (mg : Str → Option Value) (base : Heap) (k : Nat) (f : Addr) (fd : FuncData) (ps : List Str) (sp : Sp) : Prop where
  len : ∀ vs H Q E, sp vs H Q E → vs.length = ps.length
  run : ∀ (A : Around) (outer : List Env) (s : Shared) (H : Hp) (args : Args) (us : List Value) (vs : List V) (Q : VK) (E : XK), A.guards = some [] → Room k A → Env0 P w K mg base A outer s H → BindsTo s fd args (ps.zip us) → Vals vs us → sp vs H Q E →
    codeAny (model P w) A (.call (.ref f) args) (CR CX0 outer P w H s Q E) s
section
variable {P : Program} {w : World} {K : PySem.W.Frag} {mg : Str → Option Value} {base : Heap} {x qual : Str} {params : Arguments} {body : List Stmt} {scope : Scope} {f : Addr} {fd : FuncData} {N ps : List Str}
theorem fnG_of {k : Nat} {sp : Sp} (F : FunD K x qual params body scope [] [] f fd) (S : FnScope N ps scope) (len : ∀ vs H Q E, sp vs H Q E → vs.length = ps.length)
    (hbody : ∀ (cdv : Value) (A : Around) (outer : List Env) (s : Shared) (H : Hp) (vs : List V) (Q : VK) (E : XK), A.guards = some [] → Room k (A.deeper (envOfC qual scope s.heap.objs.size f cdv)) → sp vs H Q E →
      ∃ t, PSs (cxOf CX0 P w K mg base N qual scope f cdv A outer s H E) body t ∧ t { nx := fun _ H' => Q .non H', rt := Q } (L2.start N vs) H) : FnG P w K mg base (k + 1) f fd ps sp := by
  obtain ⟨oc, od, dV, kV, doc, pm, an, cdv, ct, osl, rfl, lk, hcd, _, _⟩ := F.ex
  refine ⟨len, fun A outer s H args us vs Q E ng hr e0 hb r hsp => ?_⟩
  have inHeap : ∀ b o, base.get? b = some o → s.heap.get? b = some o := fun b o e => (e0.bs b o e).1
  have KX := e0.mod.kin.keeps inHeap
  refine codeAny_call_function hr.depth (KX _ _ lk) rfl S.co S.gen rfl (PySem.W.codeRec_of KX hcd) (hb _ _ _ _ (wpAny_newFunctionEnv_cells S.kind (fun ⟨n, v⟩ hy => ?_) fun env he s1 z => ?_))
  · rcases S.par n (List.of_mem_zip hy).1 with q | q
    · exact Or.inl q
    · exact Or.inr (And.intro q (PySem.W.cellsFrom_some _ _ _ (Or.inl q)))
  · subst he
    refine ⟨(e0.mod.nolimit.keeps inHeap).keeps z.toInCall.keep, codeAny_func ?_⟩
    obtain ⟨t, ht, hq⟩ := hbody cdv A outer s H vs Q E ng (hr.deeper _) hsp
    have hl := len _ _ _ _ hsp
    refine wpAny_mono (ht.run [] s1 (L2.start N vs) H _ (inv_start S hr.hd e0 hl r z) hq) (fun fl s' hs => ?_) (fun e s' hs => hs)
    cases fl with
    | ret u =>
      obtain ⟨v, σ', H', J, rv, q⟩ := hs
      exact ⟨v, H', J.os, J.bare, J.base, J.hok, rv, q⟩
    | next =>
      obtain ⟨σ', H', J, q⟩ := hs
      exact ⟨.non, H', J.os, J.bare, J.base, J.hok, rfl, q⟩
    | brk => exact hs.elim fun _ z => z.elim fun _ z => False.elim z.2
    | cont => exact hs.elim fun _ z => z.elim fun _ z => False.elim z.2
theorem fnGD {k : Nat} {W : List Sl → (D → List Sl → Prop) → Prop} {t : TS} (F : FunD K x qual params body scope [] [] f fd) (S : FnScope N ps scope) (len : ∀ ρ0 Q, W ρ0 Q → ρ0.length = ps.length)
    (hd : ∀ (cdv : Value) (A : Around) (outer : List Env) (s : Shared) (H : Hp) (E : XK), A.guards = some [] → Room k (A.deeper (envOfC qual scope s.heap.objs.size f cdv)) → PSs (cxOf CX0 P w K mg base N qual scope f cdv A outer s H E).nox body t)
    (hx : ∀ ρ0 Q, W ρ0 Q → XS K t (ρ0 ++ List.replicate (N.length - ρ0.length) .unk) (bodyPost ρ0 Q)) : FnG P w K mg base (k + 1) f fd ps (spW K W) :=
  fnG_of F S (fun vs H Q E h => by
    obtain ⟨B, ρ0, R, e, hw, _⟩ := h
    rw [← len ρ0 R hw, e.len, List.length_map]) fun cdv A outer s H vs Q E ng hr h => ⟨t, (hd cdv A outer s H E ng hr).nox, body_ok hx vs H Q E h⟩
end
section
variable {X : Cx} {f : Addr} {fd : FuncData} {ps : List Str} {sp : Sp} {k : Nat} {x : Str} {e : Expr} {es : List Expr} {t : TA} {p pos : Pos}
theorem pe_callG (F : FnG X.prog X.w X.K X.mg X.base k f fd ps sp) (ng : X.A.guards = some []) (hr : Room k X.A) (hg : Gl X x) (hm : X.mg x = some (.ref f)) (hk : PySem.W.keepIn X.K (.ref f) = true) (hb : Binds X.K fd ps [])
    (ha : PA X (e :: es) t) (hdb : (x == ("__debug__" : Str)) = false := by decide) (he : starEach (e :: es) X.env = (false, eval e X.env) :: starEach es X.env := by rfl) (hpl : (backTo pos (starEach es X.env)).any (·.1) = false := by rfl) :
    PE X (.Call (.Name x p) (e :: es) [] pos) (tCall sp [] E0 t) := ⟨fun pins s σ H Q I h => by
  refine wpAny_Call_Name_kw (ld_glob I hg hm (PySem.W.callWith_K (h₀ := X.base) I.ok.mod.kin hk (thn (ha.run pos pins s σ H _ I h) fun us s1 ⟨vs, H1, I1, r, q⟩ => ⟨I1.kIn, ?_⟩) he hpl) hdb)
  have q : sp (vs ++ []) H1 Q E0 := q
  rw [List.append_nil] at q
  have hl : us.length = ps.length := r.length.symm.trans (F.len _ _ _ _ q)
  have hb' := hb s1 us I1.kIn (by rw [List.append_nil]; exact hl)
  rw [List.append_nil] at hb'
  refine wpAny_call (codeAny_mono (F.run X.A X.stack s1 H1 ⟨us, []⟩ us vs Q E0 ng hr I1.env0 hb' r q) fun r s' hq => ?_)
  match r, hq with
  | .ok (.ret u), hq => exact I1.after hq⟩
end
/-! ### the law's own def -/
theorem law_callG {P : Program} {w : World} {K : PySem.W.Frag} {mg mb : Str → Option Value} {k : Nat} {fa a : Addr} {fd : FuncData} {x : Str} {sp : Sp} {z : Shared} {vs : List Value} {ns : List Int}
    (KX : K.In z.heap) (hns : z.heap.Ns mainGlobals mg) (hb : z.heap.Ns builtinsNs mb) (hbb : ∀ x : Str, x ≠ "__name__" → mb x = bootBuiltins x) (hlim : z.heap.NoLimit) (hg : z.gens = #[])
    (ha : z.heap.get? a = some { cls := .type "list", data := .seq vs.toArray }) (hi : IntsAre vs ns) (hl : ns.length ≤ sizeLine) (hr : Room k callerA)
    (F : ∀ base : Heap, K.In base → base.Ns mainGlobals mg → FnG P w K mg base k fa fd [x] sp) (hbind : ∀ (s : Shared) (u : Value), BindsTo s fd ⟨[u], []⟩ [(x, u)])
    (hsp : ∀ H : Hp, Only H → SqL K H a (ns.map V.int) → sp [.ref a] H (fun v _ => v = .bl true) fun _ _ _ => False) :
    codeAny (model P w) callerA (.call (.ref fa) ⟨[.ref a], []⟩) (fun r s' => r = .ok (.ret (.bool true)) ∧ PySem.OldK z.heap s'.heap ∧ s'.os = z.os ∧ AllBare s'.gens) z := by
  have rv := vals_ints hi
  have lenV := hi.length
  -- over an abstract heap that tracks the script at most
  have core : ∀ H : Hp, Only H → SqL K H a (ns.map V.int) → HOk P w H z.heap → (∀ b o, H b = some o → b = a ∧ K.lookup a = none) →
      codeAny (model P w) callerA (.call (.ref fa) ⟨[.ref a], []⟩) (fun r s' => r = .ok (.ret (.bool true)) ∧ PySem.OldK z.heap s'.heap ∧ s'.os = z.os ∧ AllBare s'.gens) z := fun H hO hS ok hA => by
    have isDict : ∀ {b : Addr} {o : Obj} {es : Array DictEntry} {ep : Nat}, z.heap.get? b = some o → o.data = .dict es ep → H b = none := fun {b o es ep} e d => by
      cases q : H b with
      | none => rfl
      | some u =>
        obtain ⟨rfl, _⟩ := hA b u q
        rw [ha] at e
        cases e
        cases d
    have nsH : ∀ {b : Addr} {m : Str → Option Value}, z.heap.Ns b m → (hidT z.heap H).Ns b m := fun {b m} ⟨o, es, ep, e, d, r⟩ => ⟨o, es, ep, hidT_get e (isDict e d), d, r⟩
    have hKb : K.In (hidT z.heap H) := fun b o e => hidT_get (KX b o e) (by
      cases q : H b with
      | none => rfl
      | some u =>
        obtain ⟨rfl, n⟩ := hA b u q
        rw [n] at e
        cases e)
    have hM : Mod K mg (hidT z.heap H) := ⟨hKb, nsH hns, ⟨mb, nsH hb, hbb⟩, let ⟨mc, h1, h2⟩ := hlim; ⟨mc, nsH h1, h2⟩⟩
    have none_in : ∀ {b : Addr}, b ∉ frs [] := fun {b} m => by cases m
    have e0 : Env0 P w K mg (hidT z.heap H) callerA [] z H := ⟨rfl, hM, fun b o e => of_hidT e, Nat.le_of_eq (hidT_size _ _), trivial, fun b m => (none_in m).elim, ok, .of_eq hg⟩
    refine codeAny_mono ((F _ hKb (nsH hns)).run callerA [] z H ⟨[.ref a], []⟩ [.ref a] [.ref a] _ _ rfl hr e0 (hbind z (.ref a)) (.cons rfl .nil) (hsp H hO hS)) fun r s' h => ?_
    match r, h with
    | .ok (.ret u), h =>
      obtain ⟨v, H', os, bare, un, hok', r', rfl⟩ := h
      obtain rfl : u = Value.bool true := r'
      refine ⟨rfl, PySem.OldK.of_keep fun b o e => ?_, os, bare⟩
      rcases hO b with q | ⟨ob, xs, q⟩
      · exact un.keep b o e q none_in (fun m => by cases m)
      · have e1 := (ok b _ q).1
        have e2 := (hok' b _ (un.frzs b ob _ q)).1
        rw [e] at e1
        cases e1
        exact e2
  cases hk : K.lookup a with
  | some o =>
    -- the script is an object of the module
    have e := KX a o hk
    rw [ha] at e
    cases e
    refine core (fun _ => none) (fun _ => .inl rfl) (.inr ⟨_, vs.toArray, _, hk, rfl, rfl, rfl, ?_, ?_⟩) (fun b u z => ?_) (fun b o z => ?_)
    · rw [List.size_toArray, lenV]; exact hl
    · simpa using rv
    · cases (show (none : Option HO) = some u from z)
    · cases (show (none : Option HO) = some o from z)
  | none =>
    have at_ : ∀ {b : Addr} {u : HO}, (if b = a then some (HO.frz { cls := .type "list", data := .seq vs.toArray } (.lst (ns.map V.int))) else none) = some u → b = a ∧ u = .frz { cls := .type "list", data := .seq vs.toArray } (.lst (ns.map V.int)) := fun {b u} h => by
      by_cases c : b = a
      · rw [if_pos c] at h
        exact ⟨c, (Option.some.inj h).symm⟩
      · rw [if_neg c] at h
        cases h
    refine core (fun b => if b = a then some (.frz { cls := .type "list", data := .seq vs.toArray } (.lst (ns.map V.int))) else none) (fun b => ?_) (.inl (.inr ⟨_, if_pos rfl⟩)) (fun b u h => ?_) (fun b o h => ⟨(at_ h).1, hk⟩)
    · by_cases c : b = a
      · exact .inr ⟨_, _, if_pos c⟩
      · exact .inl (if_neg c)
    · obtain ⟨rfl, rfl⟩ := at_ h
      exact ⟨ha, by rw [List.length_map]; exact hl, vs, _, rv, ha⟩
theorem walk_ofG {l : PySem.W.OpenLaw} {n k : Nat} {q : Program} {loose : List Str} {XP : (Str → Option Value) → Heap → Prop} {YP : World → Heap → Prop} {d : PySem.DefRec} {x : Str}
    (hn : l.most = some n) (hn2 : n ≤ sizeLine) (hdf : d.params.defaults = []) (hr : Room k callerA)
    (F : ∀ (w : World) (mg : Str → Option Value) (fa : Addr) (h : Heap), YP w h → h.Ns mainGlobals mg → mg d.name = some (.ref fa) →
      ∃ (K : PySem.W.Frag) (fd : FuncData) (sp : Sp), K.In h ∧ (∀ (s : Shared) (u : Value), BindsTo s fd ⟨[u], []⟩ [(x, u)]) ∧
        (∀ (H : Hp) (a : Addr) (ns : List Int), ns.length ≤ n → Only H → SqL K H a (ns.map V.int) → sp [.ref a] H (fun v _ => v = .bl true) fun _ _ _ => False) ∧
        ∀ base : Heap, K.In base → base.Ns mainGlobals mg → FnG l.prog w K mg base k fa fd [x] sp) :
    PySem.W.WalkO q loose XP YP l.row.toRowW d [] (fun f vs => PySem.call f vs) :=
  Att.attach_call hn hdf fun w s0 s1 mg mb fa o pm cd doc a vs ns G Y _ _ _ hmg hobj hints hlen hg => by
    obtain ⟨K, fd, sp, KX, hb, hsp, hF⟩ := F w mg fa _ Y G.T.g hmg
    exact law_callG KX G.T.g G.T.b G.T.builtins G.T.nolimit hg hobj hints (Nat.le_trans hlen hn2) hr hF hb fun H hO hS => hsp H a ns hlen hO hS

/-! ### repr of data -/
def cReprU (K : PySem.W.Frag) : List V → Hp → VK → Prop := fun xs H Q => ∃ v p, xs = [v] ∧ Dp K H v p ∧ PyData.layable0 p = true ∧ p.showable = true ∧ p.shown.length ≤ sizeLine ∧ Q (.str p.shown) H
theorem call_reprU {X : Cx} (ng : X.A.guards = some []) (hu : X.A.units + (64 + 1) < cLine) : CallR X (.builtin "repr") (cReprU X.K) := by
  intro pins s σ H xs us Q I r h
  obtain ⟨v, p, rfl, dp, hl, hs, hz, q⟩ := h
  obtain ⟨u, rfl, ru⟩ := vals1 r
  obtain ⟨as, rd⟩ := Dp.reads I p v u dp ru
  cases rd with
  | none => exact PySem.P.repr_of_none ⟨.str _, H, I.tok _, ⟨_, rfl⟩, q⟩
  | bool b =>
    refine PySem.P.repr_of_bool ⟨.str _, H, I.tok _, ⟨_, rfl⟩, ?_⟩
    cases b <;> exact q
  | int i t =>
    refine PySem.P.repr_of_int (of_decide_eq_true hs) ⟨.str _, H, I.tok _, ⟨_, rfl⟩, q⟩
  | str y t => exact PySem.P.repr_of_str ⟨.str _, H, I.tok _, ⟨_, rfl⟩, q⟩ hz
  | list h1 h2 h3 h4 => exact repr_of_reads' (Reads.list h1 h2 h3 h4) hs (PyData.noDict_hsm (PyData.hasDict_of_layable hl)) ng (PySem.room_of_layable hl hu) (fun _ _ e => e) (fun h' u tk hk => ⟨.str _, H, I.kept hk, ⟨_, rfl⟩, q⟩) hz
  | tuple h1 h2 h3 h4 => exact repr_of_reads' (Reads.tuple h1 h2 h3 h4) hs (PyData.noDict_hsm (PyData.hasDict_of_layable hl)) ng (PySem.room_of_layable hl hu) (fun _ _ e => e) (fun h' u tk hk => ⟨.str _, H, I.kept hk, ⟨_, rfl⟩, q⟩) hz
  | dict _ _ _ _ => cases dp
theorem cj_repr {K : PySem.W.Frag} {d : D} {p : PyData} {P : D → Prop} (hp : py d = some p) (hl : PyData.layable0 p = true) (hs : p.showable = true) (hz : p.shown.length ≤ sizeLine) (h : P (.str p.shown)) : CJ K (cReprU K) [d] P := cj1 fun B H v Q e r k =>
  ⟨v, p, rfl, Dp_up e p _ (py_rep d v p r hp), hl, hs, hz, k _ B H _ h (Pur.refl e) (.str _)⟩
end Dn
namespace Dn
open PySem PySem.Spec PyProof.Rows L2 Evl
/-! ### d.get(e) of a dict of the module with text keys -/
def tKGet (K : PySem.W.Frag) (d : Addr) (te : TE) : TE := fun σ H Q => te σ H fun y H1 => ∃ (z : Str) (r : Option Value) (v : V), y = .str z ∧ PySem.W.nsIn K d z = some r ∧ (match r with | none => v = .non | some u => RelV v u) ∧ Q v H1
theorem pe_kget {X : Cx} {o e : Expr} {apos cpos : Pos} {d : Addr} {te : TE} (D : ∃ es n, KDict X.K X.w d es n) (ho : PE X o (tC (.ref d))) (he : PE X e te) (m : M1 X o "get" apos e cpos) : PE X (.Call (.Attribute o "get" apos) [e] [] cpos) (tKGet X.K d te) := by
  obtain ⟨es, n, D⟩ := D
  refine ⟨fun pins s σ H Q I h => ?_⟩
  refine wpAny_Call_method m.base m.few m.line PySem.F.plainAttrs_dict PySem.F.slot_dict_get PySem.F.type_dict_get (thn (ho.run pins s σ H (fun x H1 => x = .ref d ∧ tKGet X.K d te σ H1 Q) I ⟨rfl, h⟩) fun u s1 ⟨x, H1, I1, rx, ex, q1⟩ => ?_)
  subst ex
  cases rx
  have mo := PySem.W.mapOf_K (prog := X.prog) (w := X.w) I1.kIn D.at_ D.lit
  refine ⟨mo.typeIs, fun b q => by cases q; exact ⟨_, I1.kIn _ _ D.at_, rfl⟩, ?_⟩
  rw [m.trees]
  refine Calls.callWith_builtin rfl (Calls.evalArgs_plain (Calls.spliced_cons (thn (he.run pins s1 σ H1 _ I1 q1) fun iv s2 ⟨y, H2, I2, ry, z, r, v, ey, er, rv, q2⟩ => Calls.spliced_nil ?_)))
  subst ey
  obtain ⟨t, rfl⟩ := ry
  have mo2 := PySem.W.mapOf_K (prog := X.prog) (w := X.w) I2.kIn D.at_ D.lit
  refine call_meetsIn PySem.F.slot_dict_get mo2.typeIs PySem.F.entry_dict_get (PySem.F.args_dict_get_2 _ _) (meets_dict_get (strKind X.prog X.w) d (PySem.strKind_is X.prog X.w z t) D.low) ⟨_, mo2, ⟨v, H2, I2.tok _, ?_, q2⟩⟩
  have e := PySem.W.find_K D.at_ er
  show RelV v ((findBy Value.isStrOf es z).getD .none)
  rw [e]
  cases r with
  | none => subst rv; rfl
  | some u => exact rv
theorem ev_kget {K : PySem.W.Frag} {d : Addr} {te : TE} {ρ : List Sl} {P : D → List Sl → Prop} (h : EV K te ρ fun x ρ1 => ∃ (z : Str) (r : Option Value) (v : V) (y : D), x = .str z ∧ PySem.W.nsIn K d z = some r ∧ (match r with | none => v = .non | some u => RelV v u) ∧ fl y = some v ∧ P y ρ1) : EV K (tKGet K d te) ρ P := fun B H σ Q e k =>
  h B H σ _ e fun u B1 H1 x ρ1 ⟨z, r, v, y, hx, hr, hv, hy, hp⟩ s1 b1 e1 r1 => by
    subst hx
    cases r1
    refine ⟨z, r, v, rfl, hr, hv, k v B1 H1 y ρ1 hp s1 b1 e1 ?_⟩
    cases y with
    | non => cases hy; exact .non
    | bl b => cases hy; exact .bl b
    | int i => cases hy; exact .int i
    | str s => cases hy; exact .str s
    | raw v => cases hy
    | tup ds => cases hy
    | lst ds => cases hy
    | rol ds => cases hy
/-! ### {..}.get(e, n), texts to ints -/
def cTrs : List (Str × Int) → List (TE × TE)
  | [] => []
  | (x, i) :: r => (tC (.str x), tC (.int i)) :: cTrs r
def cKvs : List (Str × Int) → List (Key × V)
  | [] => []
  | (x, i) :: r => (.inr x, .int i) :: cKvs r
theorem cTrs_run {σ : L2.St} {H : Hp} {Q : List (V × V) → Hp → Prop} : ∀ {l : List (Str × Int)}, Q ((cKvs l).map fun kv => (kV kv.1, kv.2)) H → tPairs (cTrs l) σ H Q
  | [], h => h
  | (x, i) :: r, h => cTrs_run (l := r) (Q := fun ps H3 => Q ((V.str x, V.int i) :: ps) H3) h
def tDGetC (l : List (Str × Int)) (te : TE) (n : Int) : TE := tDGet2 (tDisp (cTrs l)) te (tC (.int n))
theorem ev_dgetC {K : PySem.W.Frag} {l : List (Str × Int)} {n : Int} {te : TE} {ρ : List Sl} {P : D → List Sl → Prop} (hl : (cKvs l).length ≤ 15)
    (h : EV K te ρ fun x ρ1 => ∃ z i, x = .str z ∧ (valV (mergeK [] (cKvs l)) (.inr z)).getD (.int n) = .int i ∧ P (.int i) ρ1) : EV K (tDGetC l te n) ρ P := fun B H σ Q e k p hp => by
  refine cTrs_run ⟨upd_same, cKvs l, rfl, hl, p, rfl, .inl ⟨_, .inl upd_same⟩, ?_⟩
  rw [upd_upd]
  have pu := Pur.out (o := .dK (mergeK [] (cKvs l))) e.ex hp
  refine h B _ σ _ (e.pur pu) fun u B1 H1 x ρ1 ⟨z, i, hx, hv, hq⟩ s1 b1 e1 r1 => ?_
  subst hx
  cases r1
  have no : ¬ Own ρ p := fun z => by
    obtain ⟨_, o, q⟩ := e.ownOf z
    rw [hp] at q; cases q
  have hd := (s1.fr p _ upd_same (fresh_back e.ex hp) no).1
  refine ⟨_, .inl ⟨_, .inr z, .inl hd, rfl, rfl⟩, ?_⟩
  rw [hv]
  exact k _ B1 H1 _ ρ1 hq ((pu.stp (ρ := ρ)).trans (e.pur pu).ex s1) b1 e1 (.int i)
end Dn
namespace Dn
open PySem PySem.Spec PyProof.Rows L2 Evl
section
variable {A B : Prop}
theorem br_t (h : A) : (true = true → A) ∧ (true = false → B) := ⟨fun _ => h, fun q => nomatch q⟩
theorem br_f (h : B) : (false = true → A) ∧ (false = false → B) := ⟨(fun q => nomatch q), fun _ => h⟩
theorem br_nt (h : B) : ((!true) = true → A) ∧ ((!true) = false → B) := ⟨(fun q => nomatch q), fun _ => h⟩
theorem br_nf (h : A) : ((!false) = true → A) ∧ ((!false) = false → B) := ⟨fun _ => h, fun q => nomatch q⟩
theorem br_d {p : Prop} [Decidable p] (h : p → A) (g : ¬ p → B) : (decide p = true → A) ∧ (decide p = false → B) := ⟨fun q => h (of_decide_eq_true q), fun q => g (of_decide_eq_false q)⟩
theorem br_n {p : Prop} [Decidable p] (h : ¬ p → A) (g : p → B) : ((!decide p) = true → A) ∧ ((!decide p) = false → B) :=
  ⟨fun q => h (by simpa using q), fun q => g (by simpa using q)⟩
theorem br_nn {p : Prop} [Decidable p] (h : p → A) (g : ¬ p → B) : ((!!decide p) = true → A) ∧ ((!!decide p) = false → B) :=
  ⟨fun q => h (by simpa using q), fun q => g (by simpa using q)⟩
theorem br_b {b : Bool} (h : b = true → A) (g : b = false → B) : (b = true → A) ∧ (b = false → B) := ⟨h, g⟩
theorem br_nb {b : Bool} (h : b = false → A) (g : b = true → B) : ((!b) = true → A) ∧ ((!b) = false → B) :=
  ⟨fun q => h (by simpa using q), fun q => g (by simpa using q)⟩
theorem bl_ex {b : Bool} {R : Bool → Prop} (h : R b) : ∃ c, D.bl b = .bl c ∧ R c := ⟨b, rfl, h⟩
theorem int_ex {b : Int} {R : Int → Prop} (h : R b) : ∃ c, D.int b = .int c ∧ R c := ⟨b, rfl, h⟩
theorem str_ex {b : Str} {R : Str → Prop} (h : R b) : ∃ c, D.str b = .str c ∧ R c := ⟨b, rfl, h⟩
theorem tup_ex {b : List D} {R : List D → Prop} (h : R b) : ∃ c, D.tup b = .tup c ∧ R c := ⟨b, rfl, h⟩
theorem sq_lst {b : List D} {R : List D → Prop} (h : R b) : ∃ c, sqd (D.lst b) = some c ∧ R c := ⟨b, rfl, h⟩
theorem sq_tup {b : List D} {R : List D → Prop} (h : R b) : ∃ c, sqd (D.tup b) = some c ∧ R c := ⟨b, rfl, h⟩
theorem ds_nil {R : List D → Prop} (h : R []) : ∃ ds : List D, ([] : List Ar) = ds.map .dat ∧ R ds := ⟨[], rfl, h⟩
theorem ds_1 {R : List D → Prop} {a : D} (h : R [a]) : ∃ ds : List D, ([.dat a] : List Ar) = ds.map .dat ∧ R ds := ⟨[a], rfl, h⟩
theorem ds_2 {R : List D → Prop} {a b : D} (h : R [a, b]) : ∃ ds : List D, ([.dat a, .dat b] : List Ar) = ds.map .dat ∧ R ds := ⟨[a, b], rfl, h⟩
theorem ds_3 {R : List D → Prop} {a b c : D} (h : R [a, b, c]) : ∃ ds : List D, ([.dat a, .dat b, .dat c] : List Ar) = ds.map .dat ∧ R ds := ⟨[a, b, c], rfl, h⟩
theorem ds_4 {R : List D → Prop} {a b c d : D} (h : R [a, b, c, d]) : ∃ ds : List D, ([.dat a, .dat b, .dat c, .dat d] : List Ar) = ds.map .dat ∧ R ds := ⟨[a, b, c, d], rfl, h⟩
end
section
variable {K : PySem.W.Frag} {ρ : List Sl} {P : D → Prop}
theorem body_rt {ρ0 ρ' : List Sl} {P : D → List Sl → Prop} {d : D} (h : kept ρ0 ρ') (g : P d (Dn.fin ρ0 ρ')) : (bodyPost ρ0 P).rt d ρ' := ⟨h, g⟩
theorem body_nx {ρ0 ρ' : List Sl} {P : D → List Sl → Prop} (h : kept ρ0 ρ') (g : P .non (Dn.fin ρ0 ρ')) : (bodyPost ρ0 P).nx ρ' := ⟨h, g⟩
theorem atI_zero {α : Type} {a : α} {l : List α} : atI (a :: l) 0 = some a := atI_nat (j := 0) rfl
theorem tru_i {i : Int} {R : Bool → Prop} (h : R (i != 0)) : (∃ ds, sqd (D.int i) = some ds ∧ R (!ds.isEmpty)) ∨ (∃ j, D.int i = .int j ∧ R (j != 0)) ∨ (∃ b, D.int i = .bl b ∧ R b) ∨ (D.int i = .non ∧ R false) ∨ ∃ s, D.int i = .str s ∧ s.length ≤ sizeLine ∧ R ((s.length : Int) != 0) := .inr (.inl ⟨i, rfl, h⟩)
theorem tru_l {l : List D} {R : Bool → Prop} (h : R (!l.isEmpty)) : (∃ ds, sqd (D.lst l) = some ds ∧ R (!ds.isEmpty)) ∨ (∃ j, D.lst l = .int j ∧ R (j != 0)) ∨ (∃ b, D.lst l = .bl b ∧ R b) ∨ (D.lst l = .non ∧ R false) ∨ ∃ s, D.lst l = .str s ∧ s.length ≤ sizeLine ∧ R ((s.length : Int) != 0) := .inl ⟨l, rfl, h⟩
theorem tru_b {c : Bool} {R : Bool → Prop} (h : R c) : (∃ ds, sqd (D.bl c) = some ds ∧ R (!ds.isEmpty)) ∨ (∃ j, D.bl c = .int j ∧ R (j != 0)) ∨ (∃ b, D.bl c = .bl b ∧ R b) ∨ (D.bl c = .non ∧ R false) ∨ ∃ s, D.bl c = .str s ∧ s.length ≤ sizeLine ∧ R ((s.length : Int) != 0) := .inr (.inr (.inl ⟨c, rfl, h⟩))
theorem tru_s {s : Str} {R : Bool → Prop} (hz : s.length ≤ sizeLine) (h : R ((s.length : Int) != 0)) : (∃ ds, sqd (D.str s) = some ds ∧ R (!ds.isEmpty)) ∨ (∃ j, D.str s = .int j ∧ R (j != 0)) ∨ (∃ b, D.str s = .bl b ∧ R b) ∨ (D.str s = .non ∧ R false) ∨ ∃ t, D.str s = .str t ∧ t.length ≤ sizeLine ∧ R ((t.length : Int) != 0) := .inr (.inr (.inr (.inr ⟨s, rfl, hz, h⟩)))
theorem oj_ixL {ds : List D} {i : Int} {d : D} (ha : atI ds i = some d) (h : P d) : OJ K (rIx K) (.lst ds) (.int i) P := oj_ix rfl ha h
theorem oj_ixT {ds : List D} {i : Int} {d : D} (ha : atI ds i = some d) (h : P d) : OJ K (rIx K) (.tup ds) (.int i) P := oj_ix rfl ha h
theorem cj_lenL {ds : List D} (h : P (.int (ds.length : Int))) : CJ K (cLenU K) [.lst ds] P := cj_len rfl h
theorem cj_lenT {ds : List D} (h : P (.int (ds.length : Int))) : CJ K (cLenU K) [.tup ds] P := cj_len rfl h
theorem cj_tupL {ds : List D} (h : P (.tup ds)) : CJ K (cTupU K) [.lst ds] P := cj_tup rfl h
theorem cj_tupT {ds : List D} (h : P (.tup ds)) : CJ K (cTupU K) [.tup ds] P := cj_tup rfl h
theorem oj_joinL {s : Str} {ys : List Str} (hz : (ys.map (·.length)).sum + ys.length * s.length ≤ 16777216) (h : P (.str (Txt.join s ys))) : OJ K (fun v w H Q => rJoin K v [w] H Q) (.str s) (.lst (ys.map .str)) P := oj_join rfl hz h
end
end Dn
namespace Dn
open PySem PySem.Spec PyProof.Rows L2 Evl
section
variable {K : PySem.W.Frag} {ρ : List Sl} {te : TE}
theorem et_yes {R : Bool → List Sl → Prop} (h : R true ρ) : ET K tYes ρ R := fun B H σ Q e k => k true B H ρ h .refl (fun _ z => z) e
/-- [e for x in source], nothing changed on the way -/
theorem ef_map {wi : TI} {g : TG} {gs vs : List Nat} {R : List D → List Sl → Prop} (hgs : ∀ k ∈ gs, k ∈ vs) (h : EI K wi ρ fun items ρ1 => ∃ (α : Type) (xs : List α) (a b : α → D), items = xs.map a ∧ xs.length ≤ sizeLine ∧ noOwn ρ1 vs ∧
    (∀ x ∈ xs, GJ K g gs (a x) (wipeS ρ1 vs) fun ρ2 => EV K te ρ2 fun y ρ3 => y = b x ∧ Dn.rest ρ1 ρ3 vs = ρ1) ∧ R (xs.map b) ρ1) : EF K (tLc wi g tYes te vs) ρ R :=
  ef_lc hgs fun B H σ Q e k => h B H σ Q e fun J B' H' items ρ1 ⟨α, xs, a, b, hi, hz, hn, hs, hr⟩ s1 b1 e1 it => by
    refine k J B' H' items ρ1 ⟨fun i acc ρ' => ρ' = ρ1 ∧ acc = (xs.map b).take i, ⟨rfl, rfl⟩, fun i d acc ρ' hd hv => ?_, fun acc ρ' hv => ?_⟩ s1 b1 e1 it
    · obtain ⟨rfl, rfl⟩ := hv
      refine ⟨hn, ?_⟩
      subst hi
      rw [List.getElem?_map] at hd
      cases hx : xs[i]? with
      | none => rw [hx] at hd; cases hd
      | some x =>
        rw [hx] at hd
        obtain rfl : a x = d := Option.some.inj hd
        have hm : x ∈ xs := List.mem_of_getElem? hx
        have hlt : i < xs.length := (List.getElem?_eq_some_iff.mp hx).1
        refine fun B H σ v Q e r k => hs x hm B H σ v Q e r fun σ' B' H' ρ2 hp => k σ' B' H' ρ2 (et_yes ⟨fun _ => hp.mono fun y ρ3 ⟨q1, q2⟩ => ?_, fun q => nomatch q⟩)
        subst q1
        refine ⟨by rw [List.length_take]; omega, q2, ?_⟩
        rw [List.take_add_one, List.getElem?_map, hx]
        rfl
    · obtain ⟨rfl, rfl⟩ := hv
      subst hi
      rw [List.take_of_length_le (by simp)]
      exact hr

theorem upds_dat : ∀ (ds : List D) (ρ rs : List Sl), upds ρ (ds.map .dat) rs = ρ
  | [], ρ, rs => by cases rs <;> rfl
  | _ :: ds, ρ, [] => rfl
  | _ :: ds, ρ, _ :: rs => by show upds ρ (ds.map .dat) rs = ρ; exact upds_dat ds ρ rs
theorem slots_dat : ∀ (ds : List D), slots (ds.map .dat) = []
  | [] => rfl
  | _ :: ds => slots_dat ds
/-- a call with data alone -/
theorem ev_callD {ta : TA} {P : D → List Sl → Prop} {W : List Sl → (D → List Sl → Prop) → Prop} {E : XK} (h : EA K ta ρ fun as ρ1 => ∃ ds : List D, as = ds.map .dat ∧ W (ds.map .dat) fun d _ => P d ρ1) : EV K (tCall (spW K W) [] E ta) ρ P :=
  ev_call fun B H σ Q e k => h B H σ Q e fun vs B' H' as ρ' ⟨ds, ha, hw⟩ => k vs B' H' as ρ' <| by
    subst ha
    refine ⟨by rw [slots_dat]; exact List.nodup_nil, ?_⟩
    rw [show (ds.map Ar.dat).map (slOf ρ') = ds.map Sl.dat by rw [List.map_map]; rfl]
    rw [show (fun d ρ0' => P d (upds ρ' (ds.map Ar.dat) ρ0')) = fun d _ => P d ρ' from funext fun d => funext fun r => by rw [upds_dat]]
    exact hw
end
/-! ### cuts -/
section
variable {α β : Type}
def cutL (xs : List α) (lo hi : Option Int) : List α := (xs.drop (HT.sIx xs.length 0 lo)).take (HT.sIx xs.length xs.length hi - HT.sIx xs.length 0 lo)
theorem cutD_map (f : α → D) (xs : List α) (lo hi : Option Int) : cutD (xs.map f) lo hi = (cutL xs lo hi).map f := by
  unfold cutD cutL
  rw [List.length_map, List.map_take, List.map_drop]
theorem cutD_eq (xs : List D) (lo hi : Option Int) : cutD xs lo hi = cutL xs lo hi := rfl
theorem cutS_tl (s : Str) (lo hi : Option Int) : (cutS s lo hi).cps.toList = cutL s.cps.toList lo hi := by
  unfold cutS cutL
  rw [show s.length = s.cps.toList.length by simp [Str.length]]
theorem cutL_to (xs : List α) (k : Nat) : cutL xs none (some (k : Int)) = xs.take k := by
  unfold cutL
  rw [HT.sIx_nat, HT.sIx_none, List.drop_zero, Nat.sub_zero]
  rcases Nat.le_total k xs.length with c | c
  · rw [Nat.min_eq_left c]
  · rw [Nat.min_eq_right c, List.take_of_length_le (Nat.le_refl _), List.take_of_length_le c]
theorem cutL_from (xs : List α) (k : Nat) : cutL xs (some (k : Int)) none = xs.drop k := by
  unfold cutL
  rw [HT.sIx_nat, HT.sIx_none]
  rcases Nat.le_total k xs.length with c | c
  · rw [Nat.min_eq_left c, List.take_of_length_le (by rw [List.length_drop]; exact Nat.le_refl _)]
  · rw [Nat.min_eq_right c, List.drop_eq_nil_of_le (Nat.le_refl _), List.drop_eq_nil_of_le c, List.take_nil]
theorem cutL_mid (xs : List α) (i j : Nat) (h : j ≤ xs.length) (hij : i ≤ j) : cutL xs (some (i : Int)) (some (j : Int)) = (xs.drop i).take (j - i) := by
  unfold cutL
  rw [HT.sIx_nat, HT.sIx_nat, Nat.min_eq_left h, Nat.min_eq_left (Nat.le_trans hij h)]
theorem cutL_mid' (xs : List α) (i j : Nat) (hij : i ≤ j) : cutL xs (some (i : Int)) (some (j : Int)) = (xs.drop i).take (j - i) := by
  rcases Nat.le_total j xs.length with c | c
  · exact cutL_mid xs i j c hij
  · unfold cutL
    rw [HT.sIx_nat, HT.sIx_nat, Nat.min_eq_right c]
    rcases Nat.le_total i xs.length with d | d
    · rw [Nat.min_eq_left d, List.take_of_length_le (by rw [List.length_drop]; omega), List.take_of_length_le (by rw [List.length_drop]; omega)]
    · rw [Nat.min_eq_right d, List.drop_eq_nil_of_le (Nat.le_refl _), List.drop_eq_nil_of_le d, List.take_nil, List.take_nil]
theorem cutL_neg (xs : List α) (k : Nat) (hk : 1 ≤ k) : cutL xs none (some (-(k : Int))) = xs.take (xs.length - k) := by
  unfold cutL
  show (xs.drop 0).take ((if -(k : Int) < 0 then (-(k : Int) + (xs.length : Int)).toNat else min (-(k : Int)).toNat xs.length) - 0) = _
  rw [if_pos (by omega), List.drop_zero, Nat.sub_zero]
  congr 1
  omega
theorem cutL_fneg (xs : List α) (k : Nat) (hk : 1 ≤ k) : cutL xs (some (-(k : Int))) none = xs.drop (xs.length - k) := by
  unfold cutL
  show (xs.drop (if -(k : Int) < 0 then (-(k : Int) + (xs.length : Int)).toNat else min (-(k : Int)).toNat xs.length)).take (xs.length - (if -(k : Int) < 0 then (-(k : Int) + (xs.length : Int)).toNat else min (-(k : Int)).toNat xs.length)) = _
  rw [if_pos (by omega)]
  rw [show (-(k : Int) + (xs.length : Int)).toNat = xs.length - k by omega]
  exact List.take_of_length_le (by rw [List.length_drop]; exact Nat.le_refl _)
theorem cutL_midneg (xs : List α) (i k : Nat) (hk : 1 ≤ k) (hi : i ≤ xs.length) : cutL xs (some (i : Int)) (some (-(k : Int))) = (xs.drop i).take (xs.length - k - i) := by
  unfold cutL
  rw [HT.sIx_nat]
  show (xs.drop (min i xs.length)).take ((if -(k : Int) < 0 then (-(k : Int) + (xs.length : Int)).toNat else min (-(k : Int)).toNat xs.length) - min i xs.length) = _
  rw [if_pos (by omega), Nat.min_eq_left hi]
  rw [show (-(k : Int) + (xs.length : Int)).toNat = xs.length - k by omega]
theorem atI_neg {xs : List α} {k : Nat} {v : α} (hk : 1 ≤ k) (hl : k ≤ xs.length) (h : xs[xs.length - k]? = some v) : atI xs (-(k : Int)) = some v := by
  unfold atI ixN
  rw [if_neg (by omega), if_pos (by omega)]
  show xs[(-(k : Int) + (xs.length : Int)).toNat]? = some v
  rw [show (-(k : Int) + (xs.length : Int)).toNat = xs.length - k by omega]
  exact h
theorem atI_map {f : α → β} {xs : List α} {i : Int} {v : α} (h : atI xs i = some v) : atI (xs.map f) i = some (f v) := by
  unfold atI at h ⊢
  rw [List.length_map]
  cases z : ixN xs.length i with
  | none => rw [z] at h; cases h
  | some j =>
    rw [z] at h
    show (xs.map f)[j]? = some (f v)
    rw [List.getElem?_map, show xs[j]? = some v from h]
    rfl
end
section
variable {K : PySem.W.Frag} {P : D → Prop} {α : Type}
theorem sz_0 {R : Prop} (h : R) : ([] : List D).length ≤ sizeLine ∧ R := ⟨by decide, h⟩
theorem sz_1 {R : Prop} {a : D} (h : R) : [a].length ≤ sizeLine ∧ R := ⟨by show 1 ≤ sizeLine; decide, h⟩
theorem sz_2 {R : Prop} {a b : D} (h : R) : [a, b].length ≤ sizeLine ∧ R := ⟨by show 2 ≤ sizeLine; decide, h⟩
theorem sz_3 {R : Prop} {a b c : D} (h : R) : [a, b, c].length ≤ sizeLine ∧ R := ⟨by show 3 ≤ sizeLine; decide, h⟩
theorem sz_4 {R : Prop} {a b c d : D} (h : R) : [a, b, c, d].length ≤ sizeLine ∧ R := ⟨by show 4 ≤ sizeLine; decide, h⟩
theorem cut_to (xs : List α) (f : α → D) (k : Nat) : cutD (xs.map f) none (some (k : Int)) = (xs.take k).map f := by rw [cutD_map, cutL_to]
theorem cut_from (xs : List α) (f : α → D) (k : Nat) : cutD (xs.map f) (some (k : Int)) none = (xs.drop k).map f := by rw [cutD_map, cutL_from]
theorem oj_is_non (h : P (.bl true)) : OJ K rIsU .non .non P := oj_is (fun _ z => nomatch z) h
theorem oj_is_int {i : Int} (h : P (.bl false)) : OJ K rIsU (.int i) .non P := oj_is (fun _ z => nomatch z) h
theorem oj_is_str {i : Str} (h : P (.bl false)) : OJ K rIsU (.str i) .non P := oj_is (fun _ z => nomatch z) h
theorem oj_is_tup {l : List D} (h : P (.bl false)) : OJ K rIsU (.tup l) .non P := oj_is (fun _ z => nomatch z) h
theorem oj_isn_non (h : P (.bl false)) : OJ K rIsnU .non .non P := oj_isn (fun _ z => nomatch z) h
theorem oj_isn_int {i : Int} (h : P (.bl true)) : OJ K rIsnU (.int i) .non P := oj_isn (fun _ z => nomatch z) h
theorem oj_isn_tup {l : List D} (h : P (.bl true)) : OJ K rIsnU (.tup l) .non P := oj_isn (fun _ z => nomatch z) h
theorem fls_map {α : Type} (f : α → D) (g : α → V) : ∀ (xs : List α), (∀ x ∈ xs, fl (f x) = some (g x)) → fls (xs.map f) = some (xs.map g)
  | [], _ => rfl
  | x :: xs, h => by
    show (match fl (f x), fls (xs.map f) with | some a, some b => some (a :: b) | _, _ => none) = _
    rw [h x List.mem_cons_self, fls_map f g xs fun y hy => h y (List.mem_cons_of_mem _ hy)]
    rfl
end
/-- what is no key of a written dict -/
theorem dicW_miss {K : PySem.W.Frag} {P : Params} {a : Addr} {ks : List Str} {z : Str} (h : He.dicW K a = some (He.keysIn P ks)) (hz : z ∉ ks) : PySem.W.nsIn K a z = some none := by
  unfold He.dicW at h
  unfold PySem.W.nsIn
  split at h
  · rename_i c es n sl hl
    rw [hl]
    split at h
    · have h1 : es.toList.map He.keyOf = He.keysIn P ks := Option.some.inj h
      have ke : ∀ e ∈ es.toList, ∃ x t, e.key = .str x t ∧ x ∈ ks := fun e he => by
        have q : He.keyOf e ∈ He.keysIn P ks := by rw [← h1]; exact List.mem_map_of_mem he
        unfold He.keysIn at q
        obtain ⟨k, hk, e2⟩ := List.mem_map.mp q
        unfold He.keyOf at e2
        split at e2
        · rename_i x t q2
          have := Option.some.inj e2
          obtain ⟨rfl, _⟩ := Prod.mk.inj this
          exact ⟨_, _, q2, hk⟩
        · cases e2
      have f1 : es.toList.find? (·.key.isStr z) = none := List.find?_eq_none.mpr fun e he => by
        obtain ⟨x, t, q, hx⟩ := ke e he
        rw [q]
        intro q2
        have : x = z := by
          have q3 : (x == z) = true := q2
          exact eq_of_beq q3
        exact hz (this ▸ hx)
      have f2 : es.toList.any (·.refKey) = false := List.any_eq_false.mpr fun e he => by
        obtain ⟨x, t, q, hx⟩ := ke e he
        unfold DictEntry.refKey
        rw [q]
        simp
      dsimp only
      rw [f1]
      dsimp only
      rw [f2]
      rfl
    · cases h
  · cases h
end Dn
namespace Dn
open PySem PySem.Spec PyProof.Rows L2 Evl
section
variable {K : PySem.W.Frag} {B H B1 H1 : Hp} {σ σ' : L2.St} {ρ ρ' : List Sl} {te : TE}
theorem xs_asgT {P : Post} {n : Nat} {g : TGs} (h : EV K te ρ fun d ρ1 => GJ K (gTup K n g) (List.range 40) d ρ1 P.nx) : XS K (tAsg te (gTup K n g)) ρ P := xs_asgG h
/-- no slot has an object of one's own -/
def NoOwn (ρ : List Sl) : Prop := ∀ p, ¬ Own ρ p
theorem Stp.nil (h : Stp ρ B H ρ' B1 H1) (n : NoOwn ρ) : Stp [] B H [] B1 H1 :=
  ⟨h.ex, fun a o h1 h2 _ => h.fr a o h1 h2 (n a), fun p ⟨i, s, q, _⟩ => by simp at q, h.th⟩
theorem Stp.unnil (h : Stp [] B H [] B1 H1) (n' : NoOwn ρ') : Stp ρ B H ρ' B1 H1 :=
  ⟨h.ex, fun a o h1 h2 _ => h.fr a o h1 h2 fun ⟨i, s, q, _⟩ => by simp at q, fun p q => (n' p q).elim, h.th⟩
theorem Envs.later (e : Envs K B H σ ρ) (n : NoOwn ρ) (x : Ex B B1) (x1 : Ex B1 H1) : Envs K B1 H1 σ ρ :=
  ⟨x1, e.len, fun i s h => by
    have o := e.ok i s h
    cases s with
    | unk => trivial
    | dat d =>
      obtain ⟨w, q1, q2⟩ := o
      exact ⟨w, q1, q2.up x⟩
    | own p ds => exact (n p ⟨i, _, h, rfl⟩).elim
    | obj p C fs => exact (n p ⟨i, _, h, rfl⟩).elim, e.inj⟩
/-- the list that a comprehension fills -/
theorem Stp.fill {Dl : Addr} {u v : HO} (h : Stp [] B H [] B1 H1) (hd : H Dl = none) (h1 : H1 Dl = some u) : Stp [] B H [] B1 (upd H1 Dl v) :=
  ⟨h.ex, fun a o w1 w2 w3 => by
    obtain ⟨w4, w5⟩ := h.fr a o w1 w2 w3
    refine ⟨?_, w5⟩
    rw [upd_ne (fun z => by rw [z, hd] at w1; cases w1)]
    exact w4, h.sub, fun a w => by
      by_cases z : a = Dl
      · subst z; rw [upd_same] at w; cases w
      · rw [upd_ne z] at w; exact h.th a w⟩
/-- [e for x in source for y in x's], nothing changed on the way -/
theorem ef_map2 {wi wi1 : TI} {g g1 : TG} {gs gs1 vs vs1 : List Nat} {R : List D → List Sl → Prop} (hgs : ∀ k ∈ gs, k ∈ vs) (hgs1 : ∀ k ∈ gs1, k ∈ vs1) (h : EI K wi ρ fun items ρ1 => ∃ (α : Type) (xs : List α) (a : α → D) (bs : α → List D),
    items = xs.map a ∧ (xs.flatMap bs).length ≤ sizeLine ∧ NoOwn ρ1 ∧
    (∀ x ∈ xs, GJ K g gs (a x) (wipeS ρ1 vs) fun ρ2 => EI K wi1 ρ2 fun items1 ρ3 => ρ3 = ρ2 ∧ ∃ (β : Type) (ys : List β) (c d : β → D), items1 = ys.map c ∧ bs x = ys.map d ∧
      ∀ y ∈ ys, GJ K g1 gs1 (c y) (wipeS ρ2 vs1) fun ρ4 => EV K te ρ4 fun z ρ5 => z = d y) ∧ R (xs.flatMap bs) ρ1) : EF K (tLc2 wi g tYes wi1 g1 tYes te vs vs1) ρ R := fun B H σ Q e k =>
  h B H σ _ e fun J B1 H1 items ρ1 ⟨α, xs, a, bs, hi, hz, no1, hs, hr⟩ s1 b1 e1 it Dl hD => by
    have hDH : H Dl = none := s1.th Dl hD
    have nw : noOwn ρ1 vs := fun k _ s q => by
      cases w : s.ad with
      | none => rfl
      | some p => exact (no1 p ⟨k, s, q, w⟩).elim
    have now : NoOwn (wipeS ρ1 vs) := fun p z => no1 p ((noOwn_wipe nw).mp z)
    let Good : List D → Hp → Prop := fun acc H' => ∃ B' va, Stp [] B1 H1 [] B' H' ∧ Ex B' H' ∧ H' Dl = some (.lst va) ∧ B' Dl = none ∧ RepAll K B' va acc
    refine ⟨fun i m H' => m = items.length - i ∧ i ≤ items.length ∧ Good ((xs.take i).flatMap bs) H', ⟨items.length, by simp, Nat.zero_le _, B1, [], ?_, ?_, upd_same, fresh_back e1.ex hD, .nil⟩, ?_⟩
    · exact (Pur.out e1.ex hD).stp
    · exact (Pur.out e1.ex hD).sub
    rintro i m H' ⟨rfl, hi', B', va, st, xx, hl, nb, ra⟩
    have itx := it.up st.ex
    subst hi
    by_cases lt : i < (xs.map a).length
    · refine .inr ⟨itx.go i H' xx lt, Good ((xs.take (i + 1)).flatMap bs), fun H2 q => ⟨(xs.map a).length - (i + 1), by omega, rfl, lt, q⟩, fun x H2 y => ?_⟩
      obtain ⟨B2, d, hd', pu, rd⟩ := itx.yld i H' x H2 xx lt y B' (Ex.refl _) xx
      rw [List.getElem?_map] at hd'
      cases hx : xs[i]? with
      | none => rw [hx] at hd'; cases hd'
      | some x0 =>
        rw [hx] at hd'
        obtain rfl : a x0 = d := Option.some.inj hd'
        have hm : x0 ∈ xs := List.mem_of_getElem? hx
        have st2 : Stp [] B1 H1 [] B2 H2 := st.trans xx pu.stp
        have e2 : Envs K B2 H2 (wipe σ vs) (wipeS ρ1 vs) := (e1.later no1 st2.ex pu.sub).wipe
        have hl2 : H2 Dl = some (.lst va) := pu.kp _ _ hl
        have nb2 : B2 Dl = none := pu.nw _ ⟨_, hl⟩ nb
        refine hs x0 hm B2 H2 (wipe σ vs) x _ e2 rd fun σ3 B3 H3 ρ3 h3 s3 b3 e3 l3 f3 => ⟨wipe_same l3 f3 hgs, ?_⟩
        unfold tYes
        refine iteT ?_
        have no3 : NoOwn ρ3 := fun p z => now p (b3 p z)
        refine h3 B3 H3 σ3 _ e3 fun J1 B4 H4 items1 ρ4 ⟨hρ, β, ys, c, dd, hi1, hb, hs1⟩ s4 b4 e4 it1 => ?_
        subst hρ
        subst hi1
        have st4 : Stp [] B1 H1 [] B4 H4 := (st2.trans pu.sub (s3.nil now)).trans e3.ex (s4.nil no3)
        have st24 : Stp [] B2 H2 [] B4 H4 := (s3.nil now).trans e3.ex (s4.nil no3)
        obtain ⟨hl4, nb4⟩ := st24.fr Dl _ hl2 nb2 fun ⟨_, _, q, _⟩ => by simp at q
        refine ⟨fun j k H' => k = (ys.map c).length - j ∧ j ≤ (ys.map c).length ∧ ∃ B' va, Stp [] B1 H1 [] B' H' ∧ Ex B4 B' ∧ Ex B' H' ∧ H' Dl = some (.lst va) ∧ B' Dl = none ∧ RepAll K B' va ((xs.take i).flatMap bs ++ (ys.take j).map dd), ⟨_, rfl, Nat.zero_le _, B4, va, st4, Ex.refl _, e4.ex, hl4, nb4, ?_⟩, ?_⟩
        · rw [List.take_zero, List.map_nil, List.append_nil]
          exact ra.up (pu.ex.trans st24.ex)
        rintro j m H5 ⟨rfl, hj, B5, va5, st5, x45, x5, hl5, nb5, ra5⟩
        have itx1 := it1.up x45
        have hsum : ((xs.take (i + 1)).flatMap bs) = (xs.take i).flatMap bs ++ ys.map dd := by
          rw [List.take_add_one, hx, List.flatMap_append, ← hb]
          simp
        by_cases lt1 : j < (ys.map c).length
        · refine .inr ⟨itx1.go j H5 x5 lt1, fun H' => ∃ B' va, Stp [] B1 H1 [] B' H' ∧ Ex B4 B' ∧ Ex B' H' ∧ H' Dl = some (.lst va) ∧ B' Dl = none ∧ RepAll K B' va ((xs.take i).flatMap bs ++ (ys.take (j + 1)).map dd), fun H' q => ⟨_, by omega, rfl, lt1, q⟩, fun x1 H6 y1 => ?_⟩
          obtain ⟨B6, d1, hd1, pu1, rd1⟩ := itx1.yld j H5 x1 H6 x5 lt1 y1 B5 (Ex.refl _) x5
          rw [List.getElem?_map] at hd1
          cases hy : ys[j]? with
          | none => rw [hy] at hd1; cases hd1
          | some y0 =>
            rw [hy] at hd1
            obtain rfl : c y0 = d1 := Option.some.inj hd1
            have hm1 : y0 ∈ ys := List.mem_of_getElem? hy
            have st6 : Stp [] B1 H1 [] B6 H6 := st5.trans x5 pu1.stp
            have nw3 : noOwn ρ4 vs1 := fun k _ s q => by
              cases w : s.ad with
              | none => rfl
              | some p => exact (no3 p ⟨k, s, q, w⟩).elim
            have now3 : NoOwn (wipeS ρ4 vs1) := fun p z => no3 p ((noOwn_wipe nw3).mp z)
            have e6 : Envs K B6 H6 (wipe σ3 vs1) (wipeS ρ4 vs1) := (e4.later no3 (x45.trans pu1.ex) pu1.sub).wipe
            refine hs1 y0 hm1 B6 H6 (wipe σ3 vs1) x1 _ e6 rd1 fun σ7 B7 H7 ρ7 h7 s7 b7 e7 l7 f7 => ⟨wipe_same l7 f7 hgs1, ?_⟩
            show ite _ _ _
            refine iteT ?_
            have no7 : NoOwn ρ7 := fun p z => now3 p (b7 p z)
            refine h7 B7 H7 σ7 _ e7 fun v B8 H8 z ρ8 hzd s8 b8 e8 r8 => ?_
            subst hzd
            have st68 : Stp [] B6 H6 [] B8 H8 := (s7.nil now3).trans e7.ex (s8.nil no7)
            have st8 : Stp [] B1 H1 [] B8 H8 := st6.trans pu1.sub st68
            obtain ⟨hl8, nb8⟩ := st68.fr Dl _ (pu1.kp _ _ hl5) (pu1.nw _ ⟨_, hl5⟩ nb5) fun ⟨_, _, q, _⟩ => by simp at q
            have ra8 := ra5.up (pu1.ex.trans st68.ex)
            have hlt : j < ys.length := (List.getElem?_eq_some_iff.mp hy).1
            have bound : va5.length < sizeLine := by
              rw [ra8.length]
              have : ((xs.take (i + 1)).flatMap bs).length ≤ (xs.flatMap bs).length := by
                conv => rhs; rw [← List.take_append_drop (i + 1) xs]
                rw [List.flatMap_append, List.length_append]
                omega
              rw [hsum] at this
              simp only [List.length_append, List.length_map, List.length_take] at this ⊢
              omega
            refine ⟨va5, hl8, bound, B8, va5 ++ [v], st8.fill hD hl8, (x45.trans pu1.ex).trans st68.ex, fun a o w => ?_, upd_same, nb8, ?_⟩
            · rw [upd_ne (ne_of_none w nb8)]
              exact e8.ex a o w
            · rw [List.take_add_one, hy, List.map_append, ← List.append_assoc]
              exact ra8.append (RepAll.one r8)
        · obtain rfl : j = (ys.map c).length := by omega
          refine .inl ⟨itx1.stop _ H5 x5 (Nat.le_refl _), B5, va5, st5, x5, hl5, nb5, ?_⟩
          rw [hsum]
          rw [List.length_map, List.take_length] at ra5
          exact ra5
    · have hix : i = xs.length := by rw [List.length_map] at lt hi'; omega
      subst hix
      refine .inl ⟨itx.stop _ H' xx (by rw [List.length_map]; exact Nat.le_refl _), ?_⟩
      rw [List.take_length] at ra
      refine k Dl va B' H' _ ρ1 hr (s1.trans e1.ex (st.unnil no1)) b1 (e1.later no1 st.ex xx) hDH nb (no1 Dl) hl ra
end
end Dn
namespace Dn
open PySem PySem.Spec PyProof.Rows L2 Evl
section
variable {K : PySem.W.Frag} {ρ ρ1 : List Sl} {te : TE} {ta : TA}
def setHd (ρ : List Sl) (i : Nat) : List Sl → List Sl
  | [] => ρ
  | r :: _ => ρ.set i r
theorem setHd_cons {i : Nat} {r : Sl} {rs : List Sl} : setHd ρ i (r :: rs) = ρ.set i r := rfl
theorem upds_hd {i : Nat} (es : List D) (ρ : List Sl) : ∀ rs, upds ρ (.slot i :: es.map .dat) rs = setHd ρ i rs
  | [] => rfl
  | r :: rs => by
    show upds (ρ.set i r) (es.map .dat) rs = ρ.set i r
    rw [upds_dat]
/-- a call: a thing of one's own first, then data -/
theorem ev_callO {i : Nat} {p : Addr} {ds0 : List D} {P : D → List Sl → Prop} {W : List Sl → (D → List Sl → Prop) → Prop} {E : XK} (hi : ρ[i]? = some (.own p ds0))
    (h : EA K ta ρ fun as ρ1 => ∃ (es : List D) (ds : List D), as = es.map .dat ∧ ρ1[i]? = some (.own p ds) ∧ W (.own p ds :: es.map .dat) fun d rs => P d (setHd ρ1 i rs)) : EV K (tCall (spW K W) [] E (tCons (tVar i) ta)) ρ P :=
  ev_call (ea_slot hi rfl fun B H σ Q e k => h B H σ Q e fun vs B' H' as ρ' ⟨es, ds, ha, hi', hw⟩ => k vs B' H' as ρ' <| by
    subst ha
    refine ⟨⟨_, _, hi', rfl⟩, ?_, ?_⟩
    · show (i :: slots (es.map .dat)).Nodup
      rw [slots_dat]
      simp
    · rw [show (Ar.slot i :: es.map Ar.dat).map (slOf ρ') = .own p ds :: es.map Sl.dat by
        rw [List.map_cons, List.map_map]
        show ρ'[i]?.getD .unk :: _ = _
        rw [hi']
        rfl]
      rw [show (fun d ρ0' => P d (upds ρ' (Ar.slot i :: es.map Ar.dat) ρ0')) = fun d rs => P d (setHd ρ' i rs) from funext fun d => funext fun r => by rw [upds_hd]]
      exact hw)
theorem xs_seqI {P : Post} {t u : TS} (R : List Sl → Prop) (h : XS K t ρ { P with nx := R }) (g : ∀ ρ', R ρ' → XS K u ρ' P) : XS K (tSeq t u) ρ P := xs_seq (h.mono g (fun _ _ z => z) (fun _ z => z) (fun _ z => z))
theorem xs_cut {P : Post} {t : TS} (R : List Sl → Prop) (h : XS K t ρ { P with nx := R }) (g : ∀ ρ', R ρ' → P.nx ρ') : XS K t ρ P := h.mono g (fun _ _ z => z) (fun _ z => z) (fun _ z => z)
section
variable {R : Bool → List Sl → Prop}
theorem et_truB (h : EV K te ρ fun d ρ1 => ∃ b, d = .bl b ∧ R b ρ1) : ET K (tTru K te) ρ R := et_tru (h.mono fun d ρ1 ⟨b, e, r⟩ => .inr (.inr (.inl ⟨b, e, r⟩)))
theorem et_truI (h : EV K te ρ fun d ρ1 => ∃ i, d = .int i ∧ R (!decide (i = 0)) ρ1) : ET K (tTru K te) ρ R := et_tru (h.mono fun d ρ1 ⟨b, e, r⟩ => .inr (.inl ⟨b, e, r⟩))
theorem et_truL (h : EV K te ρ fun d ρ1 => ∃ ds, sqd d = some ds ∧ R (!decide (ds = [])) ρ1) : ET K (tTru K te) ρ R := et_tru (h.mono fun d ρ1 ⟨b, e, r⟩ => .inl ⟨b, e, by
  cases b with
  | nil => exact r
  | cons x y => simpa using r⟩)
theorem et_truS (h : EV K te ρ fun d ρ1 => ∃ s, d = .str s ∧ s.length ≤ sizeLine ∧ R (!decide (s.length = 0)) ρ1) : ET K (tTru K te) ρ R := et_tru (h.mono fun d ρ1 ⟨s, e, hz, r⟩ => .inr (.inr (.inr (.inr ⟨s, e, hz, by
  rw [show ((s.length : Int) != 0) = !decide (s.length = 0) from ?_]
  · exact r
  · show (!decide ((s.length : Int) = 0)) = _
    congr 1
    exact decide_eq_decide.mpr (by omega)⟩))))
end
theorem dsO_0 {i : Nat} {p : Addr} {ds : List D} {R : List D → List D → Prop} (hi : ρ1[i]? = some (.own p ds)) (h : R [] ds) : ∃ (es : List D) (ds : List D), ([] : List Ar) = es.map .dat ∧ ρ1[i]? = some (.own p ds) ∧ R es ds := ⟨[], ds, rfl, hi, h⟩
theorem dsO_1 {i : Nat} {p : Addr} {ds : List D} {a : D} {R : List D → List D → Prop} (hi : ρ1[i]? = some (.own p ds)) (h : R [a] ds) : ∃ (es : List D) (ds : List D), ([.dat a] : List Ar) = es.map .dat ∧ ρ1[i]? = some (.own p ds) ∧ R es ds := ⟨[a], ds, rfl, hi, h⟩
theorem dsO_2 {i : Nat} {p : Addr} {ds : List D} {a b : D} {R : List D → List D → Prop} (hi : ρ1[i]? = some (.own p ds)) (h : R [a, b] ds) : ∃ (es : List D) (ds : List D), ([.dat a, .dat b] : List Ar) = es.map .dat ∧ ρ1[i]? = some (.own p ds) ∧ R es ds := ⟨[a, b], ds, rfl, hi, h⟩
theorem ixO_ex {i : Nat} {p : Addr} {k : Int} {ds : List D} {d : D} {R : D → Prop} (h1 : ρ1[i]? = some (.own p ds)) (h2 : atI ds k = some d) (h : R d) : ∃ ds k' d, D.int k = .int k' ∧ ρ1[i]? = some (.own p ds) ∧ atI ds k' = some d ∧ R d := ⟨ds, k, d, rfl, h1, h2, h⟩
theorem put_ex1 {i : Nat} {p : Addr} {ds : List D} {R : Prop} (h1 : ρ1[i]? = some (.own p ds)) (h : R) : ∃ ds1, ρ1[i]? = some (.own p ds1) ∧ R := ⟨ds, h1, h⟩
theorem put_ex2 {i : Nat} {p : Addr} {k : Int} {j : Nat} {ds : List D} {R : List D → Nat → Prop} (h1 : ρ1[i]? = some (.own p ds)) (h2 : ixN ds.length k = some j) (h : R ds j) : ∃ ds k' j, D.int k = .int k' ∧ ρ1[i]? = some (.own p ds) ∧ ixN ds.length k' = some j ∧ R ds j := ⟨ds, k, j, rfl, h1, h2, h⟩
theorem xs_put' {P : Post} {i : Nat} {p : Addr} {ti : TE} {ds0 : List D} (h0 : ρ[i]? = some (.own p ds0)) (h : EV K te ρ fun d ρ1 => ∃ ds1, ρ1[i]? = some (.own p ds1) ∧ EV K ti ρ1 fun x ρ2 => ∃ ds k j, x = .int k ∧ ρ2[i]? = some (.own p ds) ∧ ixN ds.length k = some j ∧ P.nx (ρ2.set i (.own p (ds.set j d)))) :
    XS K (tAsg te (gSub (tVar i) ti rSetL)) ρ P := xs_put h
end
end Dn
/-! Dn, on: instances with fields of data; errors of an own class that let one number out. -/
namespace Dn
open PySem PySem.Spec PyProof.Rows L2 Evl
section
variable {K : PySem.W.Frag} {B H B1 H1 B' H' : Hp} {σ σ' : L2.St} {ρ ρ1 ρ' : List Sl} {te : TE} {ta : TA}
theorem repF_lookup {f : Str} {d : D} : ∀ {vs : List (Str × V)} {fs : List (Str × D)}, RepF K B vs fs → fs.lookup f = some d → ∃ v, vs.lookup f = some v ∧ Rep K B v d
  | _, _, .nil, h => by cases h
  | _, _, .cons (a := p) (b := q) r t, h => by
    obtain ⟨g, v⟩ := p
    obtain ⟨g', e⟩ := q
    obtain ⟨r1, r2⟩ := r
    dsimp only at r1 r2
    subst r1
    rw [List.lookup_cons] at h ⊢
    cases z : f == g with
    | true =>
      rw [z] at h
      obtain rfl := Option.some.inj h
      exact ⟨v, rfl, r2⟩
    | false =>
      rw [z] at h
      exact repF_lookup t h
theorem repF_none {f : Str} : ∀ {vs : List (Str × V)} {fs : List (Str × D)}, RepF K B vs fs → fs.lookup f = none → vs.lookup f = none
  | _, _, .nil, h => rfl
  | _, _, .cons (a := p) (b := q) r t, h => by
    obtain ⟨g, v⟩ := p
    obtain ⟨g', e⟩ := q
    obtain ⟨r1, r2⟩ := r
    dsimp only at r1 r2
    subst r1
    rw [List.lookup_cons] at h ⊢
    cases z : f == g with
    | true => rw [z] at h; cases h
    | false =>
      rw [z] at h
      exact repF_none t h
def putD (f : Str) (d : D) : List (Str × D) → List (Str × D)
  | [] => [(f, d)]
  | (g, x) :: r => if g = f then (g, d) :: r else (g, x) :: putD f d r
theorem repF_put {f : Str} {v : V} {d : D} (rv : Rep K B v d) : ∀ {vs : List (Str × V)} {fs : List (Str × D)}, RepF K B vs fs → RepF K B (putF f v vs) (putD f d fs)
  | _, _, .nil => .cons ⟨rfl, rv⟩ .nil
  | _, _, .cons (a := p) (b := q) r t => by
    obtain ⟨g, v'⟩ := p
    obtain ⟨g', e⟩ := q
    obtain ⟨r1, r2⟩ := r
    dsimp only at r1 r2
    subst r1
    unfold putF putD
    by_cases z : g = f
    · rw [if_pos z, if_pos z]
      exact .cons ⟨rfl, rv⟩ t
    · rw [if_neg z, if_neg z]
      exact .cons ⟨rfl, r2⟩ (repF_put rv t)
theorem repF_len : ∀ {vs : List (Str × V)} {fs : List (Str × D)}, RepF K B vs fs → vs.length = fs.length
  | _, _, .nil => rfl
  | _, _, .cons r t => congrArg Nat.succ (repF_len t)
/-- self.f -/
theorem ev_fld {i : Nat} {p C : Addr} {fs : List (Str × D)} {f : Str} {d : D} {P : D → List Sl → Prop} (hi : ρ[i]? = some (.obj p C fs)) (c : Cls K C) (n : NoAttr K C f) (hl : fs.lookup f = some d) (h : P d ρ) : EV K (tFld K (tVar i) f) ρ P := fun B H σ Q e k => by
  obtain ⟨q, nb, dx, vs, h1, r⟩ := e.ok i _ hi
  obtain ⟨v, l, rv⟩ := repF_lookup r hl
  exact ⟨.ref p, e.at q, p, C, dx, vs, v, rfl, h1, c, n, l, k v B H d ρ h .refl (fun _ z => z) e rv⟩
/-- an instance of one's own changed -/
theorem Envs.writeO {i : Nat} {p C dx : Addr} {fs fs' : List (Str × D)} {vs' : List (Str × V)} (e : Envs K B H σ ρ) (hi : ρ[i]? = some (.obj p C fs)) (r : RepF K B vs' fs') :
    Envs K B (upd H p (.ins C dx vs')) σ (ρ.set i (.obj p C fs')) ∧ Stp ρ B H (ρ.set i (.obj p C fs')) B (upd H p (.ins C dx vs')) ∧ ∀ q, Own (ρ.set i (.obj p C fs')) q → Own ρ q := by
  obtain ⟨q, n, dx0, vs0, h1, _⟩ := e.ok i _ hi
  have ow : Own ρ p := ⟨i, _, hi, rfl⟩
  have sb : ∀ z, Own (ρ.set i (.obj p C fs')) z → Own ρ z := fun z h => by
    rcases own_set h with ⟨z, _⟩ | ⟨j, t, _, h1, h2⟩
    · obtain rfl := Option.some.inj z
      exact ow
    · exact ⟨j, t, h1, h2⟩
  refine ⟨⟨fun a o h => ?_, by rw [List.length_set]; exact e.len, fun j t h => ?_, fun j k t s z h2 h3 h4 h5 => ?_⟩, ⟨Ex.refl B, fun a o h2 h3 h4 => ⟨?_, h3⟩, fun z h => .inl (sb z h), fun a h => ?_⟩, sb⟩
  · rw [upd_ne (ne_of_none h n)]
    exact e.ex a o h
  · rw [List.getElem?_set] at h
    split at h
    · rename_i ij
      subst ij
      split at h
      · cases h
        exact ⟨q, n, dx, vs', upd_same, r⟩
      · cases h
    · rename_i ij
      have o := e.ok j t h
      cases t with
      | unk => trivial
      | dat d => exact o
      | own p' d' =>
        obtain ⟨h2, h3, us, h4, h5⟩ := o
        refine ⟨h2, h3, us, ?_, h5⟩
        rw [upd_ne (fun z => ij (e.inj i j _ _ p hi h rfl (by rw [← z]; rfl)))]
        exact h4
      | obj p' C fs =>
        obtain ⟨h2, h3, dx, us, h4, h5⟩ := o
        refine ⟨h2, h3, dx, us, ?_, h5⟩
        rw [upd_ne (fun z => ij (e.inj i j _ _ p hi h rfl (by rw [← z]; rfl)))]
        exact h4
  · exact inj_set e.inj (fun q j t h1 h2 h3 => by
      obtain rfl := Option.some.inj h1
      exact e.inj j i _ _ _ h2 hi h3 rfl) j k t s z h2 h3 h4 h5
  · rw [upd_ne (fun z => h4 (by rw [z]; exact ow))]
    exact h2
  · by_cases z : a = p
    · subst z; rw [upd_same] at h; cases h
    · rw [upd_ne z] at h; exact h
/-- self.f = e -/
theorem xs_fld {P : Post} {i : Nat} {p C : Addr} {fs0 : List (Str × D)} {f : Str} (hi0 : ρ[i]? = some (.obj p C fs0)) (c : Cls K C) (n : NoAttr K C f)
    (h : EV K te ρ fun d ρ1 => ∃ fs, ρ1[i]? = some (.obj p C fs) ∧ fs.length < 1000 ∧ P.nx (ρ1.set i (.obj p C (putD f d fs)))) : XS K (sFld K (tVar i) te f) ρ P := fun B H σ E e k1 _ _ _ =>
  h B H σ _ e fun v B1 H1 d ρ1 ⟨fs, hi, hz, hp⟩ s1 b1 e1 r1 => by
    obtain ⟨q, nb, dx, vs, h1, r⟩ := e1.ok i _ hi
    obtain ⟨e2, s2, _⟩ := e1.writeO (dx := dx) hi (repF_put r1 r)
    exact ⟨.ref p, e1.at q, p, C, dx, vs, rfl, h1, c, n, by rw [repF_len r]; exact hz, k1 σ B1 _ _ hp (s1.trans e1.ex s2) e2⟩
/-- self.f += e, ints -/
theorem xs_fldaug {P : Post} {i : Nat} {p C : Addr} {fs : List (Str × D)} {f : Str} {a b : Int} (hi : ρ[i]? = some (.obj p C fs)) (c : Cls K C) (n : NoAttr K C f) (hl : fs.lookup f = some (.int a)) (hz : fs.length < 1000)
    (h : P.nx (ρ.set i (.obj p C (putD f (.int (a + b)) fs)))) : XS K (sFldAug K (tVar i) (tC (.int b)) L2.rAdd f) ρ P := fun B H σ E e k1 _ _ _ => by
  obtain ⟨q, nb, dx, vs, h1, r⟩ := e.ok i _ hi
  obtain ⟨v, l, rv⟩ := repF_lookup r hl
  cases rv
  obtain ⟨e2, s2, _⟩ := e.writeO (dx := dx) hi (repF_put (f := f) (.int (a + b)) r)
  exact ⟨.ref p, e.at q, p, C, dx, vs, _, rfl, h1, c, n, l, a, b, rfl, rfl, dx, vs, h1, by rw [repF_len r]; exact hz, k1 σ B _ _ h s2 e2⟩

/-! ### errors of the class at C; what is let out: the row -/
/-- from here an error with a row of X may be let out -/
def ExOk (C : Addr) (E : XK) (X : Int → Prop) (B H : Hp) (ρ : List Sl) : Prop := ∀ (r : Int) (d : Addr) (B' H' : Hp), X r → Stp ρ B H [] B' H' → Ex B' H' → H' d = some (.xd [("row", .int r)]) → E (.ref C) (some d) H'
theorem ExOk.step {C : Addr} {E : XK} {X : Int → Prop} (g : ExOk C E X B H ρ) (s : Stp ρ B H ρ' B' H') (x : Ex B' H') : ExOk C E X B' H' ρ' := fun r d B2 H2 hx s2 x2 hd => g r d B2 H2 hx (s.trans x s2) x2 hd
theorem ExOk.imp {C : Addr} {E : XK} {X Y : Int → Prop} (g : ExOk C E X B H ρ) (h : ∀ r, Y r → X r) : ExOk C E Y B H ρ := fun r d B' H' hy => g r d B' H' (h r hy)
end
section
variable (K : PySem.W.Frag) (C : Addr) (E : XK) (X : Int → Prop)
def EVG (t : TE) (ρ : List Sl) (P : D → List Sl → Prop) : Prop := ∀ (B H : Hp) (σ : L2.St) (Q : VK), Envs K B H σ ρ → ExOk C E X B H ρ →
  (∀ v B' H' d ρ', P d ρ' → Stp ρ B H ρ' B' H' → (∀ p, Own ρ' p → Own ρ p) → Envs K B' H' σ ρ' → Rep K B' v d → Q v H') → t σ H Q
def EAG (t : TA) (ρ : List Sl) (P : List D → List Sl → Prop) : Prop := ∀ (B H : Hp) (σ : L2.St) (Q : List V → Hp → Prop), Envs K B H σ ρ → ExOk C E X B H ρ →
  (∀ vs B' H' ds ρ', P ds ρ' → Stp ρ B H ρ' B' H' → (∀ p, Own ρ' p → Own ρ p) → Envs K B' H' σ ρ' → RepAll K B' vs ds → Q vs H') → t σ H Q
def XSG (t : TS) (ρ : List Sl) (P : Post) : Prop := ∀ (B H : Hp) (σ : L2.St) (D' : Ends), Envs K B H σ ρ → ExOk C E X B H ρ →
  (∀ σ' B' H' ρ', P.nx ρ' → Stp ρ B H ρ' B' H' → Envs K B' H' σ' ρ' → D'.nx σ' H') →
  (∀ v σ' B' H' d ρ', P.rt d ρ' → Stp ρ B H ρ' B' H' → Envs K B' H' σ' ρ' → Rep K B' v d → D'.rt v H') →
  (∀ σ' B' H' ρ', P.bk ρ' → Stp ρ B H ρ' B' H' → Envs K B' H' σ' ρ' → D'.bk σ' H') →
  (∀ σ' B' H' ρ', P.ct ρ' → Stp ρ B H ρ' B' H' → Envs K B' H' σ' ρ' → D'.ct σ' H') → t D' σ H
/-- a promise: W's third part, the rows of the errors that may be let out -/
def spX (W : List Sl → (D → List Sl → Prop) → (Int → Prop) → Prop) : Sp := fun vs H Q E => ∃ B ρ P X, Envs K B H (vs.map some) ρ ∧ W ρ P X ∧
  (∀ v B' H' d ρ', P d ρ' → Stp ρ B H ρ' B' H' → (∀ p, Own ρ' p → Own ρ p) → Envs K B' H' (vs.map some) ρ' → Rep K B' v d → Q v H') ∧ ExOk C E X B H ρ
end
section
variable {K : PySem.W.Frag} {C : Addr} {E : XK} {X : Int → Prop} {ρ : List Sl} {te : TE} {ta : TA} {tt : TT} {t u : TS} {P : Post}
theorem EV.g {R : D → List Sl → Prop} (h : EV K te ρ R) : EVG K C E X te ρ R := fun B H σ Q e _ k => h B H σ Q e k
theorem XS.g (h : XS K t ρ P) : XSG K C E X t ρ P := fun B H σ D' e _ k1 k2 k3 k4 => h B H σ D' e k1 k2 k3 k4
theorem eag_nil {R : List D → List Sl → Prop} (h : R [] ρ) : EAG K C E X tNil ρ R := fun B H σ Q e _ k => k [] B H [] ρ h .refl (fun _ z => z) e .nil
theorem eag_cons {R : List D → List Sl → Prop} (h : EVG K C E X te ρ fun d ρ1 => EAG K C E X ta ρ1 fun ds ρ2 => R (d :: ds) ρ2) : EAG K C E X (tCons te ta) ρ R := fun B H σ Q e g k =>
  h B H σ _ e g fun v B1 H1 d ρ1 h1 s1 b1 e1 r1 => h1 B1 H1 σ _ e1 (g.step s1 e1.ex) fun vs B2 H2 ds ρ2 h2 s2 b2 e2 r2 => k (v :: vs) B2 H2 (d :: ds) ρ2 h2 (s1.trans e1.ex s2) (fun z h => b1 z (b2 z h)) e2 (.cons (r1.up s2.ex) r2)
theorem evg_tup {R : D → List Sl → Prop} (h : EAG K C E X ta ρ fun ds ρ1 => ds.length ≤ sizeLine ∧ R (.tup ds) ρ1) : EVG K C E X (tTup ta) ρ R := fun B H σ Q e g k =>
  h B H σ _ e g fun vs B1 H1 ds ρ1 ⟨hz, h1⟩ s1 b1 e1 r1 => ⟨by rw [r1.length]; exact hz, fun p hp => by
    have pu := Pur.new (o := .tup vs) e1.ex hp
    exact k (.ref p) _ _ (.tup ds) ρ1 h1 (s1.trans e1.ex pu.stp) b1 (e1.pur pu) (.tup (SqT.of upd_same) (r1.up pu.ex))⟩
theorem xsg_seq (h : XSG K C E X t ρ { P with nx := fun ρ' => XSG K C E X u ρ' P }) : XSG K C E X (tSeq t u) ρ P := fun B H σ D' e g k1 k2 k3 k4 =>
  h B H σ { D' with nx := u D' } e g (fun σ' B' H' ρ' p s e' => p B' H' σ' D' e' (g.step s e'.ex) (fun σ2 B2 H2 ρ2 p2 s2 => k1 σ2 B2 H2 ρ2 p2 (s.trans e'.ex s2)) (fun v σ2 B2 H2 d ρ2 p2 s2 => k2 v σ2 B2 H2 d ρ2 p2 (s.trans e'.ex s2))
    (fun σ2 B2 H2 ρ2 p2 s2 => k3 σ2 B2 H2 ρ2 p2 (s.trans e'.ex s2)) (fun σ2 B2 H2 ρ2 p2 s2 => k4 σ2 B2 H2 ρ2 p2 (s.trans e'.ex s2))) k2 k3 k4
theorem xsg_cut (R : List Sl → Prop) (h : XSG K C E X t ρ { P with nx := R }) (m : ∀ ρ', R ρ' → P.nx ρ') : XSG K C E X t ρ P := fun B H σ D' e g k1 k2 k3 k4 => h B H σ D' e g (fun σ' B' H' ρ' p => k1 σ' B' H' ρ' (m _ p)) k2 k3 k4
theorem xsg_ret (h : EVG K C E X te ρ P.rt) : XSG K C E X (tRet te) ρ P := fun B H σ D' e g _ k2 _ _ => h B H σ D'.rt e g fun v B' H' d ρ' p s _ e' r => k2 v σ B' H' d ρ' p s e' r
theorem xsg_if (h : ET K tt ρ fun b ρ' => (b = true → XSG K C E X t ρ' P) ∧ (b = false → XSG K C E X u ρ' P)) : XSG K C E X (tIfS tt t u) ρ P := fun B H σ D' e g k1 k2 k3 k4 =>
  h B H σ _ e fun b B1 H1 ρ1 hr s1 b1 e1 => by
    have go : ∀ {w : TS}, XSG K C E X w ρ1 P → w D' σ H1 := fun hw => hw B1 H1 σ D' e1 (g.step s1 e1.ex) (fun σ2 B2 H2 ρ2 p2 s2 => k1 σ2 B2 H2 ρ2 p2 (s1.trans e1.ex s2)) (fun v σ2 B2 H2 d ρ2 p2 s2 => k2 v σ2 B2 H2 d ρ2 p2 (s1.trans e1.ex s2))
      (fun σ2 B2 H2 ρ2 p2 s2 => k3 σ2 B2 H2 ρ2 p2 (s1.trans e1.ex s2)) (fun σ2 B2 H2 ρ2 p2 s2 => k4 σ2 B2 H2 ρ2 p2 (s1.trans e1.ex s2))
    cases b with
    | true => exact iteT (go (hr.1 rfl))
    | false => exact iteF (go (hr.2 rfl))
theorem xsg_next (h : P.nx ρ) : XSG K C E X tNext ρ P := (xs_next h).g
theorem xsg_asgG {g : TG} {gs : List Nat} (h : EVG K C E X te ρ fun d ρ1 => GJ K g gs d ρ1 P.nx) : XSG K C E X (tAsg te g) ρ P := fun B H σ D' e gd k1 _ _ _ =>
  h B H σ _ e gd fun v B1 H1 d ρ1 h1 s1 b1 e1 r1 => h1 B1 H1 σ v _ e1 r1 fun σ' B2 H2 ρ2 p2 s2 b2 e2 _ _ => k1 σ' B2 H2 ρ2 p2 (s1.trans e1.ex s2) e2
theorem xsg_set {i : Nat} (h : EVG K C E X te ρ fun d ρ' => P.nx (ρ'.set i (.dat d))) : XSG K C E X (tAsg te (gName i)) ρ P := fun B H σ D' e g k1 _ _ _ =>
  h B H σ _ e g fun v B' H' d ρ' p s _ e' r => k1 _ B' H' _ p s.setD (e'.setD r)
theorem xsg_app {i : Nat} {p : Addr} {ds0 : List D} (hi : ρ[i]? = some (.own p ds0)) (h : EVG K C E X te ρ fun d ρ' => ∃ ds, ρ'[i]? = some (.own p ds) ∧ ds.length < sizeLine ∧ P.nx (ρ'.set i (.own p (ds ++ [d])))) :
    XSG K C E X (tDrop (tBM K "list" rAppend (tVar i) (tCons te tNil))) ρ P := fun B H σ D' e g k1 _ _ _ => by
  obtain ⟨q, n, vs, h1, r0⟩ := e.ok i _ hi
  refine ⟨.ref p, e.at q, .inl ⟨rfl, vs, SqL.of h1⟩, h B H σ _ e g fun v B' H' d ρ' ⟨ds, hi', hz, hp⟩ s sb e' r => ?_⟩
  obtain ⟨q', n', us, h1', r'⟩ := e'.ok i _ hi'
  obtain ⟨e2, s2, _⟩ := e'.write (vs' := us ++ [v]) hi' (r'.append (RepAll.one r))
  exact ⟨p, us, v, rfl, rfl, h1', by rw [r'.length]; exact hz, k1 σ B' _ _ hp (s.trans e'.ex s2) e2⟩
theorem xsg_while (Iv : Nat → List Sl → Prop) (m0 : Nat) (h0 : Iv m0 ρ) (hs : ∀ m ρ', Iv m ρ' → ET K tt ρ' fun b ρ2 => (b = true → XSG K C E X t ρ2 { P with nx := fun ρ3 => ∃ m', m' < m ∧ Iv m' ρ3, ct := fun ρ3 => ∃ m', m' < m ∧ Iv m' ρ3, bk := P.nx }) ∧ (b = false → P.nx ρ2)) :
    XSG K C E X (tWhile tt t) ρ P := fun B H σ D' e g k1 k2 k3 k4 => by
  refine ⟨fun m σ' H' => ∃ B' ρ', Iv m ρ' ∧ Stp ρ B H ρ' B' H' ∧ Envs K B' H' σ' ρ', ⟨m0, B, ρ, h0, .refl, e⟩, ?_⟩
  rintro m σ' H' ⟨B', ρ', hv, s', e'⟩
  refine hs m ρ' hv B' H' σ' _ e' fun b B2 H2 ρ2 h2 s2 b2 e2 => ?_
  have st2 := s'.trans e'.ex s2
  cases b with
  | true =>
    refine iteT ⟨fun σ3 H3 => ∃ B3 ρ3, (∃ m', m' < m ∧ Iv m' ρ3) ∧ Stp ρ B H ρ3 B3 H3 ∧ Envs K B3 H3 σ3 ρ3, fun σ3 H3 ⟨B3, ρ3, ⟨m', q0, q1⟩, q2, q3⟩ => ⟨m', q0, B3, ρ3, q1, q2, q3⟩, ?_⟩
    exact h2.1 rfl B2 H2 σ' _ e2 (g.step st2 e2.ex) (fun σ4 B4 H4 ρ4 p4 s4 e4 => ⟨B4, ρ4, p4, st2.trans e2.ex s4, e4⟩) (fun v σ4 B4 H4 d ρ4 p4 s4 e4 r4 => k2 v σ4 B4 H4 d ρ4 p4 (st2.trans e2.ex s4) e4 r4)
        (fun σ4 B4 H4 ρ4 p4 s4 e4 => k1 σ4 B4 H4 ρ4 p4 (st2.trans e2.ex s4) e4) (fun σ4 B4 H4 ρ4 p4 s4 e4 => ⟨B4, ρ4, p4, st2.trans e2.ex s4, e4⟩)
  | false => exact iteF (k1 σ' B2 H2 ρ2 (h2.2 rfl) st2 e2)
theorem xsg_for {wi : TI} {g : TG} {gs : List Nat} (h : EI K wi ρ fun items ρ1 => ∃ Inv : Nat → List Sl → Prop, Inv 0 ρ1 ∧
    (∀ i d ρ', items[i]? = some d → Inv i ρ' → GJ K g gs d ρ' fun ρ2 => XSG K C E X t ρ2 { P with nx := Inv (i + 1), ct := Inv (i + 1), bk := P.nx }) ∧ (∀ ρ', Inv items.length ρ' → P.nx ρ')) : XSG K C E X (tFor wi g t) ρ P := fun B H σ D' e gd k1 k2 k3 k4 =>
  h B H σ _ e fun J B1 H1 items ρ1 ⟨Iv, h0, hs, hd⟩ s1 b1 e1 it => by
    refine ⟨fun i m σ' H' => m = items.length - i ∧ i ≤ items.length ∧ ∃ B' ρ', Iv i ρ' ∧ Stp ρ B H ρ' B' H' ∧ Ex B1 B' ∧ Envs K B' H' σ' ρ', ⟨items.length, by simp, Nat.zero_le _, B1, ρ1, h0, s1, Ex.refl _, e1⟩, ?_⟩
    rintro i m σ' H' ⟨rfl, hi, B', ρ', hv, s', x', e'⟩
    have itx := it.up x'
    by_cases lt : i < items.length
    · refine .inr ⟨itx.go i H' e'.ex lt, fun σ2 H2 => ∃ B2 ρ2, Iv (i + 1) ρ2 ∧ Stp ρ B H ρ2 B2 H2 ∧ Ex B1 B2 ∧ Envs K B2 H2 σ2 ρ2, fun σ2 H2 ⟨B2, ρ2, q1, q2, q3, q4⟩ => ⟨items.length - (i + 1), by omega, rfl, lt, B2, ρ2, q1, q2, q3, q4⟩, fun x H2 y => ?_⟩
      obtain ⟨B2, d, hd', pu, rd⟩ := itx.yld i H' x H2 e'.ex lt y B' (Ex.refl _) e'.ex
      have e2 := e'.pur pu
      have s2 := s'.trans e'.ex (pu.stp (ρ := ρ'))
      refine hs i d ρ' hd' hv B2 H2 σ' x _ e2 rd fun σ3 B3 H3 ρ3 h3 s3 b3 e3 _ _ => ?_
      have st3 := s2.trans e2.ex s3
      have x3 : Ex B1 B3 := (x'.trans pu.ex).trans s3.ex
      exact h3 B3 H3 σ3 _ e3 (gd.step st3 e3.ex) (fun σ4 B4 H4 ρ4 p4 s4 e4 => ⟨B4, ρ4, p4, st3.trans e3.ex s4, x3.trans s4.ex, e4⟩) (fun v σ4 B4 H4 d ρ4 p4 s4 e4 r4 => k2 v σ4 B4 H4 d ρ4 p4 (st3.trans e3.ex s4) e4 r4)
        (fun σ4 B4 H4 ρ4 p4 s4 e4 => k1 σ4 B4 H4 ρ4 p4 (st3.trans e3.ex s4) e4) (fun σ4 B4 H4 ρ4 p4 s4 e4 => ⟨B4, ρ4, p4, st3.trans e3.ex s4, x3.trans s4.ex, e4⟩)
    · obtain rfl : i = items.length := by omega
      exact .inl ⟨itx.stop _ H' e'.ex (Nat.le_refl _), k1 σ' B' H' ρ' (hd ρ' hv) s' e'⟩
end
end Dn
namespace Dn
open PySem PySem.Spec PyProof.Rows L2 Evl
section
variable {K : PySem.W.Frag} {B H B1 H1 B' H' : Hp} {σ σ' : L2.St} {ρ ρ1 ρ' : List Sl} {te : TE} {ta : TA} {C : Addr} {E : XK} {X : Int → Prop}
theorem ExOk.args {as : List Ar} (g : ExOk C E X B H ρ) : ExOk C E X B H (as.map (slOf ρ)) := fun r d B' H' hx s x hd => g r d B' H' hx ⟨s.ex, fun a o h1 h2 h3 => s.fr a o h1 h2 fun z => h3 (by
  obtain ⟨j, i, t, _, q1, q2⟩ := own_args z
  exact ⟨i, t, q1, q2⟩), fun p ⟨i, t, q, _⟩ => by simp at q, s.th⟩ x hd
/-- a call that may let an error out: data alone -/
theorem evg_call {P : D → List Sl → Prop} {W : List Sl → (D → List Sl → Prop) → (Int → Prop) → Prop} (h : EA K ta ρ fun as ρ1 => ∃ ds : List D, as = ds.map .dat ∧ W (ds.map .dat) (fun d _ => P d ρ1) X) : EVG K C E X (tCall (spX K C W) [] E ta) ρ P := fun B H σ Q e g k =>
  h B H σ _ e fun vs B1 H1 as ρ1 ⟨ds, ha, hw⟩ s1 b1 e1 r1 => by
    subst ha
    rw [List.append_nil]
    have em : (ds.map Ar.dat).map (slOf ρ1) = ds.map Sl.dat := by rw [List.map_map]; rfl
    refine ⟨B1, (ds.map Ar.dat).map (slOf ρ1), _, X, e1.args r1 (by rw [slots_dat]; exact List.nodup_nil), by rw [em]; exact hw, fun v B' H' d ρ' hp s' sb' e' r' => ?_, (g.step s1 e1.ex).args⟩
    obtain ⟨e2, s2, b2⟩ := e1.back r1 e' s' sb'
    rw [upds_dat] at e2 s2 b2
    exact k v B' H' d _ hp (s1.trans e1.ex s2) (fun z h => b1 z (b2 z h)) e2 r'
/-- o.m(..), o an instance of one's own, then data -/
theorem evg_meth {i : Nat} {p CR : Addr} {fs0 : List (Str × D)} {m : Str} {P : D → List Sl → Prop} {W : List Sl → (D → List Sl → Prop) → (Int → Prop) → Prop} (hi : ρ[i]? = some (.obj p CR fs0)) (hm : fs0.lookup m = none)
    (h : EA K ta ρ fun as ρ1 => ∃ (es : List D) (fs : List (Str × D)), as = es.map .dat ∧ ρ1[i]? = some (.obj p CR fs) ∧ W (.obj p CR fs :: es.map .dat) (fun d rs => P d (setHd ρ1 i rs)) X) : EVG K C E X (tMeth CR m (spX K C W) [] E (tVar i) ta) ρ P := fun B H σ Q e g k => by
  obtain ⟨q, nb, dx, vs0, h1, r0⟩ := e.ok i _ hi
  refine ⟨.ref p, e.at q, p, dx, vs0, rfl, h1, repF_none r0 hm, h B H σ _ e fun vs B1 H1 as ρ1 ⟨es, fs, ha, hi1, hw⟩ s1 b1 e1 r1 => ?_⟩
  subst ha
  rw [List.append_nil]
  have em : (Ar.slot i :: es.map Ar.dat).map (slOf ρ1) = .obj p CR fs :: es.map Sl.dat := by
    rw [List.map_cons, List.map_map]
    show ρ1[i]?.getD .unk :: _ = _
    rw [hi1]
    rfl
  obtain ⟨q1, nb1, dx1, vs1, h2, r2⟩ := e1.ok i _ hi1
  have rr : Paired (ArOk K B1 σ ρ1) (V.ref p :: vs) (.slot i :: es.map .dat) := .cons ⟨q1, _, p, hi1, rfl⟩ r1
  have nd : (slots (.slot i :: es.map .dat)).Nodup := by
    show (i :: slots (es.map .dat)).Nodup
    rw [slots_dat]
    simp
  refine ⟨B1, (Ar.slot i :: es.map Ar.dat).map (slOf ρ1), _, X, e1.args rr nd, by rw [em]; exact hw, fun v B' H' d ρ' hp s' sb' e' r' => ?_, (g.step s1 e1.ex).args⟩
  obtain ⟨e2, s2, b2⟩ := e1.back rr e' s' sb'
  rw [upds_hd] at e2 s2 b2
  exact k v B' H' d _ hp (s1.trans e1.ex s2) (fun z h => b1 z (b2 z h)) e2 r'
/-- all of one's own stands -/
theorem Envs.frame (e : Envs K B H σ ρ) (x : Ex B B') (x' : Ex B' H') (fr : ∀ a o, H a = some o → B a = none → Own ρ a → H' a = some o ∧ B' a = none) : Envs K B' H' σ ρ :=
  ⟨x', e.len, fun i s h => by
    have o := e.ok i s h
    cases s with
    | unk => trivial
    | dat d =>
      obtain ⟨w, q1, q2⟩ := o
      exact ⟨w, q1, q2.up x⟩
    | own p ds =>
      obtain ⟨q1, q2, us, q3, q4⟩ := o
      obtain ⟨z1, z2⟩ := fr p _ q3 q2 ⟨i, _, h, rfl⟩
      exact ⟨q1, z2, us, z1, q4.up x⟩
    | obj p C fs =>
      obtain ⟨q1, q2, dx, us, q3, q4⟩ := o
      obtain ⟨z1, z2⟩ := fr p _ q3 q2 ⟨i, _, h, rfl⟩
      exact ⟨q1, z2, dx, us, z1, q4.up x⟩, e.inj⟩
/-- x = C(..): a new instance of one's own -/
theorem xs_make {P : Post} {i : Nat} {CR : Addr} {E : XK} {W : List Sl → (D → List Sl → Prop) → Prop} (h : EA K ta ρ fun as ρ1 => ∃ es : List D, as = es.map .dat ∧ ∀ x, W (.obj x CR [] :: es.map .dat) fun d rs => d = .non ∧ ∃ fs rr, rs = .obj x CR fs :: rr ∧ P.nx (ρ1.set i (.obj x CR fs))) :
    XS K (tAsg (tMake CR (spW K W) [] E ta) (gName i)) ρ P := fun B H σ D' e k1 _ _ _ =>
  h B H σ _ e fun vs B1 H1 as ρ1 ⟨es, ha, hw⟩ s1 b1 e1 r1 => fun x dx hx hd hne => by
    subst ha
    rw [List.append_nil]
    have rv := ars_rep r1
    have nbx : B1 x = none := fresh_back e1.ex hx
    have xH : Ex H1 (upd (upd H1 dx (.own x)) x (.ins CR dx [])) := (Ex.new hd).trans (Ex.new (by rw [upd_ne (Ne.symm hne)]; exact hx))
    have xB : Ex B1 (upd (upd H1 dx (.own x)) x (.ins CR dx [])) := e1.ex.trans xH
    have e0 : Envs K B1 (upd (upd H1 dx (.own x)) x (.ins CR dx [])) ((V.ref x :: vs).map some) (.obj x CR [] :: es.map .dat) := by
      refine ⟨xB, by simp [rv.length], fun j s hs => ?_, fun j l s t p h1 h2 h3 h4 => ?_⟩
      · cases j with
        | zero =>
          simp at hs
          subst hs
          exact ⟨rfl, nbx, dx, [], upd_same, .nil⟩
        | succ j =>
          rw [List.getElem?_cons_succ, List.getElem?_map] at hs
          cases hj : es[j]? with
          | none => rw [hj] at hs; cases hs
          | some d =>
            rw [hj] at hs
            obtain rfl := Option.some.inj hs
            obtain ⟨v, q1, q2⟩ := rv.get hj
            refine ⟨v, ?_, q2⟩
            rw [List.map_cons, List.getElem?_cons_succ, List.getElem?_map, q1]
            rfl
      · have z : ∀ (j : Nat) (s : Sl), (Sl.obj x CR [] :: es.map .dat)[j]? = some s → s.ad = some p → j = 0 := fun j s hs hp => by
          cases j with
          | zero => rfl
          | succ j =>
            rw [List.getElem?_cons_succ, List.getElem?_map] at hs
            cases hj : es[j]? with
            | none => rw [hj] at hs; cases hs
            | some d =>
              rw [hj] at hs
              obtain rfl := Option.some.inj hs
              cases hp
        rw [z j s h1 h3, z l t h2 h4]
    have oc : ∀ p, Own (Sl.obj x CR [] :: es.map .dat) p → p = x := fun p ⟨j, s, h1, h2⟩ => by
      cases j with
      | zero =>
        simp at h1
        subst h1
        exact (Option.some.inj h2).symm
      | succ j =>
        rw [List.getElem?_cons_succ, List.getElem?_map] at h1
        cases hj : es[j]? with
        | none => rw [hj] at h1; cases h1
        | some d =>
          rw [hj] at h1
          obtain rfl := Option.some.inj h1
          cases h2
    refine ⟨B1, _, _, e0, hw x, fun v B' H' d ρ' ⟨hdn, fs, rr, hρ, hp⟩ s' sb' e' r' => ?_⟩
    subst hdn
    cases r'
    subst hρ
    refine ⟨rfl, ?_⟩
    have fr : ∀ a o, H1 a = some o → B1 a = none → H' a = some o ∧ B' a = none := fun a o h1 h2 => s'.fr a o (xH a o h1) h2 fun z => by
      rw [oc a z, hx] at h1; cases h1
    have e2 : Envs K B' H' σ ρ1 := e1.frame s'.ex e'.ex fun a o h1 h2 _ => fr a o h1 h2
    obtain ⟨q1, q2, dx', us, q3, q4⟩ := e'.ok 0 _ rfl
    have nx : ¬ Own ρ1 x := fun z => by
      obtain ⟨_, o, q⟩ := e1.ownOf z
      rw [hx] at q; cases q
    refine k1 _ B' H' _ hp (s1.trans e1.ex ⟨s'.ex, fun a o h1 h2 _ => fr a o h1 h2, fun q z => ?_, fun a z => ?_⟩) (e2.setS ⟨rfl, q2, dx', us, q3, q4⟩ fun q j t h1 h2 h3 => ?_)
    · rcases own_set z with ⟨z, _⟩ | ⟨j, t, _, h1, h2⟩
      · obtain rfl : x = q := Option.some.inj z
        exact .inr hx
      · exact .inl ⟨j, t, h1, h2⟩
    · exact fresh_back xH (s'.th a z)
    · obtain rfl : x = q := Option.some.inj h1
      exact (nx ⟨j, t, h2, h3⟩).elim
/-- raise C(e) -/
def spIni (C : Addr) : Sp := fun vs H Q _ => ∃ (a : Addr) (r : Int), vs = [.ref a, .int r] ∧ H a = some (exo a C none) ∧ ∀ dx, H dx = none → dx ≠ a → Q .non (upd (upd H dx (exd dx [("row", .int r)])) a (exo a C (some dx)))
def tRaiseR (C : Addr) (E : XK) (te : TE) : TS := fun _ σ H => tMkO C (spIni C) [] (tCons te tNil) σ H fun cls d H' => E cls d H'
theorem xsg_raise {P : Post} (h : EV K te ρ fun d ρ1 => ∃ r, d = .int r ∧ X r) : XSG K C E X (tRaiseR C E te) ρ P := fun B H σ D' e g _ _ _ _ => by
  refine h B H σ _ e fun v B1 H1 d ρ1 ⟨r, hd, hx⟩ s1 b1 e1 r1 => ?_
  subst hd
  cases r1
  show (fun vs H1 => _) [V.int r] H1
  refine ⟨by show 1 ≤ 1000; decide, fun a ha => ⟨a, r, rfl, upd_same, fun dx hdx hne => ⟨rfl, dx, [("row", .int r)], upd_same, ?_, ?_, ?_⟩⟩⟩
  · rw [upd_ne hne, upd_same]
  · rw [upd_ne hne] at hdx; exact hdx
  · rw [upd_ne hne] at hdx
    have at_ : ∀ b, b ≠ dx → b ≠ a → (upd (del (upd (upd (upd H1 a (exo a C none)) dx (exd dx [("row", .int r)])) a (exo a C (some dx))) a) dx (.xd [("row", .int r)])) b = H1 b := fun b z1 z2 => by
      rw [upd_ne z1, del_ne z2, upd_ne z2, upd_ne z1, upd_ne z2]
    have at2 : ∀ b o, H1 b = some o → (upd (del (upd (upd (upd H1 a (exo a C none)) dx (exd dx [("row", .int r)])) a (exo a C (some dx))) a) dx (.xd [("row", .int r)])) b = some o := fun b o q => by
      rw [at_ b (fun z => by rw [z, hdx] at q; cases q) (fun z => by rw [z, ha] at q; cases q)]
      exact q
    refine g r dx B1 _ hx (s1.trans e1.ex ⟨Ex.refl _, fun b o q1 q2 _ => ⟨at2 b o q1, q2⟩, fun p ⟨i, t, q, _⟩ => by simp at q, fun b q => ?_⟩) (fun b o q => at2 b o (e1.ex b o q)) upd_same
    by_cases z2 : b = a
    · rw [z2]; exact ha
    · by_cases z1 : b = dx
      · rw [z1]; exact hdx
      · rw [at_ b z1 z2] at q; exact q
/-- a body -/
theorem body_okX {t : TS} {N : List Str} {W : List Sl → (D → List Sl → Prop) → (Int → Prop) → Prop} (hx : ∀ ρ0 P X, W ρ0 P X → XSG K C E X t (ρ0 ++ List.replicate (N.length - ρ0.length) .unk) (bodyPost ρ0 P)) (vs : List V) (H : Hp) (Q : VK) (h : spX K C W vs H Q E) :
    t { nx := fun _ H' => Q .non H', rt := Q } (L2.start N vs) H := by
  obtain ⟨B, ρ0, P, X, e, w, k, g⟩ := h
  have go : ∀ (v : V) (σ' : L2.St) (B' H' : Hp) (d : D) (ρ' : List Sl), kept ρ0 ρ' ∧ P d (fin ρ0 ρ') → Stp (ρ0 ++ List.replicate (N.length - ρ0.length) .unk) B H ρ' B' H' → Envs K B' H' σ' ρ' → Rep K B' v d → Q v H' := fun v σ' B' H' d ρ' hp s e' r =>
    k v B' H' d _ hp.2 ⟨s.ex, fun a o h1 h2 h3 => s.fr a o h1 h2 fun z => h3 (own_start.mp z), fun p h => .inl (own_fin hp.1 h), s.th⟩ (fun p h => own_fin hp.1 h) (e.fin e' hp.1) r
  exact hx ρ0 P X w B H _ _ (start_env e) (fun r d B' H' hx s x hd => g r d B' H' hx ⟨s.ex, fun a o h1 h2 h3 => s.fr a o h1 h2 fun z => h3 (own_start.mp z), fun p ⟨i, t, q, _⟩ => by simp at q, s.th⟩ x hd)
    (fun σ' B' H' ρ' hp s e' => go .non σ' B' H' .non ρ' hp s e' .non) (fun v σ' B' H' d ρ' hp s e' r => go v σ' B' H' d ρ' hp s e' r) (fun _ _ _ _ z => z.elim) (fun _ _ _ _ z => z.elim)
end
section
variable {P : Program} {w : World} {K : PySem.W.Frag} {mg : Str → Option Value} {base : Heap} {x qual : Str} {params : Arguments} {body : List Stmt} {scope : Scope} {f : Addr} {fd : FuncData} {N ps : List Str} {C : Addr}
/-- a def that may let an error out keeps its promise -/
theorem fnX {k : Nat} {W : List Sl → (D → List Sl → Prop) → (Int → Prop) → Prop} {t : XK → TS} (F : FunD K x qual params body scope [] [] f fd) (S : FnScope N ps scope) (len : ∀ ρ0 Q X, W ρ0 Q X → ρ0.length = ps.length)
    (hd : ∀ (cdv : Value) (A : Around) (outer : List Env) (s : Shared) (H : Hp) (E : XK), Room k (A.deeper (envOfC qual scope s.heap.objs.size f cdv)) → PSs (cxOf (L2.CX P w) P w K mg base N qual scope f cdv A outer s H E) body (t E))
    (hx : ∀ E ρ0 Q X, W ρ0 Q X → XSG K C E X (t E) (ρ0 ++ List.replicate (N.length - ρ0.length) .unk) (bodyPost ρ0 Q)) : FnOk P w K mg base (L2.CX P w) (k + 1) f fd ps (spX K C W) := by
  refine F.ok S (fun vs H Q E h => ?_) (fun cdv A outer s H vs Q E hr h => ⟨t E, hd cdv A outer s H E hr, body_okX (hx E) vs H Q h⟩)
  obtain ⟨B, ρ0, R, X, e, hw, _⟩ := h
  rw [← len ρ0 R X hw, e.len, List.length_map]
end
end Dn
/-! Dn: isinstance of a caught error that has a dict of its own (after the layer's rule for one without). -/
namespace Dn
open PySem PySem.Spec PySem.Calls PyProof.Rows L2 Evl
section
variable {prog : Program} {w : World} {Ar : Around} {E : Value → Shared → Prop} {s : Shared} {K : PySem.W.Frag} {x D : Addr} {oe : Obj} {dd : Obj}
open PySem.W in
theorem bindD {C : Addr} {nm : Str} {u g : Value} (e1 : (clsIn K C).isSome = true) (e2 : findIn K (.ref C) nm = some (some u)) (e3 : specialIn K u "__get__" = some (some g)) (e4 : takesIn K u = some true) : findObj K C (some dd) nm = some (.bind g u) := by
  obtain ⟨cd, e1⟩ := Option.isSome_iff_exists.mp e1
  unfold findObj
  rw [e1, Option.bind_some, e2, Option.bind_some]
  simp [e3, e4]
open PySem.W in
theorem clsD {Q : Option Value → Shared → Prop} (T : ExcC K D) (kin : K.In s.heap) (J : InstAt s.heap x oe D (some dd)) (q : Q (some (.ref D)) { s with toks := s.toks + 1 }) : wpAny (model prog w) Ar (getAttr? (.ref x) "__class__") Q E s := by
  have ff : findObj K D (some dd) "__class__" = some (.bind (.builtin "getset_descriptor.__get__") (.builtin "object.__class__")) := bindD (by obtain ⟨cd, hc, _⟩ := any_some T.hd; rw [hc]; rfl) T.ha T.hn T.ht
  obtain ⟨hh, gg, dr, tk, oo⟩ := s
  have l0 := J.type (M := model prog w)
  have l1 := looks_findIn (M := model prog w) kin T.hg
  have l2 := looks_findIn (M := model prog w) kin T.hk
  have l3 := looks_find (M := model prog w) kin J ff
  have isB : Looks (model prog w) hh (isInstance (.ref x) (.type "BaseException")) true := l0.andThen (looks_subIn kin T.hs)
  have n0 : (false && onTheHeap (Value.builtin "BaseException.__getattribute__")) = false := rfl
  have n2 : (Value.builtin "BaseException.__getattribute__" == Value.builtin "object.__getattribute__") = false := by decide +kernel
  have n1 : (onTheHeap (Value.ref D) && Value.builtin "BaseException.__getattribute__" == Value.builtin "object.__getattribute__") = false := by rw [n2]; rfl
  unfold getAttr? getAttrBy? getAttrBy
  refine wpAny_bind (wpAny_mkText (wpAny_bind (wpAny_attempt (wpAny_holding (wpAny_bind (l0.at (wpAny_bind (l1.at ?_))))))))
  show wpAny _ _ (if (onTheHeap (Value.ref D) && Value.builtin "BaseException.__getattribute__" == Value.builtin "object.__getattribute__") = true then _ else _)  _ _ _
  rw [n1, if_neg Bool.false_ne_true]
  unfold getAttrByItsOwn hookBefore
  refine wpAny_bind ?_
  rw [if_pos (show onTheHeap (.ref D) = true from rfl)]
  refine l2.at ?_
  refine wpAny_bind (wpAny_attempt (wpAny_holding  ?_))
  unfold callGetattribute
  rw [n0, if_neg Bool.false_ne_true]
  unfold boundAndCalled
  rw [PySem.F.excAttr_ValueError.ga.bind (Value.ref x)]
  refine wpAny_bind (wpAny_pure ?_)
  show wpAny _ _ (call (.builtin "BaseException.__getattribute__") [.ref x, .str "__class__" tk]) _ _ _
  refine wpAny_call (codeAny_call_builtin PySem.F.excAttr_ValueError.ga.plain PySem.F.entry_bexc_ga  ?_)
  refine @check_slot (model prog w) _ _ ⟨hh, gg, dr, tk + 1, oo⟩ "BaseException.__getattribute__" "BaseException" "__getattribute__" (.ref x) [.str "__class__" tk] [] _ (by decide +kernel) (by decide +kernel) isB (PySem.F.args_bexc_ga (.ref x) (.str "__class__" tk)) ?_
  unfold Builtin.«object.__getattribute__»
  refine wpAny_bind (wpAny_of_eq (a := ((Value.ref x : Value), [Value.str "__class__" tk])) (by first | rfl | (simp only [slotArgs]; rfl)) ?_)
  refine wpAny_bind (wpAny_pure (wpAny_bind (l0.at (wpAny_bind (l3.at ?_)))))
  show wpAny _ _ (holding [Value.builtin "object.__class__"] (call (.builtin "getset_descriptor.__get__") [.builtin "object.__class__", .ref x, .ref D]) >>= ret)  _ _ _
  refine wpAny_bind (wpAny_holding (wpAny_call (class_get (s := ⟨hh, gg, dr, tk + 1, oo⟩) (ox := oe) (od := some dd) kin J T.hm ?_)))
  refine wpAny_pure ?_
  show wpAny _ _ (handedOut (.ref D)) _ _ _
  rw [handedOut_of (v := .ref D) rfl]
  first
    | exact wpAny_pure (wpAny_pure q)
    | exact wpAny_pure q
    | exact wpAny_pure (wpAny_bind (wpAny_pure (wpAny_pure q)))
open PySem.W in
theorem kitD (T : ExcC K D) : KitX K (.ref x) (.ref D) (fun h => InstAt h x oe D (some dd)) where
  ty := fun _ _ _ J => J.type
  it := fun _ _ kin _ => by
    obtain ⟨cdD, hcD, _⟩ := any_some T.hd
    unfold clsIn at hcD
    split at hcD
    · rename_i c' d' cd' sl' ho
      intro A' Q' E' s' k q
      unfold isType loadHead
      exact wpAny_bind (wpAny_loadPart (k _ _ (kin _ _ ho)) (wpAny_pure q))
    · cases hcD
  ne := fun h tp du its n sl kin htp => by
    obtain ⟨cdD, hcD, _⟩ := any_some T.hd
    refine Bool.eq_false_iff.mpr fun q => ?_
    have e : D = tp := Value.ref.inj (beq_iff_eq.mp q)
    subst e
    unfold clsIn at hcD
    split at hcD
    · rename_i c' d' cd' sl' ho
      have z := (kin _ _ ho).symm.trans htp
      cases z
    · cases hcD
  ca := fun kin J k => clsD T kin J k
end
/-- isinstance(e, c), e the error that the suite holds, at a; its dict at dd -/
def rIsD (K : PySem.W.Frag) (D a dd : Addr) : List V → Hp → VK → Prop := fun xs H Q => ∃ (c : V) (cv : Value) (b : Bool) (fs : List (Str × V)), xs = [.ref a, c] ∧ (∀ u, RelV c u → u = cv) ∧ PySem.W.kitOne K (.ref D) cv = some b ∧ H dd = some (.xd fs) ∧ Q (.bl b) H
theorem call_isD {X : Cx} {a D dd : Addr} {oe : Obj} {pn : List (Addr × Obj)} (T : ExcC X.K D) (hz : Zc (.ref D) (some dd) oe) (hf : ∃ vs, oe.data = .fields vs) : CallR (X.suite a ((a, oe) :: pn)) (.builtin "isinstance") (rIsD X.K D a dd) := by
  intro pins s σ H xs us Q I r h
  obtain ⟨c, cv, b, fs, rfl, hcv, e, ed, q⟩ := h
  cases r with
  | cons rx rr =>
    cases rr with
    | cons rt rr =>
      cases rr
      cases rx
      have ec := hcv _ rt
      subst ec
      obtain ⟨hget, _⟩ := I.pin (a, oe) (List.mem_append.mpr (.inl List.mem_cons_self))
      obtain ⟨vs, hv⟩ := hf
      obtain ⟨mA, hns, hr⟩ := (I.hok dd _ ed : ObjOk _ _ H s.heap dd (.xd fs))
      obtain ⟨od, ho, hl⟩ := lookIn_ns hns
      have J : PySem.W.InstAt s.heap a oe D (some od) := ⟨hget, hz.1, by unfold PySem.W.notCls; rw [hv] <;> rfl, by rw [hz.2]; exact ho⟩
      exact PySem.W.kia_one (kitD T) I.kIn J e (fun z => nomatch z) fun tk => ⟨.bl b, H, I.kept (t' := tk) fun _ _ z => z, rfl, q⟩
end Dn
/-! Dn: e.replace of written texts, with a count of one; a statement behind which a token is out; the length of an own list. -/
namespace Dn
open PySem PySem.Spec PyProof.Rows L2 Evl
open PySem.Builtin.Str in
/-- x.replace(y, z, 1) -/
def repl1 (x y z : Str) : Str := if ((occurrences x y 0 x.length 1).isEmpty || (y.length == 0 && z.length == 0)) = true then x else glued z (partsBetween x (occurrences x y 0 x.length 1) y.length)
open PySem.Builtin PySem.Builtin.Str in
theorem gives1 (x y z : Str) (t u v k : Tok) (h0 : (u == 0 || v == 0) = false) (huv : (u == v) = false) (hyz : (y == z) = false) (hl : tooLong (x.length + (occurrences x y 0 x.length 1).length * z.length) = false) :
    Gives («str.replace» ⟨[.str x t, .str y u, .str z v, .int 1 k], []⟩)
      (if ((occurrences x y 0 x.length 1).isEmpty || (y.length == 0 && z.length == 0)) = true then .val (.str x t) else .str (glued z (partsBetween x (occurrences x y 0 x.length 1) y.length))) := by
  show Gives (if ((occurrences x y 0 x.length 1).isEmpty || (y.length == 0 && z.length == 0)) = true then (do rule "str.replace.nothing"; ret (.str x t)) else
          (do let same ← isSame (.str y u) (.str z v)
              if same = true then (do rule "str.replace.old-is-new"; ret (.str x t)) else
              if tooLong (x.length + (occurrences x y 0 x.length 1).length * z.length) = true then unsupported "str.replace:memory" else
              retStr (glued z (partsBetween x (occurrences x y 0 x.length 1) y.length)))) _
  cases hc : ((occurrences x y 0 x.length 1).isEmpty || (y.length == 0 && z.length == 0))
  · rw [isSame_str_other y z u v h0 huv hyz, hl]
    exact .of_eq rfl
  · exact .rule (.of_eq rfl)
open PySem.Builtin PySem.Builtin.Str in
theorem repl1_len (x y z : Str) : (repl1 x y z).length ≤ x.length + z.length := by
  unfold repl1
  split
  · omega
  · have h1 := StrLaws.occ_length_le x y 0 x.length 1
    have hy : (glued y (partsBetween x (occurrences x y 0 x.length 1) y.length)).length = x.length := by rw [StrLaws.glued_between_self]
    rw [size_glued, length_partsBetween, Nat.add_sub_cancel] at hy
    rw [size_glued, length_partsBetween, Nat.add_sub_cancel]
    have h2 : (occurrences x y 0 x.length 1).length * z.length ≤ 1 * z.length := Nat.mul_le_mul_right _ h1
    omega
open PySem.Builtin PySem.Builtin.Str in
theorem call_repl1 {prog : Program} {w : World} {A : Around} {E : Value → Shared → Prop} {s : Shared} {x y z : Str} {t u v k : Tok} {Q : Value → Shared → Prop} (hu : u ≠ 0) (hv : v ≠ 0) (huv : u ≠ v) (hyz : (y == z) = false) (hb : x.length + z.length ≤ 16777216)
    (hq : ∀ t' k, Q (.str (repl1 x y z) t') { s with toks := k }) : wpAny (model prog w) A (call (.builtin "str.replace") [.str x t, .str y u, .str z v, .int 1 k]) Q E s := by
  have h1 := StrLaws.occ_length_le x y 0 x.length 1
  have h2 : (occurrences x y 0 x.length 1).length * z.length ≤ 1 * z.length := Nat.mul_le_mul_right _ h1
  have hl : tooLong (x.length + (occurrences x y 0 x.length 1).length * z.length) = false := by
    unfold tooLong
    rw [sizeLine_eq]
    exact decide_eq_false (by omega)
  have hlen := repl1_len x y z
  refine call_gives F.slot_str_replace (typeIs_str _ _ _) F.entry_str_replace (F.args_str_replace_4 _ _ _ _) (gives1 x y z t u v k (by simp [hu, hv]) (by simp [huv]) hyz hl) ?_
  unfold repl1 at hq hlen
  cases hc : ((occurrences x y 0 x.length 1).isEmpty || (y.length == 0 && z.length == 0))
  · rw [hc] at hq hlen
    simp only [Bool.false_eq_true, if_false] at hq hlen ⊢
    exact ⟨by rw [sizeLine_eq]; omega, hq _ _⟩
  · rw [hc] at hq
    simp only [if_true] at hq ⊢
    exact hq t s.toks
theorem Call3 {prog : Program} {w : World} {A : Around} {E : Value → Shared → Prop} {s : Shared} {env : Env} {o e1 e2 e3 : Expr} {name : Str} {apos pos : Pos} {Q : Value → Shared → Prop}
    (hb : attributeBase o name env (eval o env) = eval o env) (hs : starEach [e1, e2, e3] env = [(false, eval e1 env), (false, eval e2 env), (false, eval e3 env)]) (hl : (apos.endLine == pos.line) = true)
    (h : wpAny (model prog w) A (eval o env) (fun ov s1 => MethodOnS prog w A E name ov pos [(false, eval e1 env), (false, eval e2 env), (false, eval e3 env)] Q s1) E s) :
    wpAny (model prog w) A (eval (.Call (.Attribute o name apos) [e1, e2, e3] [] pos) env) Q E s := by
  refine wpAny_Call_method_lateS hb (by rw [hs]; rfl) hl ?_
  rw [hs]
  exact h
def tRepl1 (to : TE) (y z : Str) : TE := fun σ H Q => to σ H fun v H1 => ∃ x, v = .str x ∧ x.length + z.length ≤ 16777216 ∧ Q (.str (repl1 x y z)) H1
section
variable {X : Cx} {o e f : Expr} {te tf to : TE} {y z : Str} {j k l : Nat} {c0 c1 c2 apos pos p p' : Pos}
theorem pet_repl1 (ho : PE X o to) (hyz : (y == z) = false := by decide)
    (hst : starEach [.Constant (.str y) j c0, .Constant (.str z) k c1, .Constant (.int 1) l c2] X.env = [(false, eval (.Constant (.str y) j c0) X.env), (false, eval (.Constant (.str z) k c1) X.env), (false, eval (.Constant (.int 1) l c2) X.env)] := by rfl)
    (hbase : attributeBase o "replace" X.env (eval o X.env) = eval o X.env := by rfl) (hline : (apos.endLine == pos.line) = true := by rfl) :
    PET X (.Call (.Attribute o "replace" apos) [.Constant (.str y) j c0, .Constant (.str z) k c1, .Constant (.int 1) l c2] [] pos) (tRepl1 to y z) := by
  intro pins s σ H Q h0 I h
  refine Call3 hbase hst hline (wpAny_mono (PySem.wpAny_toks (ho.run pins s σ H _ I h)) (fun v s1 q => ?_) fun _ _ z => z.2)
  obtain ⟨hk, v', H1, I1, r1, x, e1, hb, q⟩ := q
  subst e1
  obtain ⟨tx, e2⟩ := r1
  subst e2
  refine ⟨"str", _, PySem.F.plainAttrs_str, PySem.F.slot_str_replace, PySem.F.type_str_replace, typeIs_str _ _ _, (fun _ e => nomatch e), Calls.callWith_builtin rfl (Calls.evalArgs_plain (Calls.spliced_cons ?_))⟩
  refine Calls.Constant_str (Calls.spliced_cons (Calls.Constant_str (Calls.spliced_cons ?_)))
  refine thn ((pe_int (X := X) (i := 1) (j := l) (pos := c2)).run pins _ σ H1 (fun v H2 => v = .int 1 ∧ H2 = H1) (I1.tok _) ⟨rfl, rfl⟩) fun u s2 ⟨w, H2, I2, r2, e3, e4⟩ => ?_
  subst e3 e4
  obtain ⟨ti, e5⟩ := r2
  subst e5
  refine Calls.spliced_nil ?_
  exact call_repl1 (by show s1.toks ≠ 0; omega) (by show s1.toks + 1 ≠ 0; omega) (by show s1.toks ≠ s1.toks + 1; omega) hyz hb fun t' k => ⟨.str (repl1 x y z), _, I2.tok k, ⟨t', rfl⟩, q⟩
theorem pet_if {c : Expr} {tc : TT} (hc : PT X c tc) (ha : PET X e te) (hb : PET X f tf) : PET X (.IfExp c e f pos) (tIf tc te tf) := by
  intro pins s σ H Q h0 I h
  refine wpAny_IfExp (wpAny_mono (PySem.wpAny_toks (hc.run pins s σ H _ I h)) (fun d s1 q => ?_) fun _ _ z => z.2)
  obtain ⟨hk, H1, I1, q1⟩ := q
  cases d with
  | true => exact ha pins s1 σ H1 Q (Nat.le_trans h0 hk) I1 q1
  | false => exact hb pins s1 σ H1 Q (Nat.le_trans h0 hk) I1 q1
/-- x = o.split(c): behind it a token is out -/
theorem pss_splitT {i : Nat} {x c : Str} {rest : List Stmt} {u : TS} {pos' : Pos} (hN : X.N.Nodup) (hi : X.N[i]? = some x) (hx : Loc X.env.scope x) (ho : PE X o to) (h2 : PSsT X rest u)
    (hst : starEach [.Constant (.str c) j c0] X.env = [(false, eval (.Constant (.str c) j c0) X.env)] := by rfl) (hbase : attributeBase o "split" X.env (eval o X.env) = eval o X.env := by rfl) (hline : (apos.endLine == p.line) = true := by rfl)
    (hs : swapsWith (.Call (.Attribute o "split" apos) [.Constant (.str c) j c0] [] p) (some (.Name x pos')) pos.line X.env = pure false := by rfl) (hf : X.fn x = true ∨ X.env.scope.names.lookup x = some .local := by first | exact .inl rfl | exact .inr rfl | assumption) :
    PSs X (.Assign [.Name x pos'] (.Call (.Attribute o "split" apos) [.Constant (.str c) j c0] [] p) pos :: rest) (tSeq (tAsg (tM1 rSplit to (tC (.str c))) (gName i)) u) := by
  refine ⟨fun pins s σ H D I h => ?_⟩
  refine wpAny_execs_cons (wpAny_Assign_Name ?_ hs)
  refine PySem.Call_method1 hbase hst hline (thn (ho.run pins s σ H _ I h) fun v s1 ⟨y, H1, I1, r1, q1⟩ => ?_)
  obtain ⟨⟨a, rfl⟩, q1⟩ := q1
  obtain ⟨t, rfl⟩ := _root_.id r1
  refine ⟨"str", _, PySem.F.plainAttrs_str, PySem.F.slot_str_split, PySem.F.type_str_split, typeIs_str _ _ _, (fun _ e => nomatch e), Calls.callWith_builtin rfl (Calls.evalArgs_plain (Calls.spliced_cons ?_))⟩
  refine Calls.Constant_str (Calls.spliced_nil ?_)
  have run := mt_split pins { s1 with toks := s1.toks + 1 } σ H1 _ [.str c] _ [.str c s1.toks] _ (I1.tok _) r1 (.cons ⟨s1.toks, rfl⟩ .nil) q1
  refine wpAny_mono (PySem.wpAny_toks_of (n := 1) (by show 1 ≤ s1.toks + 1; omega) run) (fun w s3 ⟨hk, y3, H3, I3, r3, q3⟩ => ?_) fun _ _ z => z.2
  refine wpAny_mono (PySem.wpAny_toks (store_ok (v := y3) (u := w) (Q := fun _ s2 => Inv X pins (σ.set i (some y3)) H3 s2) I3 hN hi hx r3 (fun _ I2 => I2) hf)) (fun _ s4 q => ?_) fun _ _ z => z.2
  exact h2 pins s4 _ H3 D (Nat.le_trans hk q.1) q.2 q3
end
/-! ### read over data -/
section
variable {K : PySem.W.Frag} {ρ : List Sl} {te : TE} {Q : D → List Sl → Prop}
theorem ev_replC {y z : Str} (h : EV K te ρ fun d ρ1 => ∃ x, d = .str x ∧ x.length + (x.length + 1) * z.length ≤ 16777216 ∧ Q (.str (Txt.replace x y z)) ρ1) : EV K (CwR.tReplC te y z) ρ Q := fun B H σ R e k =>
  h B H σ _ e fun v B1 H1 d ρ1 ⟨x, hd, hb, hq⟩ s1 b1 e1 r1 => by
    subst hd
    cases r1
    exact ⟨x, rfl, hb, k _ B1 H1 _ ρ1 hq s1 b1 e1 (.str _)⟩
theorem ev_repl1 {y z : Str} (h : EV K te ρ fun d ρ1 => ∃ x, d = .str x ∧ x.length + z.length ≤ 16777216 ∧ Q (.str (repl1 x y z)) ρ1) : EV K (tRepl1 te y z) ρ Q := fun B H σ R e k =>
  h B H σ _ e fun v B1 H1 d ρ1 ⟨x, hd, hb, hq⟩ s1 b1 e1 r1 => by
    subst hd
    cases r1
    exact ⟨x, rfl, hb, k _ B1 H1 _ ρ1 hq s1 b1 e1 (.str _)⟩
/-- len of an own list -/
theorem ev_lenO {i : Nat} {p : Addr} {ds : List D} (hi : ρ[i]? = some (.own p ds)) (h : Q (.int (ds.length : Int)) ρ) : EV K (tCB (cLenU K) (tCons (tVar i) tNil)) ρ Q := fun B H σ R e k => by
  obtain ⟨q, n, vs, h1, r0⟩ := e.ok i _ hi
  refine ⟨.ref p, e.at q, _, _, rfl, .inl ⟨vs, SqL.of h1, rfl⟩, ?_⟩
  rw [r0.length]
  exact k _ B H _ ρ h .refl (fun _ z => z) e (.int _)
end
end Dn
/-! Dn: a def that takes data and returns a new list that nothing else knows. -/
namespace Dn
open PySem PySem.Spec PyProof.Rows L2 Evl
section
variable {K : PySem.W.Frag} {ρ : List Sl} {te : TE} {ta : TA}
def spN (K : PySem.W.Frag) (W : List D → (List D → Prop) → Prop) : Sp := fun vs H Q _ => ∃ (B : Hp) (es : List D) (P : List D → Prop), Ex B H ∧ RepAll K B vs es ∧ W es P ∧
  ∀ p us B' H' ds, P ds → Stp [] B H [] B' H' → Ex B' H' → H p = none → B' p = none → H' p = some (.lst us) → RepAll K B' us ds → Q (.ref p) H'
theorem ef_callN {P : List D → List Sl → Prop} {W : List D → (List D → Prop) → Prop} {E : XK} (h : EA K ta ρ fun as ρ1 => ∃ es : List D, as = es.map .dat ∧ W es fun ds => P ds ρ1) : EF K (tCall (spN K W) [] E ta) ρ P := fun B H σ Q e k =>
  h B H σ _ e fun vs B1 H1 as ρ1 ⟨es, ha, hw⟩ s1 b1 e1 r1 => by
    subst ha
    rw [List.append_nil]
    refine ⟨B1, es, _, e1.ex, ars_rep r1, hw, fun p us B' H' ds hp st x hn nb hl ra => ?_⟩
    have fr : ∀ a o, H1 a = some o → B1 a = none → H' a = some o ∧ B' a = none := fun a o h1 h2 => st.fr a o h1 h2 fun ⟨_, _, q, _⟩ => by simp at q
    have e2 : Envs K B' H' σ ρ1 := e1.frame st.ex x fun a o h1 h2 _ => fr a o h1 h2
    refine k p us B' H' ds ρ1 hp (s1.trans e1.ex ⟨st.ex, fun a o h1 h2 _ => fr a o h1 h2, fun q z => .inl z, st.th⟩) b1 e2 (s1.th p hn) nb (fun z => ?_) hl ra
    obtain ⟨_, o, q⟩ := e1.ownOf z
    rw [hn] at q; cases q
theorem body_okN {N : List Str} {W : List D → (List D → Prop) → Prop} (hx : ∀ es P, W es P → EF K te (es.map .dat ++ List.replicate (N.length - es.length) .unk) fun ds _ => P ds) (vs : List V) (H : Hp) (Q : VK) (E : XK) (h : spN K W vs H Q E) :
    tRet te { nx := fun _ H' => Q .non H', rt := Q } (L2.start N vs) H := by
  obtain ⟨B, es, P, x, ra, w, k⟩ := h
  have no : NoOwn (es.map Sl.dat) := fun p ⟨i, s, h1, h2⟩ => by
    rw [List.getElem?_map] at h1
    cases z : es[i]? with
    | none => rw [z] at h1; cases h1
    | some d =>
      rw [z] at h1
      obtain rfl := Option.some.inj h1
      cases h2
  have e0 : Envs K B H (vs.map some) (es.map .dat) := ⟨x, by rw [List.length_map, List.length_map, ra.length], fun i s h => by
    rw [List.getElem?_map] at h
    cases z : es[i]? with
    | none => rw [z] at h; cases h
    | some d =>
      rw [z] at h
      obtain rfl := Option.some.inj h
      obtain ⟨v, q1, q2⟩ := ra.get z
      exact ⟨v, by rw [List.getElem?_map, q1]; rfl, q2⟩, fun i j s t p h1 _ h3 _ => (no p ⟨i, s, h1, h3⟩).elim⟩
  have e1 := start_env (N := N) e0
  rw [List.length_map] at e1
  have no1 : NoOwn (es.map Sl.dat ++ List.replicate (N.length - es.length) .unk) := fun p z => no p (own_start.mp z)
  exact hx es P w B H _ _ e1 fun p us B' H' ds ρ' hp st sb e' np nb _ hl rl => k p us B' H' ds hp (st.nil no1) e'.ex np nb hl rl
end
end Dn
namespace K95
open PySem PySem.Spec PyProof.Rows L2 Dn
def top (i : Nat) : Stmt := PySem.Challenge.pw_swornlike_k95_spoilt_texts_of_papers.main.body.getD i (.Pass ⟨0, 0, 0, 0⟩)
abbrev s_BadLine___init__ : Stmt := inClass (top 2) 0
abbrev s_read_number : Stmt := top 8
abbrev s_joined : Stmt := top 12
abbrev s_pair_written : Stmt := top 13
abbrev s_write_likeness : Stmt := top 14
abbrev s_read_integer : Stmt := top 15
abbrev s_read_integers : Stmt := top 16
abbrev s_read_unit_row : Stmt := top 17
abbrev s_read_pair_row : Stmt := top 18
abbrev s_read_told : Stmt := top 19
abbrev s_read_first_row : Stmt := top 20
abbrev s_read_second_row : Stmt := top 21
abbrev s_RowReader___init__ : Stmt := inClass (top 22) 0
abbrev s_RowReader_next_read : Stmt := inClass (top 22) 1
abbrev s_RowReader_all_told : Stmt := inClass (top 22) 2
abbrev s_RowReader_read_pair : Stmt := inClass (top 22) 3
abbrev s_RowReader_read_unit : Stmt := inClass (top 22) 4
abbrev s_read_likeness : Stmt := top 23
abbrev s__law_pool : Stmt := top 25
abbrev s__law_take : Stmt := top 26
abbrev s__law_alike : Stmt := top 27
abbrev s__law_told_row : Stmt := top 28
abbrev s__law_text : Stmt := top 29
abbrev s__law_number : Stmt := top 30
abbrev s__law_drawn_told : Stmt := top 31
abbrev s__law_drawn_paper : Stmt := top 32
abbrev s__law_is_number : Stmt := top 33
abbrev s__law_is_told : Stmt := top 34
abbrev s__law_all_are : Stmt := top 35
abbrev s__law_wrong_row : Stmt := top 36
abbrev s__law_spoilt_row : Stmt := top 37
abbrev s__law_spoilt : Stmt := top 38
abbrev s__law_row_told : Stmt := top 39
abbrev s_law : Stmt := top 40
/-- what the top has left of the plain things -/
structure Ctx (K : PySem.W.Frag) (w : World) (mg : Str → Option Value) : Prop where
  b_len : mg "len" = none
  b_str : mg "str" = none
  b_int : mg "int" = none
  b_tuple : mg "tuple" = none
  b_range : mg "range" = none
  b_repr : mg "repr" = none
  b_isinstance : mg "isinstance" = none
  g_FIGURES : ∃ u, mg "FIGURES" = some u ∧ RelV (.str "0123456789") u
  g_MOST_FIGURES : ∃ u, mg "MOST_FIGURES" = some u ∧ RelV (.int 12) u
  g_PAIR_SIZES : ∃ u, mg "PAIR_SIZES" = some u ∧ RelV (.ref (He.ga K "PAIR_SIZES")) u
  q_PAIR_SIZES : ∀ B : Hp, SqT K B (He.ga K "PAIR_SIZES") [.int 5, .int 7]
  g_TOLD_SIZES : ∃ u, mg "TOLD_SIZES" = some u ∧ RelV (.ref (He.ga K "TOLD_SIZES")) u
  d_TOLD_SIZES : ∃ es n, KDict K w (He.ga K "TOLD_SIZES") es n
  k_TOLD_SIZES : He.dicW K (He.ga K "TOLD_SIZES") = some (He.keysIn w.params ["num", "len", "spot"])
  v_TOLD_SIZES_num : ∃ u, PySem.W.nsIn K (He.ga K "TOLD_SIZES") "num" = some (some u) ∧ RelV (.int 2) u
  v_TOLD_SIZES_len : ∃ u, PySem.W.nsIn K (He.ga K "TOLD_SIZES") "len" = some (some u) ∧ RelV (.int 3) u
  v_TOLD_SIZES_spot : ∃ u, PySem.W.nsIn K (He.ga K "TOLD_SIZES") "spot" = some (some u) ∧ RelV (.int 4) u
  f_read_number : ∃ f fd, At K mg "read_number" s_read_number f fd
  f_joined : ∃ f fd, At K mg "joined" s_joined f fd
  f_pair_written : ∃ f fd, At K mg "pair_written" s_pair_written f fd
  f_write_likeness : ∃ f fd, At K mg "write_likeness" s_write_likeness f fd
  f_read_integer : ∃ f fd, At K mg "read_integer" s_read_integer f fd
  f_read_integers : ∃ f fd, At K mg "read_integers" s_read_integers f fd
  f_read_unit_row : ∃ f fd, At K mg "read_unit_row" s_read_unit_row f fd
  f_read_pair_row : ∃ f fd, At K mg "read_pair_row" s_read_pair_row f fd
  f_read_told : ∃ f fd, At K mg "read_told" s_read_told f fd
  f_read_first_row : ∃ f fd, At K mg "read_first_row" s_read_first_row f fd
  f_read_second_row : ∃ f fd, At K mg "read_second_row" s_read_second_row f fd
  f_read_likeness : ∃ f fd, At K mg "read_likeness" s_read_likeness f fd
  f__law_pool : ∃ f fd, At K mg "_law_pool" s__law_pool f fd
  f__law_take : ∃ f fd, At K mg "_law_take" s__law_take f fd
  f__law_alike : ∃ f fd, At K mg "_law_alike" s__law_alike f fd
  f__law_told_row : ∃ f fd, At K mg "_law_told_row" s__law_told_row f fd
  f__law_text : ∃ f fd, At K mg "_law_text" s__law_text f fd
  f__law_number : ∃ f fd, At K mg "_law_number" s__law_number f fd
  f__law_drawn_told : ∃ f fd, At K mg "_law_drawn_told" s__law_drawn_told f fd
  f__law_drawn_paper : ∃ f fd, At K mg "_law_drawn_paper" s__law_drawn_paper f fd
  f__law_is_number : ∃ f fd, At K mg "_law_is_number" s__law_is_number f fd
  f__law_is_told : ∃ f fd, At K mg "_law_is_told" s__law_is_told f fd
  f__law_all_are : ∃ f fd, At K mg "_law_all_are" s__law_all_are f fd
  f__law_wrong_row : ∃ f fd, At K mg "_law_wrong_row" s__law_wrong_row f fd
  f__law_spoilt_row : ∃ f fd, At K mg "_law_spoilt_row" s__law_spoilt_row f fd
  f__law_spoilt : ∃ f fd, At K mg "_law_spoilt" s__law_spoilt f fd
  f__law_row_told : ∃ f fd, At K mg "_law_row_told" s__law_row_told f fd
  f_law : ∃ f fd, At K mg "law" s_law f fd
end K95
namespace K95
open PySem PySem.Spec PyProof.Rows L2 Dn
abbrev WP := List Sl → (D → List Sl → Prop) → Prop
/-! ### data -/
abbrev tl (s : Str) : List Nat := s.cps.toList
def oi : Option Int → D
  | none => .non
  | some i => .int i
abbrev dInts (ns : List Int) : D := .tup (ns.map .int)
def dOInts : Option (List Int) → D
  | none => .non
  | some ns => dInts ns
abbrev dStrs (ws : List Str) : D := .lst (ws.map .str)
/-- a text of the sizes that stand here -/
def Sm (s : Str) : Prop := s.length ≤ 100000
theorem Sm.le {s : Str} (h : Sm s) : s.length ≤ sizeLine := Nat.le_trans h (by decide)
def Asc (s : Str) : Prop := ∀ c ∈ tl s, c < 128
/-! ### numbers -/
def isFig (l : List Nat) : Bool := (decide (1 ≤ l.length) && decide (l.length ≤ 12)) && (!(decide (l.head? = some 48) && !decide (l = [48])) && l.all fun c => decide (48 ≤ c) && decide (c ≤ 57))
def numL (l : List Nat) : Option Int := if isFig l = true then some ((NumText.digitsVal l : Nat) : Int) else none
def numU (s : Str) : Option Int := numL (tl s)
def numN (l : List Nat) : Option Int := match l with
  | 45 :: r => (match numL r with
    | none => none
    | some n => if n = 0 then none else some (-n))
  | l => numL l
def numW (s : Str) : Option Int := numN (tl s)
def nums (ws : List Str) : Option (List Int) := ws.mapM numW
def NumOk (n : Int) : Prop := n.natAbs < 10 ^ 12
/-! ### papers -/
abbrev Told := Str × List Int
structure Pair where
  stack : List (Int × Int)
  place : Int
  firsts : List ((Int × Int) × Told)
  seconds : List (Int × Told)
structure Uni where
  goes : List Int
  pairs : List Pair
abbrev Paper := List Uni
abbrev dTold (t : Told) : D := .tup (.str t.1 :: t.2.map .int)
abbrev dPt2 (a : Int × Int) : D := .tup [.int a.1, .int a.2]
abbrev dStack (l : List (Int × Int)) : D := .tup (l.map dPt2)
abbrev dFirst (f : (Int × Int) × Told) : D := .tup [dPt2 f.1, dTold f.2]
abbrev dSecond (f : Int × Told) : D := .tup [.int f.1, dTold f.2]
abbrev dPair (p : Pair) : D := .tup [dStack p.stack, .int p.place, .tup (p.firsts.map dFirst), .tup (p.seconds.map dSecond)]
abbrev dUnit (u : Uni) : D := .tup [dInts u.goes, .tup (u.pairs.map dPair)]
abbrev dPaper (p : Paper) : D := .tup (p.map dUnit)
def ToldWf (t : Told) : Prop := ((t.1 = "num" ∧ t.2.length = 1) ∨ (t.1 = "len" ∧ t.2.length = 2) ∨ (t.1 = "spot" ∧ t.2.length = 3)) ∧ ∀ n ∈ t.2, NumOk n
structure PairWf (p : Pair) : Prop where
  st : p.stack.length = 1 ∨ p.stack.length = 2
  stn : ∀ a ∈ p.stack, NumOk a.1 ∧ NumOk a.2
  pl : NumOk p.place
  fi : ∀ f ∈ p.firsts, NumOk f.1.1 ∧ NumOk f.1.2 ∧ ToldWf f.2
  se : ∀ f ∈ p.seconds, NumOk f.1 ∧ ToldWf f.2
structure UniWf (u : Uni) : Prop where
  go : ∀ n ∈ u.goes, NumOk n
  ne : 1 ≤ u.pairs.length
  pn : NumOk u.pairs.length
  pr : ∀ p ∈ u.pairs, PairWf p
def PaperWf (p : Paper) : Prop := ∀ u ∈ p, UniWf u
/-! ### their words -/
abbrev sp : Str := " "
abbrev nl : Str := "\n"
abbrev str (n : Int) : Str := Str.ofString (toString n)
def toldWs (t : Told) : List Str := t.1 :: t.2.map str
def unitWs (u : Uni) : List Str := "unit" :: str u.pairs.length :: u.goes.map str
def pairWs (p : Pair) : List Str := "pair" :: (p.stack.flatMap (fun a => [str a.1, str a.2]) ++ (["at", str p.place] : List Str))
def firstWs (f : (Int × Int) × Told) : List Str := "first" :: str f.1.1 :: str f.1.2 :: toldWs f.2
def secondWs (f : Int × Told) : List Str := "second" :: str f.1 :: toldWs f.2
def pairRs (p : Pair) : List (List Str) := pairWs p :: (p.firsts.map firstWs ++ p.seconds.map secondWs)
def unitRs (u : Uni) : List (List Str) := unitWs u :: u.pairs.flatMap pairRs
def paperRs (p : Paper) : List (List Str) := p.flatMap unitRs
def row (ws : List Str) : Str := Txt.join sp ws
def paperT (p : Paper) : Str := Txt.join nl ((paperRs p).map row)
/-! ### what is read -/
def toldN : Str → Option Nat := fun s => if s = "num" then some 2 else if s = "len" then some 3 else if s = "spot" then some 4 else none
def toldR (ws : List Str) : Option Told := match ws with
  | [] => none
  | w :: r => if toldN w = some (w :: r).length then (nums r).map fun ns => (w, ns) else none
def unitR (ws : List Str) : Option (Int × List Int) := match ws with
  | [] => none
  | w :: r => match nums r with
    | some (n :: ns) => if w = "unit" ∧ 1 ≤ n then some (n, ns) else none
    | _ => none
def two : List Int → List (Int × Int)
  | a :: b :: r => (a, b) :: two r
  | _ => []
def pairR (ws : List Str) : Option (List (Int × Int) × Int) :=
  if ws.head? = some "pair" ∧ (ws.length = 5 ∨ ws.length = 7) ∧ ws[ws.length - 2]? = some "at" then
    (nums ((ws.drop 1).take (ws.length - 3) ++ ws.drop (ws.length - 1))).bind fun ns => ns.getLast?.map fun z => (two ns.dropLast, z)
  else none
def firstR (ws : List Str) : Option ((Int × Int) × Told) := match ws with
  | _ :: a :: b :: r => match nums [a, b], toldR r with
    | some [x, y], some t => some ((x, y), t)
    | _, _ => none
  | _ => none
def secondR (ws : List Str) : Option (Int × Told) := match ws with
  | _ :: a :: r => match nums [a], toldR r with
    | some [x], some t => some (x, t)
    | _, _ => none
  | _ => none
/-! ### promises -/
def SmWs (ws : List Str) : Prop := ws.length ≤ 100001 ∧ ∀ w ∈ ws, Sm w
theorem SmWs.take {ws : List Str} (h : SmWs ws) (n : Nat) : SmWs (ws.take n) := ⟨by rw [List.length_take]; exact Nat.le_trans (Nat.min_le_right _ _) h.1, fun w hw => h.2 w (List.mem_of_mem_take hw)⟩
theorem SmWs.drop {ws : List Str} (h : SmWs ws) (n : Nat) : SmWs (ws.drop n) := ⟨by rw [List.length_drop]; exact Nat.le_trans (Nat.sub_le _ _) h.1, fun w hw => h.2 w (List.mem_of_mem_drop hw)⟩
def dOpt {α : Type} (f : α → D) : Option α → D
  | none => .non
  | some a => f a
abbrev dUnitR (x : Int × List Int) : D := .tup [.int x.1, dInts x.2]
abbrev dPairR (x : List (Int × Int) × Int) : D := .tup [dStack x.1, .int x.2]
theorem oi_n : oi none = .non := rfl
theorem oi_s {i : Int} : oi (some i) = .int i := rfl
theorem dOI_n : dOInts none = .non := rfl
theorem dOI_s {i : List Int} : dOInts (some i) = dInts i := rfl
theorem dOpt_n {α : Type} {f : α → D} : dOpt f none = .non := rfl
theorem dOpt_s {α : Type} {f : α → D} {a : α} : dOpt f (some a) = f a := rfl
def W_read_number : WP := fun ρ P => ∃ s, ρ = [.dat (.str s)] ∧ Sm s ∧ P (oi (numU s)) [.unk]
def W_read_integer : WP := fun ρ P => ∃ s, ρ = [.dat (.str s)] ∧ Sm s ∧ P (oi (numW s)) [.unk]
def W_read_integers : WP := fun ρ P => ∃ ws, ρ = [.dat (dStrs ws)] ∧ SmWs ws ∧ P (dOInts (nums ws)) [.unk]
def W_read_unit_row : WP := fun ρ P => ∃ ws, ρ = [.dat (dStrs ws)] ∧ ws ≠ [] ∧ SmWs ws ∧ P (dOpt dUnitR (unitR ws)) [.unk]
def W_read_pair_row : WP := fun ρ P => ∃ ws, ρ = [.dat (dStrs ws)] ∧ ws ≠ [] ∧ SmWs ws ∧ P (dOpt dPairR (pairR ws)) [.unk]
def W_read_told : WP := fun ρ P => ∃ ws, ρ = [.dat (dStrs ws)] ∧ SmWs ws ∧ P (dOpt dTold (toldR ws)) [.unk]
def W_read_first_row : WP := fun ρ P => ∃ ws, ρ = [.dat (dStrs ws)] ∧ ws ≠ [] ∧ SmWs ws ∧ P (dOpt dFirst (firstR ws)) [.unk]
def W_read_second_row : WP := fun ρ P => ∃ ws, ρ = [.dat (dStrs ws)] ∧ ws ≠ [] ∧ SmWs ws ∧ P (dOpt dSecond (secondR ws)) [.unk]
def dPart : Sum Int Str → D
  | .inl i => .int i
  | .inr s => .str s
def sPart : Sum Int Str → Str
  | .inl i => str i
  | .inr s => s
def W_joined : WP := fun ρ P => ∃ (w : Str) (x : D) (ps : List (Sum Int Str)), ρ = [.dat (.str w), .dat x] ∧ sqd x = some (ps.map dPart) ∧ (∀ i, .inl i ∈ ps → NumOk i) ∧ Sm (row (w :: ps.map sPart)) ∧ P (.str (row (w :: ps.map sPart))) [.unk, .unk]
def W_pair_written : WP := fun ρ P => ∃ p, ρ = [.dat (dPair p)] ∧ PairWf p ∧ (∀ r ∈ pairRs p, Sm (row r)) ∧ (pairRs p).length ≤ 100001 ∧ P (.lst ((pairRs p).map fun r => .str (row r))) [.unk]
def W_write_likeness : WP := fun ρ P => ∃ p, ρ = [.dat (dPaper p)] ∧ PaperWf p ∧ Sm (paperT p) ∧ P (.str (paperT p)) [.unk]
def W__law_text : WP := W_write_likeness
/-! ### the drawing -/
def PoolI (ds : List D) : Prop := ∃ (cs : List Int) (i cur mix : Int), ds = [.lst (cs.map .int), .int i, .int cur, .int mix] ∧ (∀ c ∈ cs, 0 ≤ c ∧ c < 10 ^ 60) ∧ 0 ≤ i ∧ (0 ≤ cur ∧ cur < 10 ^ 60) ∧ 0 ≤ mix ∧ mix < 2147483647
def W__law_take : WP := fun ρ P => ∃ p ds m, ρ = [.own p ds, .dat (.int m)] ∧ PoolI ds ∧ 1 ≤ m ∧ m < 1073741824 ∧ ∀ r ds', 0 ≤ r → r < m → PoolI ds' → P (.int r) [.own p ds', .unk]
def W__law_number : WP := fun ρ P => ∃ p ds m b, ρ = [.own p ds, .dat (.int m), .dat (.bl b)] ∧ PoolI ds ∧ 1 ≤ m ∧ m ≤ 12 ∧ ∀ n ds', NumOk n → PoolI ds' → P (.int n) [.own p ds', .unk, .unk]
def W__law_drawn_told : WP := fun ρ P => ∃ p ds, ρ = [.own p ds] ∧ PoolI ds ∧ ∀ t ds', ToldWf t → PoolI ds' → P (dTold t) [.own p ds']
def PaperSz (p : Paper) : Prop := p.length ≤ 3 ∧ ∀ u ∈ p, u.goes.length ≤ 3 ∧ u.pairs.length ≤ 3 ∧ ∀ q ∈ u.pairs, q.firsts.length ≤ 3 ∧ q.seconds.length ≤ 3
def W__law_drawn_paper : WP := fun ρ P => ∃ p ds, ρ = [.own p ds, .dat (.int 3)] ∧ PoolI ds ∧ ∀ x ds', PaperWf x → PaperSz x → PoolI ds' → P (dPaper x) [.own p ds', .unk]
def W__law_told_row : WP := fun ρ P => ∃ t, ρ = [.dat (dTold t)] ∧ ToldWf t ∧ P (.str (row (toldWs t))) [.unk]
/-! ### the judge -/
def W__law_is_number : WP := fun ρ P => ∃ s, ρ = [.dat (.str s)] ∧ Sm s ∧ Asc s ∧ P (.bl (numW s).isSome) [.unk]
def AscWs (ws : List Str) : Prop := ws.length ≤ 100001 ∧ ∀ w ∈ ws, Sm w ∧ Asc w
def W__law_is_told : WP := fun ρ P => ∃ ws, ρ = [.dat (dStrs ws)] ∧ AscWs ws ∧ P (.bl (toldR ws).isSome) [.unk]
def W__law_all_are : WP := fun ρ P => ∃ ws, ρ = [.dat (dStrs ws)] ∧ AscWs ws ∧ P (.bl (nums ws).isSome) [.unk]
/-- one row of the judge: whether it is good, and the state behind it -/
def judge1 (m st : Int) (ws : List Str) : Bool × Int × Int :=
  if ws.head? = some "unit" then (decide (m = 0) && (unitR ws).isSome, (match unitR ws with | some x => if m = 0 then x.1 else 0 | none => 0), 0)
  else if ws.head? = some "pair" then (decide (0 < m) && (pairR ws).isSome, m - 1, 1)
  else if ws.head? = some "first" then (decide (st = 1) && (firstR ws).isSome, m, st)
  else if ws.head? = some "second" then (decide (0 < st) && (secondR ws).isSome, m, 2)
  else (false, m, st)
/-- what stands behind the first wrong row with it, none: no row is wrong -/
def judge (m st : Int) : List (List Str) → Option (List (List Str))
  | [] => if 0 < m then some [] else none
  | r :: rs => if (judge1 m st r).1 = true then judge (judge1 m st r).2.1 (judge1 m st r).2.2 rs else some (r :: rs)
def rowsOf (t : Str) : List (List Str) := if t.length = 0 then [] else (Txt.split t nl).map fun r => Txt.split r sp
def place (n : Nat) : Option (List (List Str)) → Int
  | none => 0
  | some rs => (n : Int) - rs.length + 1
def wrong (t : Str) : Int := place (rowsOf t).length (judge 0 0 (rowsOf t))
def W__law_wrong_row : WP := fun ρ P => ∃ s, ρ = [.dat (.str s)] ∧ Sm s ∧ Asc s ∧ P (.int (wrong s)) [.unk]
def SpI (n : Nat) (s : Str) : Prop := s.length ≤ n ∧ Asc s
def W__law_spoilt_row : WP := fun ρ P => ∃ p ds s n, ρ = [.own p ds, .dat (.str s)] ∧ PoolI ds ∧ SpI n s ∧ n ≤ 30000 ∧ ∀ t ds', SpI (3 * n + 100) t → PoolI ds' → P (.str t) [.own p ds', .unk]
def W__law_spoilt : WP := fun ρ P => ∃ p ds s n, ρ = [.own p ds, .dat (.str s)] ∧ PoolI ds ∧ SpI n s ∧ n ≤ 30000 ∧ ∀ t ds', SpI (4 * n + 200) t → PoolI ds' → P (.str t) [.own p ds', .unk]
/-! ### the reader -/
abbrev Rd (α : Type) := List (List Str) → Sum (List (List Str)) (α × List (List Str))
def oneRd {α : Type} (f : List Str → Option α) : Rd α
  | [] => .inl []
  | r :: rs => match f r with
    | none => .inl (r :: rs)
    | some a => .inr (a, rs)
def allRd {α : Type} (w : Str) (f : List Str → Option α) : Rd (List α)
  | [] => .inr ([], [])
  | r :: rs => if r.head? = some w then (match f r with
      | none => .inl (r :: rs)
      | some a => match allRd w f rs with
        | .inl e => .inl e
        | .inr (as, q) => .inr (a :: as, q)) else .inr ([], r :: rs)
def pairRd : Rd Pair := fun rs => match oneRd pairR rs with
  | .inl e => .inl e
  | .inr (a, r1) => match allRd "first" firstR r1 with
    | .inl e => .inl e
    | .inr (fs, r2) => match allRd "second" secondR r2 with
      | .inl e => .inl e
      | .inr (ss, r3) => .inr (⟨a.1, a.2, fs, ss⟩, r3)
def pairsRd : Nat → Rd (List Pair)
  | 0, rs => .inr ([], rs)
  | n + 1, rs => match pairRd rs with
    | .inl e => .inl e
    | .inr (p, r1) => match pairsRd n r1 with
      | .inl e => .inl e
      | .inr (ps, r2) => .inr (p :: ps, r2)
def unitRd : Rd Uni := fun rs => match oneRd unitR rs with
  | .inl e => .inl e
  | .inr (a, r1) => match pairsRd a.1.toNat r1 with
    | .inl e => .inl e
    | .inr (ps, r2) => .inr (⟨a.2, ps⟩, r2)
/-- fuel: one more than the rows -/
def paperRd : Nat → List (List Str) → Sum (List (List Str)) Paper
  | 0, _ => .inr []
  | _ + 1, [] => .inr []
  | n + 1, r :: rs => match unitRd (r :: rs) with
    | .inl e => .inl e
    | .inr (u, r1) => match paperRd n r1 with
      | .inl e => .inl e
      | .inr us => .inr (u :: us)
def readT (t : Str) : Sum (List (List Str)) Paper := paperRd ((rowsOf t).length + 1) (rowsOf t)
def dRes (t : Str) : D := match readT t with
  | .inl e => .tup [.int (place (rowsOf t).length (some e)), .non]
  | .inr p => .tup [.int 0, dPaper p]
def W__law_row_told : WP := fun ρ P => ∃ s, ρ = [.dat (.str s)] ∧ Sm s ∧ P (dRes s) [.unk]
def W_read_likeness : WP := fun ρ P => ∃ s p, ρ = [.dat (.str s)] ∧ Sm s ∧ readT s = .inr p ∧ P (dPaper p) [.unk]
def W__law_pool : WP := fun _ _ => False
def W__law_alike : WP := fun ρ P => ∃ x p, ρ = [.dat x, .dat x] ∧ py x = some p ∧ PyData.eqv p p = true ∧ SeqAt.shaped p = true ∧ PyData.layable0 p = true ∧ p.showable = true ∧ p.shown.length ≤ sizeLine ∧ P (.bl true) [.unk, .unk]
def W_law : WP := fun ρ P => ∃ ns : List Int, ρ = [.dat (.rol (ns.map .int))] ∧ ns.length ≤ 63 ∧ P (.bl true) [.unk]
end K95
namespace K95
open PySem PySem.Spec PyProof.Rows L2 Dn
/-! ### read_number -/
abbrev N_read_number : List Str := ["word", "sign"]
theorem sc_read_number : FnScope N_read_number ["word"] (defScope s_read_number) := ⟨rfl, rfl, rfl, by decide +kernel, rfl, by decide +kernel, by decide +kernel⟩
def t_read_number (K : PySem.W.Frag) : TS :=
    tSeq (tIfS (tOr (tNot (tTest (tChain rLeU rLeU (tC (.int 1)) (tCB (cLenU K) (tCons (tVar 0) (tNil))) (tC (.int 12))))) (tAnd (tTest (tOp (rEqU K) (tOp (rIx K) (tVar 0) (tC (.int 0))) (tC (.str "0")))) (tTest (tOp (rNeU K) (tVar 0) (tC (.str "0")))))) (tRet (tC .non)) (tNext))
    (tSeq (tFor (iStr (tVar 0)) (gName 1) (tIfS (tTest (tOp (rNinU K) (tVar 1) (tC (.str "0123456789")))) (tRet (tC .non)) (tNext)))
    (tRet (tCB cIntU (tCons (tVar 0) (tNil)))))
theorem d_read_number {P : Program} {w : World} {K : PySem.W.Frag} {mg : Str → Option Value} {base : Heap} (C : Ctx K w mg)  (f : Addr) (cdv : Value) (A : Around) (outer : List Env) (s : Shared) (H : Hp) (E : XK) (hr : Room 0 (A.deeper (envOfC "read_number" (defScope s_read_number) s.heap.objs.size f cdv))) : PSs (cxOf CX0 P w K mg base N_read_number "read_number" (defScope s_read_number) f cdv A outer s H E).nox (defBody s_read_number) (t_read_number K) := by
  have hu : (A.deeper (envOfC "read_number" (defScope s_read_number) s.heap.objs.size f cdv)).units + 64 < cLine := hr.units
  have hv : (A.deeper (envOfC "read_number" (defScope s_read_number) s.heap.objs.size f cdv)).units + (64 + 1) < cLine := by have := hr.un; omega
  have hu1 := Nat.lt_of_le_of_lt (Nat.add_le_add_left (by decide : 1 ≤ 64) _) hu
  exact pss_cons (ps_if ((pw_or (pt_not (pt_chain op_leU op_leU (pe_int) (pe_callB call_lenU (by rfl) C.b_len PySem.boot_len (pa_cons (pv 0) (pa_nil))) (C8.pe_gc (by rfl) C.g_MOST_FIGURES))) (pw_or1 ((pw_and (pt_cmpR (op_eqU hu) (pe_ix ix_seq (pv 0) (pe_int) (fun _ _ => rfl)) (pe_str) (nomark _)) (pw_and1 (pt_cmpR (op_neU hu) (pv 0) (pe_str) (nomark _)))).pt))).pt) (pss_one (ps_ret (pe_non))) (pss_nil))
    (pss_cons (ps_for PassesOwn.never rfl (pi_str (pv 0)) (pg_name (i := 1) sc_read_number.nd rfl (Or.inl rfl)) (pss_one (ps_if (pt_cmpR op_ninU (pv 1) (C8.pe_gc (by rfl) C.g_FIGURES) (by rfl)) (pss_one (ps_ret (pe_non))) (pss_nil))))
    (pss_one (ps_ret (pe_callTy call_intU (by rfl) C.b_int PyProof.Rows.boot_int (pa_cons (pv 0) (pa_nil))))))
theorem mk_read_number {P : Program} {w : World} {K : PySem.W.Frag} {mg : Str → Option Value} {base : Heap} (C : Ctx K w mg)  (len : ∀ ρ0 Q, W_read_number ρ0 Q → ρ0.length = 1) (hx : ∀ ρ0 Q, W_read_number ρ0 Q → XS K (t_read_number K) (ρ0 ++ List.replicate (N_read_number.length - ρ0.length) .unk) (bodyPost ρ0 Q)) : C8.Cal P w K mg base 1 "read_number" (spW K W_read_number) [] :=
  fnC C.f_read_number sc_read_number len (fun _ _ _ _ _ _ us hl => match us, hl with | [_], _ => rfl) (fun f cdv A outer s H E hr => d_read_number C  f cdv A outer s H E hr) hx
/-! ### joined -/
abbrev N_joined : List Str := ["word", "parts", "part"]
theorem sc_joined : FnScope N_joined ["word", "parts"] (defScope s_joined) := ⟨rfl, rfl, rfl, by decide +kernel, rfl, by decide +kernel, by decide +kernel⟩
def t_joined (K : PySem.W.Frag) : TS :=
    tRet (tM1 (rJoin K) (tC (.str " ")) (tOp (rAddU K) (tLst (tCons (tVar 0) (tNil))) (tLc (iSeqU K (tVar 1)) (gName 2) (tYes) (tCB cStrU (tCons (tVar 2) (tNil))) [2])))
theorem d_joined {P : Program} {w : World} {K : PySem.W.Frag} {mg : Str → Option Value} {base : Heap} (C : Ctx K w mg)  (f : Addr) (cdv : Value) (A : Around) (outer : List Env) (s : Shared) (H : Hp) (E : XK) (hr : Room 0 (A.deeper (envOfC "joined" (defScope s_joined) s.heap.objs.size f cdv))) : PSs (cxOf CX0 P w K mg base N_joined "joined" (defScope s_joined) f cdv A outer s H E).nox (defBody s_joined) (t_joined K) := by
  have hu : (A.deeper (envOfC "joined" (defScope s_joined) s.heap.objs.size f cdv)).units + 64 < cLine := hr.units
  have hv : (A.deeper (envOfC "joined" (defScope s_joined) s.heap.objs.size f cdv)).units + (64 + 1) < cLine := by have := hr.un; omega
  have hu1 := Nat.lt_of_le_of_lt (Nat.add_le_add_left (by decide : 1 ≤ 64) _) hu
  exact pss_one (ps_ret (pe_m1 PySem.F.slot_str_join PySem.F.type_str_join mt_join (pe_str) (pe_op op_addU (pe_lst (pa_cons (pv 0) (pa_nil))) (pe_lc (own := [("part", 2)]) rfl sc_joined.nd (pi_seqU (pv 1)) (blkOk_by (own := [("part", 2)]) (N := N_joined) (sc := defScope s_joined) (by decide +kernel)) (fun _ _ _ _ _ => pg_name (i := 2) sc_joined.nd rfl (Or.inl rfl)) (fun _ _ _ _ _ => pts_nil) (fun _ _ _ _ _ => pe_callTy call_strU (by rfl) C.b_str PyProof.Rows.boot_str (pa_cons (pv 2) (pa_nil)))))))
theorem mk_joined {P : Program} {w : World} {K : PySem.W.Frag} {mg : Str → Option Value} {base : Heap} (C : Ctx K w mg)  (len : ∀ ρ0 Q, W_joined ρ0 Q → ρ0.length = 2) (hx : ∀ ρ0 Q, W_joined ρ0 Q → XS K (t_joined K) (ρ0 ++ List.replicate (N_joined.length - ρ0.length) .unk) (bodyPost ρ0 Q)) : C8.Cal P w K mg base 1 "joined" (spW K W_joined) [] :=
  fnC C.f_joined sc_joined len (fun _ _ _ _ _ _ us hl => match us, hl with | [_, _], _ => rfl) (fun f cdv A outer s H E hr => d_joined C  f cdv A outer s H E hr) hx
/-! ### pair_written -/
abbrev N_pair_written : List Str := ["pair", "stack", "place", "firsts", "seconds", "number", "numbers", "rows", "spot", "told", "level"]
theorem sc_pair_written : FnScope N_pair_written ["pair"] (defScope s_pair_written) := ⟨rfl, rfl, rfl, by decide +kernel, rfl, by decide +kernel, by decide +kernel⟩
def t_pair_written (K : PySem.W.Frag) : TS :=
    tSeq (tAsg (tVar 0) (gTup K 4 (gCons (gName 1) (gCons (gName 2) (gCons (gName 3) (gCons (gName 4) (gNil)))))))
    (tSeq (tAsg (tLc2 (iSeqU K (tVar 1)) (gName 10) (tYes) (iSeqU K (tVar 10)) (gName 5) (tYes) (tVar 5) [10, 5] [5]) (gName 6))
    (tSeq (tAsg (tLst (tCons (tCall (spW K W_joined) [] E0 (tCons (tC (.str "pair")) (tCons (tOp (rAddU K) (tVar 6) (tLst (tCons (tC (.str "at")) (tCons (tVar 2) (tNil))))) (tNil)))) (tNil))) (gName 7))
    (tSeq (tFor (iSeqU K (tVar 3)) (gTup K 2 (gCons (gName 8) (gCons (gName 9) (gNil)))) (tDrop (tBM K "list" rAppend (tVar 7) (tCons (tCall (spW K W_joined) [] E0 (tCons (tC (.str "first")) (tCons (tOp (rAddU K) (tVar 8) (tVar 9)) (tNil)))) (tNil)))))
    (tSeq (tFor (iSeqU K (tVar 4)) (gTup K 2 (gCons (gName 5) (gCons (gName 9) (gNil)))) (tDrop (tBM K "list" rAppend (tVar 7) (tCons (tCall (spW K W_joined) [] E0 (tCons (tC (.str "second")) (tCons (tOp (rAddU K) (tTup (tCons (tVar 5) (tNil))) (tVar 9)) (tNil)))) (tNil)))))
    (tRet (tVar 7))))))
theorem d_pair_written {P : Program} {w : World} {K : PySem.W.Frag} {mg : Str → Option Value} {base : Heap} (C : Ctx K w mg) (c_joined : C8.Cal P w K mg base 1 "joined" (spW K W_joined) []) (f : Addr) (cdv : Value) (A : Around) (outer : List Env) (s : Shared) (H : Hp) (E : XK) (hr : Room 1 (A.deeper (envOfC "pair_written" (defScope s_pair_written) s.heap.objs.size f cdv))) : PSs (cxOf CX0 P w K mg base N_pair_written "pair_written" (defScope s_pair_written) f cdv A outer s H E).nox (defBody s_pair_written) (t_pair_written K) := by
  have hu : (A.deeper (envOfC "pair_written" (defScope s_pair_written) s.heap.objs.size f cdv)).units + 64 < cLine := hr.units
  have hv : (A.deeper (envOfC "pair_written" (defScope s_pair_written) s.heap.objs.size f cdv)).units + (64 + 1) < cLine := by have := hr.un; omega
  have hu1 := Nat.lt_of_le_of_lt (Nat.add_le_add_left (by decide : 1 ≤ 64) _) hu
  exact pss_cons (ps_asg (pv 0) (pg_tup rfl (pgs_cons (pg_name (i := 1) sc_pair_written.nd rfl (Or.inl rfl)) (pgs_cons (pg_name (i := 2) sc_pair_written.nd rfl (Or.inl rfl)) (pgs_cons (pg_name (i := 3) sc_pair_written.nd rfl (Or.inl rfl)) (pgs_cons (pg_name (i := 4) sc_pair_written.nd rfl (Or.inl rfl)) (pgs_nil)))))))
    (pss_cons (ps_setLc2 (i := 6) (own := [("level", 10), ("number", 5)]) (vs1 := [5]) rfl sc_pair_written.nd rfl rfl (sw_true rfl rfl rfl (by decide +kernel)) (pi_seqU (pv 1)) (blkOk_by (own := [("level", 10), ("number", 5)]) (N := N_pair_written) (sc := defScope s_pair_written) (by decide +kernel)) (by decide) (fun _ _ _ _ _ => pg_name (i := 10) sc_pair_written.nd rfl (Or.inl rfl)) (fun _ _ _ _ _ => pts_nil) (fun _ _ _ _ _ => pi_seqU (pv 10)) (fun _ _ _ _ _ => pg_name (i := 5) sc_pair_written.nd rfl (Or.inl rfl)) (fun _ _ _ _ _ => pts_nil) (fun _ _ _ _ _ => pv 5))
    (pss_cons (ps_set (i := 7) sc_pair_written.nd rfl (Or.inl rfl) (pe_lst (pa_cons (C8.pe_c c_joined hr (by decide) (by rfl) (pa_cons (pe_str) (pa_cons (pe_op op_addU (pv 6) (pe_lst (pa_cons (pe_str) (pa_cons (pv 2) (pa_nil))))) (pa_nil)))) (pa_nil))))
    (pss_cons (ps_for PassesOwn.never rfl (pi_seqU (pv 3)) (pg_tup rfl (pgs_cons (pg_name (i := 8) sc_pair_written.nd rfl (Or.inl rfl)) (pgs_cons (pg_name (i := 9) sc_pair_written.nd rfl (Or.inl rfl)) (pgs_nil)))) (pss_one (ps_expr (pe_bm PySem.F.plainAttrs_list PySem.F.slot_list_append PySem.F.type_list_append mt_append (pv 7) (pa_cons (C8.pe_c c_joined hr (by decide) (by rfl) (pa_cons (pe_str) (pa_cons (pe_op op_addU (pv 8) (pv 9)) (pa_nil)))) (pa_nil))))))
    (pss_cons (ps_for PassesOwn.never rfl (pi_seqU (pv 4)) (pg_tup rfl (pgs_cons (pg_name (i := 5) sc_pair_written.nd rfl (Or.inl rfl)) (pgs_cons (pg_name (i := 9) sc_pair_written.nd rfl (Or.inl rfl)) (pgs_nil)))) (pss_one (ps_expr (pe_bm PySem.F.plainAttrs_list PySem.F.slot_list_append PySem.F.type_list_append mt_append (pv 7) (pa_cons (C8.pe_c c_joined hr (by decide) (by rfl) (pa_cons (pe_str) (pa_cons (pe_op op_addU (pe_tup (pa_cons (pv 5) (pa_nil))) (pv 9)) (pa_nil)))) (pa_nil))))))
    (pss_one (ps_ret (pv 7)))))))
theorem mk_pair_written {P : Program} {w : World} {K : PySem.W.Frag} {mg : Str → Option Value} {base : Heap} (C : Ctx K w mg) (c_joined : C8.Cal P w K mg base 1 "joined" (spW K W_joined) []) (len : ∀ ρ0 Q, W_pair_written ρ0 Q → ρ0.length = 1) (hx : ∀ ρ0 Q, W_pair_written ρ0 Q → XS K (t_pair_written K) (ρ0 ++ List.replicate (N_pair_written.length - ρ0.length) .unk) (bodyPost ρ0 Q)) : C8.Cal P w K mg base 2 "pair_written" (spW K W_pair_written) [] :=
  fnC C.f_pair_written sc_pair_written len (fun _ _ _ _ _ _ us hl => match us, hl with | [_], _ => rfl) (fun f cdv A outer s H E hr => d_pair_written C c_joined f cdv A outer s H E hr) hx
/-! ### write_likeness -/
abbrev N_write_likeness : List Str := ["paper", "rows", "goes", "pairs", "pair"]
theorem sc_write_likeness : FnScope N_write_likeness ["paper"] (defScope s_write_likeness) := ⟨rfl, rfl, rfl, by decide +kernel, rfl, by decide +kernel, by decide +kernel⟩
def t_write_likeness (K : PySem.W.Frag) : TS :=
    tSeq (tAsg (tLst (tNil)) (gName 1))
    (tSeq (tFor (iSeqU K (tVar 0)) (gTup K 2 (gCons (gName 2) (gCons (gName 3) (gNil)))) (tSeq (tDrop (tBM K "list" rAppend (tVar 1) (tCons (tCall (spW K W_joined) [] E0 (tCons (tC (.str "unit")) (tCons (tOp (rAddU K) (tTup (tCons (tCB (cLenU K) (tCons (tVar 3) (tNil))) (tNil))) (tVar 2)) (tNil)))) (tNil))))
    (tFor (iSeqU K (tVar 3)) (gName 4) (tDrop (tBM K "list" rExtend (tVar 1) (tCons (tCall (spW K W_pair_written) [] E0 (tCons (tVar 4) (tNil))) (tNil)))))))
    (tRet (tM1 (rJoin K) (tC (.str "\n")) (tVar 1))))
theorem d_write_likeness {P : Program} {w : World} {K : PySem.W.Frag} {mg : Str → Option Value} {base : Heap} (C : Ctx K w mg) (c_pair_written : C8.Cal P w K mg base 2 "pair_written" (spW K W_pair_written) []) (c_joined : C8.Cal P w K mg base 1 "joined" (spW K W_joined) []) (f : Addr) (cdv : Value) (A : Around) (outer : List Env) (s : Shared) (H : Hp) (E : XK) (hr : Room 2 (A.deeper (envOfC "write_likeness" (defScope s_write_likeness) s.heap.objs.size f cdv))) : PSs (cxOf CX0 P w K mg base N_write_likeness "write_likeness" (defScope s_write_likeness) f cdv A outer s H E).nox (defBody s_write_likeness) (t_write_likeness K) := by
  have hu : (A.deeper (envOfC "write_likeness" (defScope s_write_likeness) s.heap.objs.size f cdv)).units + 64 < cLine := hr.units
  have hv : (A.deeper (envOfC "write_likeness" (defScope s_write_likeness) s.heap.objs.size f cdv)).units + (64 + 1) < cLine := by have := hr.un; omega
  have hu1 := Nat.lt_of_le_of_lt (Nat.add_le_add_left (by decide : 1 ≤ 64) _) hu
  exact pss_cons (ps_set (i := 1) sc_write_likeness.nd rfl (Or.inl rfl) (pe_lst (pa_nil)))
    (pss_cons (ps_for PassesOwn.never rfl (pi_seqU (pv 0)) (pg_tup rfl (pgs_cons (pg_name (i := 2) sc_write_likeness.nd rfl (Or.inl rfl)) (pgs_cons (pg_name (i := 3) sc_write_likeness.nd rfl (Or.inl rfl)) (pgs_nil)))) (pss_cons (ps_expr (pe_bm PySem.F.plainAttrs_list PySem.F.slot_list_append PySem.F.type_list_append mt_append (pv 1) (pa_cons (C8.pe_c c_joined hr (by decide) (by rfl) (pa_cons (pe_str) (pa_cons (pe_op op_addU (pe_tup (pa_cons (pe_callB call_lenU (by rfl) C.b_len PySem.boot_len (pa_cons (pv 3) (pa_nil))) (pa_nil))) (pv 2)) (pa_nil)))) (pa_nil))))
    (pss_one (ps_for PassesOwn.never rfl (pi_seqU (pv 3)) (pg_name (i := 4) sc_write_likeness.nd rfl (Or.inl rfl)) (pss_one (ps_expr (pe_bm PySem.F.plainAttrs_list PySem.F.slot_list_extend PySem.F.type_list_extend mt_extend (pv 1) (pa_cons (C8.pe_c c_pair_written hr (by decide) (by rfl) (pa_cons (pv 4) (pa_nil))) (pa_nil)))))))))
    (pss_one (ps_ret (pe_m1 PySem.F.slot_str_join PySem.F.type_str_join mt_join (pe_str) (pv 1)))))
theorem mk_write_likeness {P : Program} {w : World} {K : PySem.W.Frag} {mg : Str → Option Value} {base : Heap} (C : Ctx K w mg) (c_pair_written : C8.Cal P w K mg base 2 "pair_written" (spW K W_pair_written) []) (c_joined : C8.Cal P w K mg base 1 "joined" (spW K W_joined) []) (len : ∀ ρ0 Q, W_write_likeness ρ0 Q → ρ0.length = 1) (hx : ∀ ρ0 Q, W_write_likeness ρ0 Q → XS K (t_write_likeness K) (ρ0 ++ List.replicate (N_write_likeness.length - ρ0.length) .unk) (bodyPost ρ0 Q)) : C8.Cal P w K mg base 3 "write_likeness" (spW K W_write_likeness) [] :=
  fnC C.f_write_likeness sc_write_likeness len (fun _ _ _ _ _ _ us hl => match us, hl with | [_], _ => rfl) (fun f cdv A outer s H E hr => d_write_likeness C c_pair_written c_joined f cdv A outer s H E hr) hx
/-! ### read_integer -/
abbrev N_read_integer : List Str := ["word", "number"]
theorem sc_read_integer : FnScope N_read_integer ["word"] (defScope s_read_integer) := ⟨rfl, rfl, rfl, by decide +kernel, rfl, by decide +kernel, by decide +kernel⟩
def t_read_integer (K : PySem.W.Frag) : TS :=
    tSeq (tIfS (tTest (tOp (rNeU K) (tSl (rSlU K) (tVar 0) (tNoPart) (tPart (tC (.int 1)))) (tC (.str "-")))) (tRet (tCall (spW K W_read_number) [] E0 (tCons (tVar 0) (tNil)))) (tNext))
    (tSeq (tAsg (tCall (spW K W_read_number) [] E0 (tCons (tSl (rSlU K) (tVar 0) (tPart (tC (.int 1))) (tNoPart)) (tNil))) (gName 1))
    (tRet (tIf (tOr (tTest (tOp rIsU (tVar 1) (tC .non))) (tTest (tOp (rEqU K) (tVar 1) (tC (.int 0))))) (tC .non) (tUn (rU fun i => .int (-i)) (tVar 1)))))
theorem d_read_integer {P : Program} {w : World} {K : PySem.W.Frag} {mg : Str → Option Value} {base : Heap} (C : Ctx K w mg) (c_read_number : C8.Cal P w K mg base 1 "read_number" (spW K W_read_number) []) (f : Addr) (cdv : Value) (A : Around) (outer : List Env) (s : Shared) (H : Hp) (E : XK) (hr : Room 1 (A.deeper (envOfC "read_integer" (defScope s_read_integer) s.heap.objs.size f cdv))) : PSs (cxOf CX0 P w K mg base N_read_integer "read_integer" (defScope s_read_integer) f cdv A outer s H E).nox (defBody s_read_integer) (t_read_integer K) := by
  have hu : (A.deeper (envOfC "read_integer" (defScope s_read_integer) s.heap.objs.size f cdv)).units + 64 < cLine := hr.units
  have hv : (A.deeper (envOfC "read_integer" (defScope s_read_integer) s.heap.objs.size f cdv)).units + (64 + 1) < cLine := by have := hr.un; omega
  have hu1 := Nat.lt_of_le_of_lt (Nat.add_le_add_left (by decide : 1 ≤ 64) _) hu
  exact pss_cons (ps_if (pt_cmpR (op_neU hu) (pe_slice sl_U (pv 0) (po_none) (po_some (pe_int))) (pe_str) (nomark _)) (pss_one (ps_ret (C8.pe_c c_read_number hr (by decide) (by rfl) (pa_cons (pv 0) (pa_nil))))) (pss_nil))
    (pss_cons (ps_set (i := 1) sc_read_integer.nd rfl (Or.inl rfl) (C8.pe_c c_read_number hr (by decide) (by rfl) (pa_cons (pe_slice sl_U (pv 0) (po_some (pe_int)) (po_none)) (pa_nil))))
    (pss_one (ps_ret (pe_ifExp ((pw_or (pt_cmpR op_isU (pv 1) (pe_non) (nomark _)) (pw_or1 (pt_cmpR (op_eqU hu) (pv 1) (pe_int) (nomark _)))).pt) (pe_non) (pe_un un_neg (pv 1))))))
theorem mk_read_integer {P : Program} {w : World} {K : PySem.W.Frag} {mg : Str → Option Value} {base : Heap} (C : Ctx K w mg) (c_read_number : C8.Cal P w K mg base 1 "read_number" (spW K W_read_number) []) (len : ∀ ρ0 Q, W_read_integer ρ0 Q → ρ0.length = 1) (hx : ∀ ρ0 Q, W_read_integer ρ0 Q → XS K (t_read_integer K) (ρ0 ++ List.replicate (N_read_integer.length - ρ0.length) .unk) (bodyPost ρ0 Q)) : C8.Cal P w K mg base 2 "read_integer" (spW K W_read_integer) [] :=
  fnC C.f_read_integer sc_read_integer len (fun _ _ _ _ _ _ us hl => match us, hl with | [_], _ => rfl) (fun f cdv A outer s H E hr => d_read_integer C c_read_number f cdv A outer s H E hr) hx
/-! ### read_integers -/
abbrev N_read_integers : List Str := ["words", "numbers", "word"]
theorem sc_read_integers : FnScope N_read_integers ["words"] (defScope s_read_integers) := ⟨rfl, rfl, rfl, by decide +kernel, rfl, by decide +kernel, by decide +kernel⟩
def t_read_integers (K : PySem.W.Frag) : TS :=
    tSeq (tAsg (tCB (cTupU K) (tCons (tLc (iSeqU K (tVar 0)) (gName 2) (tYes) (tCall (spW K W_read_integer) [] E0 (tCons (tVar 2) (tNil))) [2]) (tNil))) (gName 1))
    (tRet (tIf (tTest (tOp (rInU K) (tC .non) (tVar 1))) (tC .non) (tVar 1)))
theorem d_read_integers {P : Program} {w : World} {K : PySem.W.Frag} {mg : Str → Option Value} {base : Heap} (C : Ctx K w mg) (c_read_integer : C8.Cal P w K mg base 2 "read_integer" (spW K W_read_integer) []) (f : Addr) (cdv : Value) (A : Around) (outer : List Env) (s : Shared) (H : Hp) (E : XK) (hr : Room 2 (A.deeper (envOfC "read_integers" (defScope s_read_integers) s.heap.objs.size f cdv))) : PSs (cxOf CX0 P w K mg base N_read_integers "read_integers" (defScope s_read_integers) f cdv A outer s H E).nox (defBody s_read_integers) (t_read_integers K) := by
  have hu : (A.deeper (envOfC "read_integers" (defScope s_read_integers) s.heap.objs.size f cdv)).units + 64 < cLine := hr.units
  have hv : (A.deeper (envOfC "read_integers" (defScope s_read_integers) s.heap.objs.size f cdv)).units + (64 + 1) < cLine := by have := hr.un; omega
  have hu1 := Nat.lt_of_le_of_lt (Nat.add_le_add_left (by decide : 1 ≤ 64) _) hu
  exact pss_cons (ps_set (i := 1) sc_read_integers.nd rfl (Or.inl rfl) (pe_callTy call_tupU (by rfl) C.b_tuple PyProof.Rows.boot_tuple (pa_cons (pe_lc (own := [("word", 2)]) rfl sc_read_integers.nd (pi_seqU (pv 0)) (blkOk_by (own := [("word", 2)]) (N := N_read_integers) (sc := defScope s_read_integers) (by decide +kernel)) (fun _ _ _ _ _ => pg_name (i := 2) sc_read_integers.nd rfl (Or.inl rfl)) (fun _ _ _ _ _ => pts_nil) (fun _ _ _ _ _ => C8.pe_c c_read_integer hr (by decide) (by rfl) (pa_cons (pv 2) (pa_nil)))) (pa_nil))))
    (pss_one (ps_ret (pe_ifExp (pt_cmpR op_inU (pe_non) (pv 1) (by rfl)) (pe_non) (pv 1))))
theorem mk_read_integers {P : Program} {w : World} {K : PySem.W.Frag} {mg : Str → Option Value} {base : Heap} (C : Ctx K w mg) (c_read_integer : C8.Cal P w K mg base 2 "read_integer" (spW K W_read_integer) []) (len : ∀ ρ0 Q, W_read_integers ρ0 Q → ρ0.length = 1) (hx : ∀ ρ0 Q, W_read_integers ρ0 Q → XS K (t_read_integers K) (ρ0 ++ List.replicate (N_read_integers.length - ρ0.length) .unk) (bodyPost ρ0 Q)) : C8.Cal P w K mg base 3 "read_integers" (spW K W_read_integers) [] :=
  fnC C.f_read_integers sc_read_integers len (fun _ _ _ _ _ _ us hl => match us, hl with | [_], _ => rfl) (fun f cdv A outer s H E hr => d_read_integers C c_read_integer f cdv A outer s H E hr) hx
/-! ### read_unit_row -/
abbrev N_read_unit_row : List Str := ["words", "numbers"]
theorem sc_read_unit_row : FnScope N_read_unit_row ["words"] (defScope s_read_unit_row) := ⟨rfl, rfl, rfl, by decide +kernel, rfl, by decide +kernel, by decide +kernel⟩
def t_read_unit_row (K : PySem.W.Frag) : TS :=
    tSeq (tAsg (tCall (spW K W_read_integers) [] E0 (tCons (tSl (rSlU K) (tVar 0) (tPart (tC (.int 1))) (tNoPart)) (tNil))) (gName 1))
    (tSeq (tIfS (tOr (tTest (tOp (rNeU K) (tOp (rIx K) (tVar 0) (tC (.int 0))) (tC (.str "unit")))) (tOr (tTest (tOp rIsU (tVar 1) (tC .non))) (tOr (tTest (tOp (rEqU K) (tCB (cLenU K) (tCons (tVar 1) (tNil))) (tC (.int 0)))) (tTest (tOp rLtU (tOp (rIx K) (tVar 1) (tC (.int 0))) (tC (.int 1))))))) (tRet (tC .non)) (tNext))
    (tRet (tTup (tCons (tOp (rIx K) (tVar 1) (tC (.int 0))) (tCons (tSl (rSlU K) (tVar 1) (tPart (tC (.int 1))) (tNoPart)) (tNil))))))
theorem d_read_unit_row {P : Program} {w : World} {K : PySem.W.Frag} {mg : Str → Option Value} {base : Heap} (C : Ctx K w mg) (c_read_integers : C8.Cal P w K mg base 3 "read_integers" (spW K W_read_integers) []) (f : Addr) (cdv : Value) (A : Around) (outer : List Env) (s : Shared) (H : Hp) (E : XK) (hr : Room 3 (A.deeper (envOfC "read_unit_row" (defScope s_read_unit_row) s.heap.objs.size f cdv))) : PSs (cxOf CX0 P w K mg base N_read_unit_row "read_unit_row" (defScope s_read_unit_row) f cdv A outer s H E).nox (defBody s_read_unit_row) (t_read_unit_row K) := by
  have hu : (A.deeper (envOfC "read_unit_row" (defScope s_read_unit_row) s.heap.objs.size f cdv)).units + 64 < cLine := hr.units
  have hv : (A.deeper (envOfC "read_unit_row" (defScope s_read_unit_row) s.heap.objs.size f cdv)).units + (64 + 1) < cLine := by have := hr.un; omega
  have hu1 := Nat.lt_of_le_of_lt (Nat.add_le_add_left (by decide : 1 ≤ 64) _) hu
  exact pss_cons (ps_set (i := 1) sc_read_unit_row.nd rfl (Or.inl rfl) (C8.pe_c c_read_integers hr (by decide) (by rfl) (pa_cons (pe_slice sl_U (pv 0) (po_some (pe_int)) (po_none)) (pa_nil))))
    (pss_cons (ps_if ((pw_or (pt_cmpR (op_neU hu) (pe_ix ix_seq (pv 0) (pe_int) (fun _ _ => rfl)) (pe_str) (nomark _)) (pw_or (pt_cmpR op_isU (pv 1) (pe_non) (nomark _)) (pw_or (pt_cmpR (op_eqU hu) (pe_callB call_lenU (by rfl) C.b_len PySem.boot_len (pa_cons (pv 1) (pa_nil))) (pe_int) (nomark _)) (pw_or1 (pt_cmpR op_ltU (pe_ix ix_seq (pv 1) (pe_int) (fun _ _ => rfl)) (pe_int) (nomark _)))))).pt) (pss_one (ps_ret (pe_non))) (pss_nil))
    (pss_one (ps_ret (pe_tup (pa_cons (pe_ix ix_seq (pv 1) (pe_int) (fun _ _ => rfl)) (pa_cons (pe_slice sl_U (pv 1) (po_some (pe_int)) (po_none)) (pa_nil)))))))
theorem mk_read_unit_row {P : Program} {w : World} {K : PySem.W.Frag} {mg : Str → Option Value} {base : Heap} (C : Ctx K w mg) (c_read_integers : C8.Cal P w K mg base 3 "read_integers" (spW K W_read_integers) []) (len : ∀ ρ0 Q, W_read_unit_row ρ0 Q → ρ0.length = 1) (hx : ∀ ρ0 Q, W_read_unit_row ρ0 Q → XS K (t_read_unit_row K) (ρ0 ++ List.replicate (N_read_unit_row.length - ρ0.length) .unk) (bodyPost ρ0 Q)) : C8.Cal P w K mg base 4 "read_unit_row" (spW K W_read_unit_row) [] :=
  fnC C.f_read_unit_row sc_read_unit_row len (fun _ _ _ _ _ _ us hl => match us, hl with | [_], _ => rfl) (fun f cdv A outer s H E hr => d_read_unit_row C c_read_integers f cdv A outer s H E hr) hx
/-! ### read_pair_row -/
abbrev N_read_pair_row : List Str := ["words", "numbers", "at"]
theorem sc_read_pair_row : FnScope N_read_pair_row ["words"] (defScope s_read_pair_row) := ⟨rfl, rfl, rfl, by decide +kernel, rfl, by decide +kernel, by decide +kernel⟩
def t_read_pair_row (K : PySem.W.Frag) : TS :=
    tSeq (tIfS (tOr (tTest (tOp (rNeU K) (tOp (rIx K) (tVar 0) (tC (.int 0))) (tC (.str "pair")))) (tOr (tTest (tOp (rNinU K) (tCB (cLenU K) (tCons (tVar 0) (tNil))) (tC (.ref (He.ga K "PAIR_SIZES"))))) (tTest (tOp (rNeU K) (tOp (rIx K) (tVar 0) (tUn (rU fun i => .int (-i)) (tC (.int 2)))) (tC (.str "at")))))) (tRet (tC .non)) (tNext))
    (tSeq (tAsg (tCall (spW K W_read_integers) [] E0 (tCons (tOp (rAddU K) (tSl (rSlU K) (tVar 0) (tPart (tC (.int 1))) (tPart (tUn (rU fun i => .int (-i)) (tC (.int 2))))) (tSl (rSlU K) (tVar 0) (tPart (tUn (rU fun i => .int (-i)) (tC (.int 1)))) (tNoPart))) (tNil))) (gName 1))
    (tSeq (tIfS (tTest (tOp rIsU (tVar 1) (tC .non))) (tRet (tC .non)) (tNext))
    (tRet (tTup (tCons (tCB (cTupU K) (tCons (tLc (iRng3 (tCons (tC (.int 0)) (tCons (tOp rSubU (tCB (cLenU K) (tCons (tVar 1) (tNil))) (tC (.int 1))) (tCons (tC (.int 2)) (tNil))))) (gName 2) (tYes) (tSl (rSlU K) (tVar 1) (tPart (tVar 2)) (tPart (tOp (rAddU K) (tVar 2) (tC (.int 2))))) [2]) (tNil))) (tCons (tOp (rIx K) (tVar 1) (tUn (rU fun i => .int (-i)) (tC (.int 1)))) (tNil)))))))
theorem d_read_pair_row {P : Program} {w : World} {K : PySem.W.Frag} {mg : Str → Option Value} {base : Heap} (C : Ctx K w mg) (c_read_integers : C8.Cal P w K mg base 3 "read_integers" (spW K W_read_integers) []) (f : Addr) (cdv : Value) (A : Around) (outer : List Env) (s : Shared) (H : Hp) (E : XK) (hr : Room 3 (A.deeper (envOfC "read_pair_row" (defScope s_read_pair_row) s.heap.objs.size f cdv))) : PSs (cxOf CX0 P w K mg base N_read_pair_row "read_pair_row" (defScope s_read_pair_row) f cdv A outer s H E).nox (defBody s_read_pair_row) (t_read_pair_row K) := by
  have hu : (A.deeper (envOfC "read_pair_row" (defScope s_read_pair_row) s.heap.objs.size f cdv)).units + 64 < cLine := hr.units
  have hv : (A.deeper (envOfC "read_pair_row" (defScope s_read_pair_row) s.heap.objs.size f cdv)).units + (64 + 1) < cLine := by have := hr.un; omega
  have hu1 := Nat.lt_of_le_of_lt (Nat.add_le_add_left (by decide : 1 ≤ 64) _) hu
  exact pss_cons (ps_if ((pw_or (pt_cmpR (op_neU hu) (pe_ix ix_seq (pv 0) (pe_int) (fun _ _ => rfl)) (pe_str) (nomark _)) (pw_or (pt_cmpR op_ninU (pe_callB call_lenU (by rfl) C.b_len PySem.boot_len (pa_cons (pv 0) (pa_nil))) (C8.pe_gc (by rfl) C.g_PAIR_SIZES) (by rfl)) (pw_or1 (pt_cmpR (op_neU hu) (pe_ix ix_seq (pv 0) (pe_un un_neg (pe_int)) (fun _ _ => rfl)) (pe_str) (nomark _))))).pt) (pss_one (ps_ret (pe_non))) (pss_nil))
    (pss_cons (ps_set (i := 1) sc_read_pair_row.nd rfl (Or.inr rfl) (C8.pe_c c_read_integers hr (by decide) (by rfl) (pa_cons (pe_op op_addU (pe_slice sl_U (pv 0) (po_some (pe_int)) (po_some (pe_un un_neg (pe_int)))) (pe_slice sl_U (pv 0) (po_some (pe_un un_neg (pe_int))) (po_none))) (pa_nil))))
    (pss_cons (ps_if (pt_cmpR op_isU (pv 1) (pe_non) (nomark _)) (pss_one (ps_ret (pe_non))) (pss_nil))
    (pss_one (ps_ret (pe_tup (pa_cons (pe_callTy call_tupU (by rfl) C.b_tuple PyProof.Rows.boot_tuple (pa_cons (pe_lc (own := [("at", 2)]) rfl sc_read_pair_row.nd (pi_range3 (by rfl) C.b_range (pa_cons (pe_int) (pa_cons (pe_op op_subU (pe_callB call_lenU (by rfl) C.b_len PySem.boot_len (pa_cons (pv 1) (pa_nil))) (pe_int)) (pa_cons (pe_int) (pa_nil))))) (blkOk_by (own := [("at", 2)]) (N := N_read_pair_row) (sc := defScope s_read_pair_row) (by decide +kernel)) (fun _ _ _ _ _ => pg_name (i := 2) sc_read_pair_row.nd rfl (Or.inl rfl)) (fun _ _ _ _ _ => pts_nil) (fun _ _ _ _ _ => pe_slice sl_U (pv 1) (po_some (pv 2)) (po_some (pe_op op_addU (pv 2) (pe_int))))) (pa_nil))) (pa_cons (pe_ix ix_seq (pv 1) (pe_un un_neg (pe_int)) (fun _ _ => rfl)) (pa_nil))))))))
theorem mk_read_pair_row {P : Program} {w : World} {K : PySem.W.Frag} {mg : Str → Option Value} {base : Heap} (C : Ctx K w mg) (c_read_integers : C8.Cal P w K mg base 3 "read_integers" (spW K W_read_integers) []) (len : ∀ ρ0 Q, W_read_pair_row ρ0 Q → ρ0.length = 1) (hx : ∀ ρ0 Q, W_read_pair_row ρ0 Q → XS K (t_read_pair_row K) (ρ0 ++ List.replicate (N_read_pair_row.length - ρ0.length) .unk) (bodyPost ρ0 Q)) : C8.Cal P w K mg base 4 "read_pair_row" (spW K W_read_pair_row) [] :=
  fnC C.f_read_pair_row sc_read_pair_row len (fun _ _ _ _ _ _ us hl => match us, hl with | [_], _ => rfl) (fun f cdv A outer s H E hr => d_read_pair_row C c_read_integers f cdv A outer s H E hr) hx
/-! ### read_told -/
abbrev N_read_told : List Str := ["words", "numbers"]
theorem sc_read_told : FnScope N_read_told ["words"] (defScope s_read_told) := ⟨rfl, rfl, rfl, by decide +kernel, rfl, by decide +kernel, by decide +kernel⟩
def t_read_told (K : PySem.W.Frag) : TS :=
    tSeq (tIfS (tOr (tTest (tOp (rEqU K) (tCB (cLenU K) (tCons (tVar 0) (tNil))) (tC (.int 0)))) (tTest (tOp (rNeU K) (tKGet K (He.ga K "TOLD_SIZES") (tOp (rIx K) (tVar 0) (tC (.int 0)))) (tCB (cLenU K) (tCons (tVar 0) (tNil)))))) (tRet (tC .non)) (tNext))
    (tSeq (tAsg (tCall (spW K W_read_integers) [] E0 (tCons (tSl (rSlU K) (tVar 0) (tPart (tC (.int 1))) (tNoPart)) (tNil))) (gName 1))
    (tRet (tIf (tTest (tOp rIsU (tVar 1) (tC .non))) (tC .non) (tOp (rAddU K) (tTup (tCons (tOp (rIx K) (tVar 0) (tC (.int 0))) (tNil))) (tVar 1)))))
theorem d_read_told {P : Program} {w : World} {K : PySem.W.Frag} {mg : Str → Option Value} {base : Heap} (C : Ctx K w mg) (c_read_integers : C8.Cal P w K mg base 3 "read_integers" (spW K W_read_integers) []) (f : Addr) (cdv : Value) (A : Around) (outer : List Env) (s : Shared) (H : Hp) (E : XK) (hr : Room 3 (A.deeper (envOfC "read_told" (defScope s_read_told) s.heap.objs.size f cdv))) : PSs (cxOf CX0 P w K mg base N_read_told "read_told" (defScope s_read_told) f cdv A outer s H E).nox (defBody s_read_told) (t_read_told K) := by
  have hu : (A.deeper (envOfC "read_told" (defScope s_read_told) s.heap.objs.size f cdv)).units + 64 < cLine := hr.units
  have hv : (A.deeper (envOfC "read_told" (defScope s_read_told) s.heap.objs.size f cdv)).units + (64 + 1) < cLine := by have := hr.un; omega
  have hu1 := Nat.lt_of_le_of_lt (Nat.add_le_add_left (by decide : 1 ≤ 64) _) hu
  exact pss_cons (ps_if ((pw_or (pt_cmpR (op_eqU hu) (pe_callB call_lenU (by rfl) C.b_len PySem.boot_len (pa_cons (pv 0) (pa_nil))) (pe_int) (nomark _)) (pw_or1 (pt_cmpR (op_neU hu) (pe_kget C.d_TOLD_SIZES (C8.pe_gc (by rfl) C.g_TOLD_SIZES) (pe_ix ix_seq (pv 0) (pe_int) (fun _ _ => rfl)) ⟨rfl, rfl, rfl, rfl⟩) (pe_callB call_lenU (by rfl) C.b_len PySem.boot_len (pa_cons (pv 0) (pa_nil))) (nomark _)))).pt) (pss_one (ps_ret (pe_non))) (pss_nil))
    (pss_cons (ps_set (i := 1) sc_read_told.nd rfl (Or.inl rfl) (C8.pe_c c_read_integers hr (by decide) (by rfl) (pa_cons (pe_slice sl_U (pv 0) (po_some (pe_int)) (po_none)) (pa_nil))))
    (pss_one (ps_ret (pe_ifExp (pt_cmpR op_isU (pv 1) (pe_non) (nomark _)) (pe_non) (pe_op op_addU (pe_tup (pa_cons (pe_ix ix_seq (pv 0) (pe_int) (fun _ _ => rfl)) (pa_nil))) (pv 1))))))
theorem mk_read_told {P : Program} {w : World} {K : PySem.W.Frag} {mg : Str → Option Value} {base : Heap} (C : Ctx K w mg) (c_read_integers : C8.Cal P w K mg base 3 "read_integers" (spW K W_read_integers) []) (len : ∀ ρ0 Q, W_read_told ρ0 Q → ρ0.length = 1) (hx : ∀ ρ0 Q, W_read_told ρ0 Q → XS K (t_read_told K) (ρ0 ++ List.replicate (N_read_told.length - ρ0.length) .unk) (bodyPost ρ0 Q)) : C8.Cal P w K mg base 4 "read_told" (spW K W_read_told) [] :=
  fnC C.f_read_told sc_read_told len (fun _ _ _ _ _ _ us hl => match us, hl with | [_], _ => rfl) (fun f cdv A outer s H E hr => d_read_told C c_read_integers f cdv A outer s H E hr) hx
/-! ### read_first_row -/
abbrev N_read_first_row : List Str := ["words", "spot", "told"]
theorem sc_read_first_row : FnScope N_read_first_row ["words"] (defScope s_read_first_row) := ⟨rfl, rfl, rfl, by decide +kernel, rfl, by decide +kernel, by decide +kernel⟩
def t_read_first_row (K : PySem.W.Frag) : TS :=
    tSeq (tAsg (tCall (spW K W_read_integers) [] E0 (tCons (tSl (rSlU K) (tVar 0) (tPart (tC (.int 1))) (tPart (tC (.int 3)))) (tNil))) (gName 1))
    (tSeq (tAsg (tCall (spW K W_read_told) [] E0 (tCons (tSl (rSlU K) (tVar 0) (tPart (tC (.int 3))) (tNoPart)) (tNil))) (gName 2))
    (tRet (tIf (tOr (tTest (tOp rIsU (tVar 1) (tC .non))) (tTest (tOp rIsU (tVar 2) (tC .non)))) (tC .non) (tTup (tCons (tVar 1) (tCons (tVar 2) (tNil)))))))
theorem d_read_first_row {P : Program} {w : World} {K : PySem.W.Frag} {mg : Str → Option Value} {base : Heap} (C : Ctx K w mg) (c_read_told : C8.Cal P w K mg base 4 "read_told" (spW K W_read_told) []) (c_read_integers : C8.Cal P w K mg base 3 "read_integers" (spW K W_read_integers) []) (f : Addr) (cdv : Value) (A : Around) (outer : List Env) (s : Shared) (H : Hp) (E : XK) (hr : Room 4 (A.deeper (envOfC "read_first_row" (defScope s_read_first_row) s.heap.objs.size f cdv))) : PSs (cxOf CX0 P w K mg base N_read_first_row "read_first_row" (defScope s_read_first_row) f cdv A outer s H E).nox (defBody s_read_first_row) (t_read_first_row K) := by
  have hu : (A.deeper (envOfC "read_first_row" (defScope s_read_first_row) s.heap.objs.size f cdv)).units + 64 < cLine := hr.units
  have hv : (A.deeper (envOfC "read_first_row" (defScope s_read_first_row) s.heap.objs.size f cdv)).units + (64 + 1) < cLine := by have := hr.un; omega
  have hu1 := Nat.lt_of_le_of_lt (Nat.add_le_add_left (by decide : 1 ≤ 64) _) hu
  exact pss_cons (ps_set (i := 1) sc_read_first_row.nd rfl (Or.inl rfl) (C8.pe_c c_read_integers hr (by decide) (by rfl) (pa_cons (pe_slice sl_U (pv 0) (po_some (pe_int)) (po_some (pe_int))) (pa_nil))))
    (pss_cons (ps_set (i := 2) sc_read_first_row.nd rfl (Or.inl rfl) (C8.pe_c c_read_told hr (by decide) (by rfl) (pa_cons (pe_slice sl_U (pv 0) (po_some (pe_int)) (po_none)) (pa_nil))))
    (pss_one (ps_ret (pe_ifExp ((pw_or (pt_cmpR op_isU (pv 1) (pe_non) (nomark _)) (pw_or1 (pt_cmpR op_isU (pv 2) (pe_non) (nomark _)))).pt) (pe_non) (pe_tup (pa_cons (pv 1) (pa_cons (pv 2) (pa_nil))))))))
theorem mk_read_first_row {P : Program} {w : World} {K : PySem.W.Frag} {mg : Str → Option Value} {base : Heap} (C : Ctx K w mg) (c_read_told : C8.Cal P w K mg base 4 "read_told" (spW K W_read_told) []) (c_read_integers : C8.Cal P w K mg base 3 "read_integers" (spW K W_read_integers) []) (len : ∀ ρ0 Q, W_read_first_row ρ0 Q → ρ0.length = 1) (hx : ∀ ρ0 Q, W_read_first_row ρ0 Q → XS K (t_read_first_row K) (ρ0 ++ List.replicate (N_read_first_row.length - ρ0.length) .unk) (bodyPost ρ0 Q)) : C8.Cal P w K mg base 5 "read_first_row" (spW K W_read_first_row) [] :=
  fnC C.f_read_first_row sc_read_first_row len (fun _ _ _ _ _ _ us hl => match us, hl with | [_], _ => rfl) (fun f cdv A outer s H E hr => d_read_first_row C c_read_told c_read_integers f cdv A outer s H E hr) hx
/-! ### read_second_row -/
abbrev N_read_second_row : List Str := ["words", "number", "told"]
theorem sc_read_second_row : FnScope N_read_second_row ["words"] (defScope s_read_second_row) := ⟨rfl, rfl, rfl, by decide +kernel, rfl, by decide +kernel, by decide +kernel⟩
def t_read_second_row (K : PySem.W.Frag) : TS :=
    tSeq (tAsg (tCall (spW K W_read_integers) [] E0 (tCons (tSl (rSlU K) (tVar 0) (tPart (tC (.int 1))) (tPart (tC (.int 2)))) (tNil))) (gName 1))
    (tSeq (tAsg (tCall (spW K W_read_told) [] E0 (tCons (tSl (rSlU K) (tVar 0) (tPart (tC (.int 2))) (tNoPart)) (tNil))) (gName 2))
    (tRet (tIf (tOr (tTest (tOp rIsU (tVar 1) (tC .non))) (tTest (tOp rIsU (tVar 2) (tC .non)))) (tC .non) (tOp (rAddU K) (tVar 1) (tTup (tCons (tVar 2) (tNil)))))))
theorem d_read_second_row {P : Program} {w : World} {K : PySem.W.Frag} {mg : Str → Option Value} {base : Heap} (C : Ctx K w mg) (c_read_told : C8.Cal P w K mg base 4 "read_told" (spW K W_read_told) []) (c_read_integers : C8.Cal P w K mg base 3 "read_integers" (spW K W_read_integers) []) (f : Addr) (cdv : Value) (A : Around) (outer : List Env) (s : Shared) (H : Hp) (E : XK) (hr : Room 4 (A.deeper (envOfC "read_second_row" (defScope s_read_second_row) s.heap.objs.size f cdv))) : PSs (cxOf CX0 P w K mg base N_read_second_row "read_second_row" (defScope s_read_second_row) f cdv A outer s H E).nox (defBody s_read_second_row) (t_read_second_row K) := by
  have hu : (A.deeper (envOfC "read_second_row" (defScope s_read_second_row) s.heap.objs.size f cdv)).units + 64 < cLine := hr.units
  have hv : (A.deeper (envOfC "read_second_row" (defScope s_read_second_row) s.heap.objs.size f cdv)).units + (64 + 1) < cLine := by have := hr.un; omega
  have hu1 := Nat.lt_of_le_of_lt (Nat.add_le_add_left (by decide : 1 ≤ 64) _) hu
  exact pss_cons (ps_set (i := 1) sc_read_second_row.nd rfl (Or.inl rfl) (C8.pe_c c_read_integers hr (by decide) (by rfl) (pa_cons (pe_slice sl_U (pv 0) (po_some (pe_int)) (po_some (pe_int))) (pa_nil))))
    (pss_cons (ps_set (i := 2) sc_read_second_row.nd rfl (Or.inl rfl) (C8.pe_c c_read_told hr (by decide) (by rfl) (pa_cons (pe_slice sl_U (pv 0) (po_some (pe_int)) (po_none)) (pa_nil))))
    (pss_one (ps_ret (pe_ifExp ((pw_or (pt_cmpR op_isU (pv 1) (pe_non) (nomark _)) (pw_or1 (pt_cmpR op_isU (pv 2) (pe_non) (nomark _)))).pt) (pe_non) (pe_op op_addU (pv 1) (pe_tup (pa_cons (pv 2) (pa_nil))))))))
theorem mk_read_second_row {P : Program} {w : World} {K : PySem.W.Frag} {mg : Str → Option Value} {base : Heap} (C : Ctx K w mg) (c_read_told : C8.Cal P w K mg base 4 "read_told" (spW K W_read_told) []) (c_read_integers : C8.Cal P w K mg base 3 "read_integers" (spW K W_read_integers) []) (len : ∀ ρ0 Q, W_read_second_row ρ0 Q → ρ0.length = 1) (hx : ∀ ρ0 Q, W_read_second_row ρ0 Q → XS K (t_read_second_row K) (ρ0 ++ List.replicate (N_read_second_row.length - ρ0.length) .unk) (bodyPost ρ0 Q)) : C8.Cal P w K mg base 5 "read_second_row" (spW K W_read_second_row) [] :=
  fnC C.f_read_second_row sc_read_second_row len (fun _ _ _ _ _ _ us hl => match us, hl with | [_], _ => rfl) (fun f cdv A outer s H E hr => d_read_second_row C c_read_told c_read_integers f cdv A outer s H E hr) hx
/-! ### _law_pool -/
abbrev N__law_pool : List Str := ["script", "cell"]
theorem sc__law_pool : FnScope N__law_pool ["script"] (defScope s__law_pool) := ⟨rfl, rfl, rfl, by decide +kernel, rfl, by decide +kernel, by decide +kernel⟩
def t__law_pool (K : PySem.W.Frag) : TS :=
    tRet (tLst (tCons (tLc (iSeqU K (tSl (rSlU K) (tVar 0) (tNoPart) (tPart (tC (.int 63))))) (gName 1) (tYes) (tOp rModU (tCB cIntU (tCons (tVar 1) (tNil))) (tOp rPowU (tC (.int 10)) (tC (.int 60)))) [1]) (tCons (tC (.int 0)) (tCons (tC (.int 0)) (tCons (tC (.int 20011)) (tNil))))))
theorem d__law_pool {P : Program} {w : World} {K : PySem.W.Frag} {mg : Str → Option Value} {base : Heap} (C : Ctx K w mg)  (f : Addr) (cdv : Value) (A : Around) (outer : List Env) (s : Shared) (H : Hp) (E : XK) (hr : Room 0 (A.deeper (envOfC "_law_pool" (defScope s__law_pool) s.heap.objs.size f cdv))) : PSs (cxOf CX0 P w K mg base N__law_pool "_law_pool" (defScope s__law_pool) f cdv A outer s H E).nox (defBody s__law_pool) (t__law_pool K) := by
  have hu : (A.deeper (envOfC "_law_pool" (defScope s__law_pool) s.heap.objs.size f cdv)).units + 64 < cLine := hr.units
  have hv : (A.deeper (envOfC "_law_pool" (defScope s__law_pool) s.heap.objs.size f cdv)).units + (64 + 1) < cLine := by have := hr.un; omega
  have hu1 := Nat.lt_of_le_of_lt (Nat.add_le_add_left (by decide : 1 ≤ 64) _) hu
  exact pss_one (ps_ret (pe_lst (pa_cons (pe_lc (own := [("cell", 1)]) rfl sc__law_pool.nd (pi_seqU (pe_slice sl_U (pv 0) (po_none) (po_some (pe_int)))) (blkOk_by (own := [("cell", 1)]) (N := N__law_pool) (sc := defScope s__law_pool) (by decide +kernel)) (fun _ _ _ _ _ => pg_name (i := 1) sc__law_pool.nd rfl (Or.inl rfl)) (fun _ _ _ _ _ => pts_nil) (fun _ _ _ _ _ => pe_op op_modU (pe_callTy call_intU (by rfl) C.b_int PyProof.Rows.boot_int (pa_cons (pv 1) (pa_nil))) (pe_op op_powU (pe_int) (pe_int)))) (pa_cons (pe_int) (pa_cons (pe_int) (pa_cons (pe_int) (pa_nil)))))))
theorem mk__law_pool {P : Program} {w : World} {K : PySem.W.Frag} {mg : Str → Option Value} {base : Heap} (C : Ctx K w mg)  (len : ∀ ρ0 Q, W__law_pool ρ0 Q → ρ0.length = 1) (hx : ∀ ρ0 Q, W__law_pool ρ0 Q → XS K (t__law_pool K) (ρ0 ++ List.replicate (N__law_pool.length - ρ0.length) .unk) (bodyPost ρ0 Q)) : C8.Cal P w K mg base 1 "_law_pool" (spW K W__law_pool) [] :=
  fnC C.f__law_pool sc__law_pool len (fun _ _ _ _ _ _ us hl => match us, hl with | [_], _ => rfl) (fun f cdv A outer s H E hr => d__law_pool C  f cdv A outer s H E hr) hx
/-! ### _law_take -/
abbrev N__law_take : List Str := ["pool", "many", "cell", "told"]
theorem sc__law_take : FnScope N__law_take ["pool", "many"] (defScope s__law_take) := ⟨rfl, rfl, rfl, by decide +kernel, rfl, by decide +kernel, by decide +kernel⟩
def t__law_take (K : PySem.W.Frag) : TS :=
    tSeq (tIfS (tAnd (tTest (tOp (rEqU K) (tOp (rIx K) (tVar 0) (tC (.int 2))) (tC (.int 0)))) (tTest (tOp rLtU (tOp (rIx K) (tVar 0) (tC (.int 1))) (tCB (cLenU K) (tCons (tOp (rIx K) (tVar 0) (tC (.int 0))) (tNil)))))) (tSeq (tAsg (tOp (rIx K) (tOp (rIx K) (tVar 0) (tC (.int 0))) (tOp (rIx K) (tVar 0) (tC (.int 1)))) (gName 2))
    (tSeq (tAsg (tOp (rAddU K) (tOp (rIx K) (tVar 0) (tC (.int 1))) (tC (.int 1))) (gSub (tVar 0) (tC (.int 1)) rSetL))
    (tIfS (tTest (tOp rGeU (tVar 2) (tOp rPowU (tC (.int 10)) (tC (.int 18))))) (tAsg (tVar 2) (gSub (tVar 0) (tC (.int 2)) rSetL)) (tAsg (tOp rModU (tCB cIntU (tCons (tOp (rAddU K) (tOp (rAddU K) (tOp rMulU (tOp (rIx K) (tVar 0) (tC (.int 3))) (tC (.int 48271))) (tOp rMulU (tVar 2) (tC (.int 69621)))) (tC (.int 11))) (tNil))) (tC (.int 2147483647))) (gSub (tVar 0) (tC (.int 3)) rSetL))))) (tNext))
    (tSeq (tIfS (tTest (tOp rGtU (tOp (rIx K) (tVar 0) (tC (.int 2))) (tC (.int 0)))) (tSeq (tAsg (tOp rModU (tCB cIntU (tCons (tOp (rIx K) (tVar 0) (tC (.int 2))) (tNil))) (tVar 1)) (gName 3))
    (tSeq (tAsg (tOp rDivU (tOp (rIx K) (tVar 0) (tC (.int 2))) (tVar 1)) (gSub (tVar 0) (tC (.int 2)) rSetL))
    (tRet (tVar 3)))) (tNext))
    (tSeq (tAsg (tOp rModU (tCB cIntU (tCons (tOp (rAddU K) (tOp rMulU (tOp (rIx K) (tVar 0) (tC (.int 3))) (tC (.int 16807))) (tC (.int 12345))) (tNil))) (tC (.int 2147483647))) (gSub (tVar 0) (tC (.int 3)) rSetL))
    (tRet (tOp rModU (tOp rModU (tCB cIntU (tCons (tOp (rAddU K) (tOp rMulU (tOp rDivU (tOp (rIx K) (tVar 0) (tC (.int 3))) (tC (.int 127))) (tC (.int 48271))) (tC (.int 7))) (tNil))) (tC (.int 1000003))) (tVar 1)))))
theorem d__law_take {P : Program} {w : World} {K : PySem.W.Frag} {mg : Str → Option Value} {base : Heap} (C : Ctx K w mg)  (f : Addr) (cdv : Value) (A : Around) (outer : List Env) (s : Shared) (H : Hp) (E : XK) (hr : Room 0 (A.deeper (envOfC "_law_take" (defScope s__law_take) s.heap.objs.size f cdv))) : PSs (cxOf CX0 P w K mg base N__law_take "_law_take" (defScope s__law_take) f cdv A outer s H E).nox (defBody s__law_take) (t__law_take K) := by
  have hu : (A.deeper (envOfC "_law_take" (defScope s__law_take) s.heap.objs.size f cdv)).units + 64 < cLine := hr.units
  have hv : (A.deeper (envOfC "_law_take" (defScope s__law_take) s.heap.objs.size f cdv)).units + (64 + 1) < cLine := by have := hr.un; omega
  have hu1 := Nat.lt_of_le_of_lt (Nat.add_le_add_left (by decide : 1 ≤ 64) _) hu
  exact pss_cons (ps_if ((pw_and (pt_cmpR (op_eqU hu) (pe_ix ix_seq (pv 0) (pe_int) (fun _ _ => rfl)) (pe_int) (nomark _)) (pw_and1 (pt_cmpR op_ltU (pe_ix ix_seq (pv 0) (pe_int) (fun _ _ => rfl)) (pe_callB call_lenU (by rfl) C.b_len PySem.boot_len (pa_cons (pe_ix ix_seq (pv 0) (pe_int) (fun _ _ => rfl)) (pa_nil))) (nomark _)))).pt) (pss_cons (ps_set (i := 2) sc__law_take.nd rfl (Or.inl rfl) (pe_ix ix_seq (pe_ix ix_seq (pv 0) (pe_int) (fun _ _ => rfl)) (pe_ix ix_seq (pv 0) (pe_int) (fun _ _ => rfl)) (fun _ _ => rfl)))
    (pss_cons (ps_asg (pe_op op_addU (pe_ix ix_seq (pv 0) (pe_int) (fun _ _ => rfl)) (pe_int)) (pg_sub (pv 0) (pe_int) set_list))
    (pss_one (ps_if (pt_cmpR op_geU (pv 2) (pe_op op_powU (pe_int) (pe_int)) (nomark _)) (pss_one (ps_asg (pv 2) (pg_sub (pv 0) (pe_int) set_list))) (pss_one (ps_asg (pe_op op_modU (pe_callTy call_intU (by rfl) C.b_int PyProof.Rows.boot_int (pa_cons (pe_op op_addU (pe_op op_addU (pe_op op_mulU (pe_ix ix_seq (pv 0) (pe_int) (fun _ _ => rfl)) (pe_int)) (pe_op op_mulU (pv 2) (pe_int))) (pe_int)) (pa_nil))) (pe_int)) (pg_sub (pv 0) (pe_int) set_list))))))) (pss_nil))
    (pss_cons (ps_if (pt_cmpR op_gtU (pe_ix ix_seq (pv 0) (pe_int) (fun _ _ => rfl)) (pe_int) (nomark _)) (pss_cons (ps_set (i := 3) sc__law_take.nd rfl (Or.inl rfl) (pe_op op_modU (pe_callTy call_intU (by rfl) C.b_int PyProof.Rows.boot_int (pa_cons (pe_ix ix_seq (pv 0) (pe_int) (fun _ _ => rfl)) (pa_nil))) (pv 1)))
    (pss_cons (ps_asg (pe_op op_divU (pe_ix ix_seq (pv 0) (pe_int) (fun _ _ => rfl)) (pv 1)) (pg_sub (pv 0) (pe_int) set_list))
    (pss_one (ps_ret (pv 3))))) (pss_nil))
    (pss_cons (ps_asg (pe_op op_modU (pe_callTy call_intU (by rfl) C.b_int PyProof.Rows.boot_int (pa_cons (pe_op op_addU (pe_op op_mulU (pe_ix ix_seq (pv 0) (pe_int) (fun _ _ => rfl)) (pe_int)) (pe_int)) (pa_nil))) (pe_int)) (pg_sub (pv 0) (pe_int) set_list))
    (pss_one (ps_ret (pe_op op_modU (pe_op op_modU (pe_callTy call_intU (by rfl) C.b_int PyProof.Rows.boot_int (pa_cons (pe_op op_addU (pe_op op_mulU (pe_op op_divU (pe_ix ix_seq (pv 0) (pe_int) (fun _ _ => rfl)) (pe_int)) (pe_int)) (pe_int)) (pa_nil))) (pe_int)) (pv 1))))))
theorem mk__law_take {P : Program} {w : World} {K : PySem.W.Frag} {mg : Str → Option Value} {base : Heap} (C : Ctx K w mg)  (len : ∀ ρ0 Q, W__law_take ρ0 Q → ρ0.length = 2) (hx : ∀ ρ0 Q, W__law_take ρ0 Q → XS K (t__law_take K) (ρ0 ++ List.replicate (N__law_take.length - ρ0.length) .unk) (bodyPost ρ0 Q)) : C8.Cal P w K mg base 1 "_law_take" (spW K W__law_take) [] :=
  fnC C.f__law_take sc__law_take len (fun _ _ _ _ _ _ us hl => match us, hl with | [_, _], _ => rfl) (fun f cdv A outer s H E hr => d__law_take C  f cdv A outer s H E hr) hx
/-! ### _law_alike -/
abbrev N__law_alike : List Str := ["told", "due"]
theorem sc__law_alike : FnScope N__law_alike ["told", "due"] (defScope s__law_alike) := ⟨rfl, rfl, rfl, by decide +kernel, rfl, by decide +kernel, by decide +kernel⟩
def t__law_alike (K : PySem.W.Frag) : TS :=
    tRet (tAndV (tOp (rEqU K) (tVar 0) (tVar 1)) (tOp (rEqU K) (tCB (cReprU K) (tCons (tVar 0) (tNil))) (tCB (cReprU K) (tCons (tVar 1) (tNil)))))
theorem d__law_alike {P : Program} {w : World} {K : PySem.W.Frag} {mg : Str → Option Value} {base : Heap} (C : Ctx K w mg)  (f : Addr) (cdv : Value) (A : Around) (outer : List Env) (s : Shared) (H : Hp) (E : XK) (ng : A.guards = some []) (hr : Room 0 (A.deeper (envOfC "_law_alike" (defScope s__law_alike) s.heap.objs.size f cdv))) : PSs (cxOf CX0 P w K mg base N__law_alike "_law_alike" (defScope s__law_alike) f cdv A outer s H E).nox (defBody s__law_alike) (t__law_alike K) := by
  have hu : (A.deeper (envOfC "_law_alike" (defScope s__law_alike) s.heap.objs.size f cdv)).units + 64 < cLine := hr.units
  have hv : (A.deeper (envOfC "_law_alike" (defScope s__law_alike) s.heap.objs.size f cdv)).units + (64 + 1) < cLine := by have := hr.un; omega
  have hu1 := Nat.lt_of_le_of_lt (Nat.add_le_add_left (by decide : 1 ≤ 64) _) hu
  exact pss_one (ps_ret (pe_and (pe_cmpR (op_eqU hu) (pv 0) (pv 1) (nomark _)) (pe_one (pe_cmpR (op_eqU hu) (pe_callB (call_reprU ng hv) (by rfl) C.b_repr PyProof.Rows.boot_repr (pa_cons (pv 0) (pa_nil))) (pe_callB (call_reprU ng hv) (by rfl) C.b_repr PyProof.Rows.boot_repr (pa_cons (pv 1) (pa_nil))) (nomark _)))))
/-! ### _law_told_row -/
abbrev N__law_told_row : List Str := ["told", "each"]
theorem sc__law_told_row : FnScope N__law_told_row ["told"] (defScope s__law_told_row) := ⟨rfl, rfl, rfl, by decide +kernel, rfl, by decide +kernel, by decide +kernel⟩
def t__law_told_row (K : PySem.W.Frag) : TS :=
    tRet (tM1 (rJoin K) (tC (.str " ")) (tOp (rAddU K) (tLst (tCons (tOp (rIx K) (tVar 0) (tC (.int 0))) (tNil))) (tLc (iSeqU K (tSl (rSlU K) (tVar 0) (tPart (tC (.int 1))) (tNoPart))) (gName 1) (tYes) (tCB cStrU (tCons (tVar 1) (tNil))) [1])))
theorem d__law_told_row {P : Program} {w : World} {K : PySem.W.Frag} {mg : Str → Option Value} {base : Heap} (C : Ctx K w mg)  (f : Addr) (cdv : Value) (A : Around) (outer : List Env) (s : Shared) (H : Hp) (E : XK) (hr : Room 0 (A.deeper (envOfC "_law_told_row" (defScope s__law_told_row) s.heap.objs.size f cdv))) : PSs (cxOf CX0 P w K mg base N__law_told_row "_law_told_row" (defScope s__law_told_row) f cdv A outer s H E).nox (defBody s__law_told_row) (t__law_told_row K) := by
  have hu : (A.deeper (envOfC "_law_told_row" (defScope s__law_told_row) s.heap.objs.size f cdv)).units + 64 < cLine := hr.units
  have hv : (A.deeper (envOfC "_law_told_row" (defScope s__law_told_row) s.heap.objs.size f cdv)).units + (64 + 1) < cLine := by have := hr.un; omega
  have hu1 := Nat.lt_of_le_of_lt (Nat.add_le_add_left (by decide : 1 ≤ 64) _) hu
  exact pss_one (ps_ret (pe_m1 PySem.F.slot_str_join PySem.F.type_str_join mt_join (pe_str) (pe_op op_addU (pe_lst (pa_cons (pe_ix ix_seq (pv 0) (pe_int) (fun _ _ => rfl)) (pa_nil))) (pe_lc (own := [("each", 1)]) rfl sc__law_told_row.nd (pi_seqU (pe_slice sl_U (pv 0) (po_some (pe_int)) (po_none))) (blkOk_by (own := [("each", 1)]) (N := N__law_told_row) (sc := defScope s__law_told_row) (by decide +kernel)) (fun _ _ _ _ _ => pg_name (i := 1) sc__law_told_row.nd rfl (Or.inl rfl)) (fun _ _ _ _ _ => pts_nil) (fun _ _ _ _ _ => pe_callTy call_strU (by rfl) C.b_str PyProof.Rows.boot_str (pa_cons (pv 1) (pa_nil)))))))
theorem mk__law_told_row {P : Program} {w : World} {K : PySem.W.Frag} {mg : Str → Option Value} {base : Heap} (C : Ctx K w mg)  (len : ∀ ρ0 Q, W__law_told_row ρ0 Q → ρ0.length = 1) (hx : ∀ ρ0 Q, W__law_told_row ρ0 Q → XS K (t__law_told_row K) (ρ0 ++ List.replicate (N__law_told_row.length - ρ0.length) .unk) (bodyPost ρ0 Q)) : C8.Cal P w K mg base 1 "_law_told_row" (spW K W__law_told_row) [] :=
  fnC C.f__law_told_row sc__law_told_row len (fun _ _ _ _ _ _ us hl => match us, hl with | [_], _ => rfl) (fun f cdv A outer s H E hr => d__law_told_row C  f cdv A outer s H E hr) hx
/-! ### _law_text -/
abbrev N__law_text : List Str := ["paper", "rows", "goes", "pairs", "stack", "stead", "firsts", "seconds", "words", "u", "row", "spot", "told", "number", "each"]
theorem sc__law_text : FnScope N__law_text ["paper"] (defScope s__law_text) := ⟨rfl, rfl, rfl, by decide +kernel, rfl, by decide +kernel, by decide +kernel⟩
def t__law_text (K : PySem.W.Frag) : TS :=
    tSeq (tAsg (tLst (tNil)) (gName 1))
    (tSeq (tFor (iSeqU K (tVar 0)) (gTup K 2 (gCons (gName 2) (gCons (gName 3) (gNil)))) (tSeq (tDrop (tBM K "list" rAppend (tVar 1) (tCons (tM1 (rJoin K) (tC (.str " ")) (tOp (rAddU K) (tLst (tCons (tC (.str "unit")) (tCons (tCB cStrU (tCons (tCB (cLenU K) (tCons (tVar 3) (tNil))) (tNil))) (tNil)))) (tLc (iSeqU K (tVar 2)) (gName 14) (tYes) (tCB cStrU (tCons (tVar 14) (tNil))) [14]))) (tNil))))
    (tFor (iSeqU K (tVar 3)) (gTup K 4 (gCons (gName 4) (gCons (gName 5) (gCons (gName 6) (gCons (gName 7) (gNil)))))) (tSeq (tAsg (tLst (tCons (tC (.str "pair")) (tNil))) (gName 8))
    (tSeq (tFor (iSeqU K (tVar 4)) (gTup K 2 (gCons (gName 9) (gCons (gName 10) (gNil)))) (tAsg (tOp (rAddU K) (tVar 8) (tLst (tCons (tCB cStrU (tCons (tVar 9) (tNil))) (tCons (tCB cStrU (tCons (tVar 10) (tNil))) (tNil))))) (gName 8)))
    (tSeq (tDrop (tBM K "list" rAppend (tVar 1) (tCons (tM1 (rJoin K) (tC (.str " ")) (tOp (rAddU K) (tVar 8) (tLst (tCons (tC (.str "at")) (tCons (tCB cStrU (tCons (tVar 5) (tNil))) (tNil)))))) (tNil))))
    (tSeq (tFor (iSeqU K (tVar 6)) (gTup K 2 (gCons (gName 11) (gCons (gName 12) (gNil)))) (tDrop (tBM K "list" rAppend (tVar 1) (tCons (tM1 (rJoin K) (tC (.str " ")) (tLst (tCons (tC (.str "first")) (tCons (tCB cStrU (tCons (tOp (rIx K) (tVar 11) (tC (.int 0))) (tNil))) (tCons (tCB cStrU (tCons (tOp (rIx K) (tVar 11) (tC (.int 1))) (tNil))) (tCons (tCall (spW K W__law_told_row) [] E0 (tCons (tVar 12) (tNil))) (tNil))))))) (tNil)))))
    (tFor (iSeqU K (tVar 7)) (gTup K 2 (gCons (gName 13) (gCons (gName 12) (gNil)))) (tDrop (tBM K "list" rAppend (tVar 1) (tCons (tM1 (rJoin K) (tC (.str " ")) (tLst (tCons (tC (.str "second")) (tCons (tCB cStrU (tCons (tVar 13) (tNil))) (tCons (tCall (spW K W__law_told_row) [] E0 (tCons (tVar 12) (tNil))) (tNil)))))) (tNil))))))))))))
    (tRet (tM1 (rJoin K) (tC (.str "\n")) (tVar 1))))
theorem d__law_text {P : Program} {w : World} {K : PySem.W.Frag} {mg : Str → Option Value} {base : Heap} (C : Ctx K w mg) (c__law_told_row : C8.Cal P w K mg base 1 "_law_told_row" (spW K W__law_told_row) []) (f : Addr) (cdv : Value) (A : Around) (outer : List Env) (s : Shared) (H : Hp) (E : XK) (hr : Room 1 (A.deeper (envOfC "_law_text" (defScope s__law_text) s.heap.objs.size f cdv))) : PSs (cxOf CX0 P w K mg base N__law_text "_law_text" (defScope s__law_text) f cdv A outer s H E).nox (defBody s__law_text) (t__law_text K) := by
  have hu : (A.deeper (envOfC "_law_text" (defScope s__law_text) s.heap.objs.size f cdv)).units + 64 < cLine := hr.units
  have hv : (A.deeper (envOfC "_law_text" (defScope s__law_text) s.heap.objs.size f cdv)).units + (64 + 1) < cLine := by have := hr.un; omega
  have hu1 := Nat.lt_of_le_of_lt (Nat.add_le_add_left (by decide : 1 ≤ 64) _) hu
  exact pss_cons (ps_set (i := 1) sc__law_text.nd rfl (Or.inl rfl) (pe_lst (pa_nil)))
    (pss_cons (ps_for PassesOwn.never rfl (pi_seqU (pv 0)) (pg_tup rfl (pgs_cons (pg_name (i := 2) sc__law_text.nd rfl (Or.inl rfl)) (pgs_cons (pg_name (i := 3) sc__law_text.nd rfl (Or.inl rfl)) (pgs_nil)))) (pss_cons (ps_expr (pe_bm PySem.F.plainAttrs_list PySem.F.slot_list_append PySem.F.type_list_append mt_append (pv 1) (pa_cons (pe_m1 PySem.F.slot_str_join PySem.F.type_str_join mt_join (pe_str) (pe_op op_addU (pe_lst (pa_cons (pe_str) (pa_cons (pe_callTy call_strU (by rfl) C.b_str PyProof.Rows.boot_str (pa_cons (pe_callB call_lenU (by rfl) C.b_len PySem.boot_len (pa_cons (pv 3) (pa_nil))) (pa_nil))) (pa_nil)))) (pe_lc (own := [("each", 14)]) rfl sc__law_text.nd (pi_seqU (pv 2)) (blkOk_by (own := [("each", 14)]) (N := N__law_text) (sc := defScope s__law_text) (by decide +kernel)) (fun _ _ _ _ _ => pg_name (i := 14) sc__law_text.nd rfl (Or.inl rfl)) (fun _ _ _ _ _ => pts_nil) (fun _ _ _ _ _ => pe_callTy call_strU (by rfl) C.b_str PyProof.Rows.boot_str (pa_cons (pv 14) (pa_nil)))))) (pa_nil))))
    (pss_one (ps_for PassesOwn.never rfl (pi_seqU (pv 3)) (pg_tup rfl (pgs_cons (pg_name (i := 4) sc__law_text.nd rfl (Or.inl rfl)) (pgs_cons (pg_name (i := 5) sc__law_text.nd rfl (Or.inl rfl)) (pgs_cons (pg_name (i := 6) sc__law_text.nd rfl (Or.inl rfl)) (pgs_cons (pg_name (i := 7) sc__law_text.nd rfl (Or.inl rfl)) (pgs_nil)))))) (pss_cons (ps_set (i := 8) sc__law_text.nd rfl (Or.inl rfl) (pe_lst (pa_cons (pe_str) (pa_nil))))
    (pss_cons (ps_for PassesOwn.never rfl (pi_seqU (pv 4)) (pg_tup rfl (pgs_cons (pg_name (i := 9) sc__law_text.nd rfl (Or.inl rfl)) (pgs_cons (pg_name (i := 10) sc__law_text.nd rfl (Or.inl rfl)) (pgs_nil)))) (pss_one (ps_set (i := 8) sc__law_text.nd rfl (Or.inl rfl) (pe_op op_addU (pv 8) (pe_lst (pa_cons (pe_callTy call_strU (by rfl) C.b_str PyProof.Rows.boot_str (pa_cons (pv 9) (pa_nil))) (pa_cons (pe_callTy call_strU (by rfl) C.b_str PyProof.Rows.boot_str (pa_cons (pv 10) (pa_nil))) (pa_nil))))))))
    (pss_cons (ps_expr (pe_bm PySem.F.plainAttrs_list PySem.F.slot_list_append PySem.F.type_list_append mt_append (pv 1) (pa_cons (pe_m1 PySem.F.slot_str_join PySem.F.type_str_join mt_join (pe_str) (pe_op op_addU (pv 8) (pe_lst (pa_cons (pe_str) (pa_cons (pe_callTy call_strU (by rfl) C.b_str PyProof.Rows.boot_str (pa_cons (pv 5) (pa_nil))) (pa_nil)))))) (pa_nil))))
    (pss_cons (ps_for PassesOwn.never rfl (pi_seqU (pv 6)) (pg_tup rfl (pgs_cons (pg_name (i := 11) sc__law_text.nd rfl (Or.inl rfl)) (pgs_cons (pg_name (i := 12) sc__law_text.nd rfl (Or.inl rfl)) (pgs_nil)))) (pss_one (ps_expr (pe_bm PySem.F.plainAttrs_list PySem.F.slot_list_append PySem.F.type_list_append mt_append (pv 1) (pa_cons (pe_m1 PySem.F.slot_str_join PySem.F.type_str_join mt_join (pe_str) (pe_lst (pa_cons (pe_str) (pa_cons (pe_callTy call_strU (by rfl) C.b_str PyProof.Rows.boot_str (pa_cons (pe_ix ix_seq (pv 11) (pe_int) (fun _ _ => rfl)) (pa_nil))) (pa_cons (pe_callTy call_strU (by rfl) C.b_str PyProof.Rows.boot_str (pa_cons (pe_ix ix_seq (pv 11) (pe_int) (fun _ _ => rfl)) (pa_nil))) (pa_cons (C8.pe_c c__law_told_row hr (by decide) (by rfl) (pa_cons (pv 12) (pa_nil))) (pa_nil))))))) (pa_nil))))))
    (pss_one (ps_for PassesOwn.never rfl (pi_seqU (pv 7)) (pg_tup rfl (pgs_cons (pg_name (i := 13) sc__law_text.nd rfl (Or.inl rfl)) (pgs_cons (pg_name (i := 12) sc__law_text.nd rfl (Or.inl rfl)) (pgs_nil)))) (pss_one (ps_expr (pe_bm PySem.F.plainAttrs_list PySem.F.slot_list_append PySem.F.type_list_append mt_append (pv 1) (pa_cons (pe_m1 PySem.F.slot_str_join PySem.F.type_str_join mt_join (pe_str) (pe_lst (pa_cons (pe_str) (pa_cons (pe_callTy call_strU (by rfl) C.b_str PyProof.Rows.boot_str (pa_cons (pv 13) (pa_nil))) (pa_cons (C8.pe_c c__law_told_row hr (by decide) (by rfl) (pa_cons (pv 12) (pa_nil))) (pa_nil)))))) (pa_nil)))))))))))))))
    (pss_one (ps_ret (pe_m1 PySem.F.slot_str_join PySem.F.type_str_join mt_join (pe_str) (pv 1)))))
theorem mk__law_text {P : Program} {w : World} {K : PySem.W.Frag} {mg : Str → Option Value} {base : Heap} (C : Ctx K w mg) (c__law_told_row : C8.Cal P w K mg base 1 "_law_told_row" (spW K W__law_told_row) []) (len : ∀ ρ0 Q, W__law_text ρ0 Q → ρ0.length = 1) (hx : ∀ ρ0 Q, W__law_text ρ0 Q → XS K (t__law_text K) (ρ0 ++ List.replicate (N__law_text.length - ρ0.length) .unk) (bodyPost ρ0 Q)) : C8.Cal P w K mg base 2 "_law_text" (spW K W__law_text) [] :=
  fnC C.f__law_text sc__law_text len (fun _ _ _ _ _ _ us hl => match us, hl with | [_], _ => rfl) (fun f cdv A outer s H E hr => d__law_text C c__law_told_row f cdv A outer s H E hr) hx
/-! ### _law_number -/
abbrev N__law_number : List Str := ["pool", "most", "below", "told", "k"]
theorem sc__law_number : FnScope N__law_number ["pool", "most", "below"] (defScope s__law_number) := ⟨rfl, rfl, rfl, by decide +kernel, rfl, by decide +kernel, by decide +kernel⟩
def t__law_number (K : PySem.W.Frag) : TS :=
    tSeq (tAsg (tC (.int 0)) (gName 3))
    (tSeq (tFor (iRng1 (tCons (tOp (rAddU K) (tC (.int 1)) (tIf (tTest (tOp (rEqU K) (tCall (spW K W__law_take) [] E0 (tCons (tVar 0) (tCons (tC (.int 3)) (tNil)))) (tC (.int 0)))) (tCall (spW K W__law_take) [] E0 (tCons (tVar 0) (tCons (tVar 1) (tNil)))) (tC (.int 0)))) (tNil))) (gName 4) (tAsg (tOp (rAddU K) (tOp rMulU (tVar 3) (tC (.int 10))) (tCall (spW K W__law_take) [] E0 (tCons (tVar 0) (tCons (tC (.int 10)) (tNil))))) (gName 3)))
    (tRet (tIf (tAnd (tTru K (tVar 2)) (tTest (tOp (rEqU K) (tCall (spW K W__law_take) [] E0 (tCons (tVar 0) (tCons (tC (.int 3)) (tNil)))) (tC (.int 0))))) (tUn (rU fun i => .int (-i)) (tVar 3)) (tVar 3))))
theorem d__law_number {P : Program} {w : World} {K : PySem.W.Frag} {mg : Str → Option Value} {base : Heap} (C : Ctx K w mg) (c__law_take : C8.Cal P w K mg base 1 "_law_take" (spW K W__law_take) []) (f : Addr) (cdv : Value) (A : Around) (outer : List Env) (s : Shared) (H : Hp) (E : XK) (hr : Room 1 (A.deeper (envOfC "_law_number" (defScope s__law_number) s.heap.objs.size f cdv))) : PSs (cxOf CX0 P w K mg base N__law_number "_law_number" (defScope s__law_number) f cdv A outer s H E).nox (defBody s__law_number) (t__law_number K) := by
  have hu : (A.deeper (envOfC "_law_number" (defScope s__law_number) s.heap.objs.size f cdv)).units + 64 < cLine := hr.units
  have hv : (A.deeper (envOfC "_law_number" (defScope s__law_number) s.heap.objs.size f cdv)).units + (64 + 1) < cLine := by have := hr.un; omega
  have hu1 := Nat.lt_of_le_of_lt (Nat.add_le_add_left (by decide : 1 ≤ 64) _) hu
  exact pss_cons (ps_set (i := 3) sc__law_number.nd rfl (Or.inl rfl) (pe_int))
    (pss_cons (ps_for PassesOwn.never rfl (pi_range1 (by rfl) C.b_range (pa_cons (pe_op op_addU (pe_int) (pe_ifExp (pt_cmpR (op_eqU hu) (C8.pe_c c__law_take hr (by decide) (by rfl) (pa_cons (pv 0) (pa_cons (pe_int) (pa_nil)))) (pe_int) (nomark _)) (C8.pe_c c__law_take hr (by decide) (by rfl) (pa_cons (pv 0) (pa_cons (pv 1) (pa_nil)))) (pe_int))) (pa_nil))) (pg_name (i := 4) sc__law_number.nd rfl (Or.inl rfl)) (pss_one (ps_set (i := 3) sc__law_number.nd rfl (Or.inl rfl) (pe_op op_addU (pe_op op_mulU (pv 3) (pe_int)) (C8.pe_c c__law_take hr (by decide) (by rfl) (pa_cons (pv 0) (pa_cons (pe_int) (pa_nil))))))))
    (pss_one (ps_ret (pe_ifExp ((pw_and (pt_truth (pv 2) (by intro _; rfl)) (pw_and1 (pt_cmpR (op_eqU hu) (C8.pe_c c__law_take hr (by decide) (by rfl) (pa_cons (pv 0) (pa_cons (pe_int) (pa_nil)))) (pe_int) (nomark _)))).pt) (pe_un un_neg (pv 3)) (pv 3)))))
theorem mk__law_number {P : Program} {w : World} {K : PySem.W.Frag} {mg : Str → Option Value} {base : Heap} (C : Ctx K w mg) (c__law_take : C8.Cal P w K mg base 1 "_law_take" (spW K W__law_take) []) (len : ∀ ρ0 Q, W__law_number ρ0 Q → ρ0.length = 3) (hx : ∀ ρ0 Q, W__law_number ρ0 Q → XS K (t__law_number K) (ρ0 ++ List.replicate (N__law_number.length - ρ0.length) .unk) (bodyPost ρ0 Q)) : C8.Cal P w K mg base 2 "_law_number" (spW K W__law_number) [] :=
  fnC C.f__law_number sc__law_number len (fun _ _ _ _ _ _ us hl => match us, hl with | [_, _, _], _ => rfl) (fun f cdv A outer s H E hr => d__law_number C c__law_take f cdv A outer s H E hr) hx
/-! ### _law_drawn_told -/
abbrev N__law_drawn_told : List Str := ["pool", "kind"]
theorem sc__law_drawn_told : FnScope N__law_drawn_told ["pool"] (defScope s__law_drawn_told) := ⟨rfl, rfl, rfl, by decide +kernel, rfl, by decide +kernel, by decide +kernel⟩
def t__law_drawn_told (K : PySem.W.Frag) : TS :=
    tSeq (tAsg (tCall (spW K W__law_take) [] E0 (tCons (tVar 0) (tCons (tC (.int 4)) (tNil)))) (gName 1))
    (tSeq (tIfS (tTest (tOp (rEqU K) (tVar 1) (tC (.int 0)))) (tRet (tTup (tCons (tC (.str "num")) (tCons (tCall (spW K W__law_number) [] E0 (tCons (tVar 0) (tCons (tC (.int 12)) (tCons (tC (.bl true)) (tNil))))) (tNil))))) (tNext))
    (tSeq (tIfS (tTest (tOp (rEqU K) (tVar 1) (tC (.int 1)))) (tRet (tTup (tCons (tC (.str "len")) (tCons (tCall (spW K W__law_number) [] E0 (tCons (tVar 0) (tCons (tC (.int 2)) (tCons (tC (.bl false)) (tNil))))) (tCons (tCall (spW K W__law_number) [] E0 (tCons (tVar 0) (tCons (tC (.int 12)) (tCons (tC (.bl true)) (tNil))))) (tNil)))))) (tNext))
    (tRet (tTup (tCons (tC (.str "spot")) (tCons (tCall (spW K W__law_take) [] E0 (tCons (tVar 0) (tCons (tC (.int 2)) (tNil)))) (tCons (tCall (spW K W__law_number) [] E0 (tCons (tVar 0) (tCons (tC (.int 3)) (tCons (tC (.bl false)) (tNil))))) (tCons (tCall (spW K W__law_number) [] E0 (tCons (tVar 0) (tCons (tC (.int 4)) (tCons (tC (.bl true)) (tNil))))) (tNil)))))))))
theorem d__law_drawn_told {P : Program} {w : World} {K : PySem.W.Frag} {mg : Str → Option Value} {base : Heap} (C : Ctx K w mg) (c__law_take : C8.Cal P w K mg base 1 "_law_take" (spW K W__law_take) []) (c__law_number : C8.Cal P w K mg base 2 "_law_number" (spW K W__law_number) []) (f : Addr) (cdv : Value) (A : Around) (outer : List Env) (s : Shared) (H : Hp) (E : XK) (hr : Room 2 (A.deeper (envOfC "_law_drawn_told" (defScope s__law_drawn_told) s.heap.objs.size f cdv))) : PSs (cxOf CX0 P w K mg base N__law_drawn_told "_law_drawn_told" (defScope s__law_drawn_told) f cdv A outer s H E).nox (defBody s__law_drawn_told) (t__law_drawn_told K) := by
  have hu : (A.deeper (envOfC "_law_drawn_told" (defScope s__law_drawn_told) s.heap.objs.size f cdv)).units + 64 < cLine := hr.units
  have hv : (A.deeper (envOfC "_law_drawn_told" (defScope s__law_drawn_told) s.heap.objs.size f cdv)).units + (64 + 1) < cLine := by have := hr.un; omega
  have hu1 := Nat.lt_of_le_of_lt (Nat.add_le_add_left (by decide : 1 ≤ 64) _) hu
  exact pss_cons (ps_set (i := 1) sc__law_drawn_told.nd rfl (Or.inl rfl) (C8.pe_c c__law_take hr (by decide) (by rfl) (pa_cons (pv 0) (pa_cons (pe_int) (pa_nil)))))
    (pss_cons (ps_if (pt_cmpR (op_eqU hu) (pv 1) (pe_int) (nomark _)) (pss_one (ps_ret (pe_tup (pa_cons (pe_str) (pa_cons (C8.pe_c c__law_number hr (by decide) (by rfl) (pa_cons (pv 0) (pa_cons (pe_int) (pa_cons (pe_bl) (pa_nil))))) (pa_nil)))))) (pss_nil))
    (pss_cons (ps_if (pt_cmpR (op_eqU hu) (pv 1) (pe_int) (nomark _)) (pss_one (ps_ret (pe_tup (pa_cons (pe_str) (pa_cons (C8.pe_c c__law_number hr (by decide) (by rfl) (pa_cons (pv 0) (pa_cons (pe_int) (pa_cons (pe_bl) (pa_nil))))) (pa_cons (C8.pe_c c__law_number hr (by decide) (by rfl) (pa_cons (pv 0) (pa_cons (pe_int) (pa_cons (pe_bl) (pa_nil))))) (pa_nil))))))) (pss_nil))
    (pss_one (ps_ret (pe_tup (pa_cons (pe_str) (pa_cons (C8.pe_c c__law_take hr (by decide) (by rfl) (pa_cons (pv 0) (pa_cons (pe_int) (pa_nil)))) (pa_cons (C8.pe_c c__law_number hr (by decide) (by rfl) (pa_cons (pv 0) (pa_cons (pe_int) (pa_cons (pe_bl) (pa_nil))))) (pa_cons (C8.pe_c c__law_number hr (by decide) (by rfl) (pa_cons (pv 0) (pa_cons (pe_int) (pa_cons (pe_bl) (pa_nil))))) (pa_nil))))))))))
theorem mk__law_drawn_told {P : Program} {w : World} {K : PySem.W.Frag} {mg : Str → Option Value} {base : Heap} (C : Ctx K w mg) (c__law_take : C8.Cal P w K mg base 1 "_law_take" (spW K W__law_take) []) (c__law_number : C8.Cal P w K mg base 2 "_law_number" (spW K W__law_number) []) (len : ∀ ρ0 Q, W__law_drawn_told ρ0 Q → ρ0.length = 1) (hx : ∀ ρ0 Q, W__law_drawn_told ρ0 Q → XS K (t__law_drawn_told K) (ρ0 ++ List.replicate (N__law_drawn_told.length - ρ0.length) .unk) (bodyPost ρ0 Q)) : C8.Cal P w K mg base 3 "_law_drawn_told" (spW K W__law_drawn_told) [] :=
  fnC C.f__law_drawn_told sc__law_drawn_told len (fun _ _ _ _ _ _ us hl => match us, hl with | [_], _ => rfl) (fun f cdv A outer s H E hr => d__law_drawn_told C c__law_take c__law_number f cdv A outer s H E hr) hx
/-! ### _law_drawn_paper -/
abbrev N__law_drawn_paper : List Str := ["pool", "most", "paper", "u", "pairs", "n", "stack", "firsts", "seconds", "k"]
theorem sc__law_drawn_paper : FnScope N__law_drawn_paper ["pool", "most"] (defScope s__law_drawn_paper) := ⟨rfl, rfl, rfl, by decide +kernel, rfl, by decide +kernel, by decide +kernel⟩
def t__law_drawn_paper (K : PySem.W.Frag) : TS :=
    tSeq (tAsg (tLst (tNil)) (gName 2))
    (tSeq (tFor (iRng1 (tCons (tOp (rAddU K) (tC (.int 1)) (tCall (spW K W__law_take) [] E0 (tCons (tVar 0) (tCons (tVar 1) (tNil))))) (tNil))) (gName 3) (tSeq (tAsg (tLst (tNil)) (gName 4))
    (tSeq (tFor (iRng1 (tCons (tOp (rAddU K) (tC (.int 1)) (tCall (spW K W__law_take) [] E0 (tCons (tVar 0) (tCons (tC (.int 3)) (tNil))))) (tNil))) (gName 5) (tSeq (tAsg (tLc (iRng1 (tCons (tOp (rAddU K) (tC (.int 1)) (tCall (spW K W__law_take) [] E0 (tCons (tVar 0) (tCons (tC (.int 2)) (tNil))))) (tNil))) (gName 9) (tYes) (tTup (tCons (tCall (spW K W__law_take) [] E0 (tCons (tVar 0) (tCons (tC (.int 3)) (tNil)))) (tCons (tCall (spW K W__law_number) [] E0 (tCons (tVar 0) (tCons (tC (.int 12)) (tCons (tC (.bl false)) (tNil))))) (tNil)))) [9]) (gName 6))
    (tSeq (tAsg (tLc (iRng1 (tCons (tCall (spW K W__law_take) [] E0 (tCons (tVar 0) (tCons (tC (.int 3)) (tNil)))) (tNil))) (gName 9) (tYes) (tTup (tCons (tTup (tCons (tCall (spW K W__law_take) [] E0 (tCons (tVar 0) (tCons (tC (.int 2)) (tNil)))) (tCons (tCall (spW K W__law_number) [] E0 (tCons (tVar 0) (tCons (tC (.int 2)) (tCons (tC (.bl false)) (tNil))))) (tNil)))) (tCons (tCall (spW K W__law_drawn_told) [] E0 (tCons (tVar 0) (tNil))) (tNil)))) [9]) (gName 7))
    (tSeq (tAsg (tLc (iRng1 (tCons (tCall (spW K W__law_take) [] E0 (tCons (tVar 0) (tCons (tC (.int 4)) (tNil)))) (tNil))) (gName 9) (tYes) (tTup (tCons (tCall (spW K W__law_number) [] E0 (tCons (tVar 0) (tCons (tC (.int 2)) (tCons (tC (.bl false)) (tNil))))) (tCons (tCall (spW K W__law_drawn_told) [] E0 (tCons (tVar 0) (tNil))) (tNil)))) [9]) (gName 8))
    (tDrop (tBM K "list" rAppend (tVar 4) (tCons (tTup (tCons (tCB (cTupU K) (tCons (tVar 6) (tNil))) (tCons (tCall (spW K W__law_number) [] E0 (tCons (tVar 0) (tCons (tC (.int 3)) (tCons (tC (.bl false)) (tNil))))) (tCons (tCB (cTupU K) (tCons (tVar 7) (tNil))) (tCons (tCB (cTupU K) (tCons (tVar 8) (tNil))) (tNil)))))) (tNil))))))))
    (tDrop (tBM K "list" rAppend (tVar 2) (tCons (tTup (tCons (tCB (cTupU K) (tCons (tLc (iRng1 (tCons (tCall (spW K W__law_take) [] E0 (tCons (tVar 0) (tCons (tC (.int 3)) (tNil)))) (tNil))) (gName 9) (tYes) (tCall (spW K W__law_number) [] E0 (tCons (tVar 0) (tCons (tC (.int 2)) (tCons (tC (.bl false)) (tNil))))) [9]) (tNil))) (tCons (tCB (cTupU K) (tCons (tVar 4) (tNil))) (tNil)))) (tNil)))))))
    (tRet (tCB (cTupU K) (tCons (tVar 2) (tNil)))))
theorem d__law_drawn_paper {P : Program} {w : World} {K : PySem.W.Frag} {mg : Str → Option Value} {base : Heap} (C : Ctx K w mg) (c__law_take : C8.Cal P w K mg base 1 "_law_take" (spW K W__law_take) []) (c__law_number : C8.Cal P w K mg base 2 "_law_number" (spW K W__law_number) []) (c__law_drawn_told : C8.Cal P w K mg base 3 "_law_drawn_told" (spW K W__law_drawn_told) []) (f : Addr) (cdv : Value) (A : Around) (outer : List Env) (s : Shared) (H : Hp) (E : XK) (hr : Room 3 (A.deeper (envOfC "_law_drawn_paper" (defScope s__law_drawn_paper) s.heap.objs.size f cdv))) : PSs (cxOf CX0 P w K mg base N__law_drawn_paper "_law_drawn_paper" (defScope s__law_drawn_paper) f cdv A outer s H E).nox (defBody s__law_drawn_paper) (t__law_drawn_paper K) := by
  have hu : (A.deeper (envOfC "_law_drawn_paper" (defScope s__law_drawn_paper) s.heap.objs.size f cdv)).units + 64 < cLine := hr.units
  have hv : (A.deeper (envOfC "_law_drawn_paper" (defScope s__law_drawn_paper) s.heap.objs.size f cdv)).units + (64 + 1) < cLine := by have := hr.un; omega
  have hu1 := Nat.lt_of_le_of_lt (Nat.add_le_add_left (by decide : 1 ≤ 64) _) hu
  exact pss_cons (ps_set (i := 2) sc__law_drawn_paper.nd rfl (Or.inl rfl) (pe_lst (pa_nil)))
    (pss_cons (ps_for PassesOwn.never rfl (pi_range1 (by rfl) C.b_range (pa_cons (pe_op op_addU (pe_int) (C8.pe_c c__law_take hr (by decide) (by rfl) (pa_cons (pv 0) (pa_cons (pv 1) (pa_nil))))) (pa_nil))) (pg_name (i := 3) sc__law_drawn_paper.nd rfl (Or.inl rfl)) (pss_cons (ps_set (i := 4) sc__law_drawn_paper.nd rfl (Or.inl rfl) (pe_lst (pa_nil)))
    (pss_cons (ps_for PassesOwn.never rfl (pi_range1 (by rfl) C.b_range (pa_cons (pe_op op_addU (pe_int) (C8.pe_c c__law_take hr (by decide) (by rfl) (pa_cons (pv 0) (pa_cons (pe_int) (pa_nil))))) (pa_nil))) (pg_name (i := 5) sc__law_drawn_paper.nd rfl (Or.inl rfl)) (pss_cons (ps_setLc (i := 6) (own := [("k", 9)]) rfl sc__law_drawn_paper.nd rfl rfl (sw_true rfl rfl rfl (by decide +kernel)) (pi_range1 (by rfl) C.b_range (pa_cons (pe_op op_addU (pe_int) (C8.pe_c c__law_take hr (by decide) (by rfl) (pa_cons (pv 0) (pa_cons (pe_int) (pa_nil))))) (pa_nil))) (blkOk_by (own := [("k", 9)]) (N := N__law_drawn_paper) (sc := defScope s__law_drawn_paper) (by decide +kernel)) (fun _ _ _ _ _ => pg_name (i := 9) sc__law_drawn_paper.nd rfl (Or.inl rfl)) (fun _ _ _ _ _ => pts_nil) (fun _ _ _ _ _ => pe_tup (pa_cons (C8.pe_c c__law_take hr (by decide) (by rfl) (pa_cons (pv 0) (pa_cons (pe_int) (pa_nil)))) (pa_cons (C8.pe_c c__law_number hr (by decide) (by rfl) (pa_cons (pv 0) (pa_cons (pe_int) (pa_cons (pe_bl) (pa_nil))))) (pa_nil)))))
    (pss_cons (ps_setLc (i := 7) (own := [("k", 9)]) rfl sc__law_drawn_paper.nd rfl rfl (sw_true rfl rfl rfl (by decide +kernel)) (pi_range1 (by rfl) C.b_range (pa_cons (C8.pe_c c__law_take hr (by decide) (by rfl) (pa_cons (pv 0) (pa_cons (pe_int) (pa_nil)))) (pa_nil))) (blkOk_by (own := [("k", 9)]) (N := N__law_drawn_paper) (sc := defScope s__law_drawn_paper) (by decide +kernel)) (fun _ _ _ _ _ => pg_name (i := 9) sc__law_drawn_paper.nd rfl (Or.inl rfl)) (fun _ _ _ _ _ => pts_nil) (fun _ _ _ _ _ => pe_tup (pa_cons (pe_tup (pa_cons (C8.pe_c c__law_take hr (by decide) (by rfl) (pa_cons (pv 0) (pa_cons (pe_int) (pa_nil)))) (pa_cons (C8.pe_c c__law_number hr (by decide) (by rfl) (pa_cons (pv 0) (pa_cons (pe_int) (pa_cons (pe_bl) (pa_nil))))) (pa_nil)))) (pa_cons (C8.pe_c c__law_drawn_told hr (by decide) (by rfl) (pa_cons (pv 0) (pa_nil))) (pa_nil)))))
    (pss_cons (ps_setLc (i := 8) (own := [("k", 9)]) rfl sc__law_drawn_paper.nd rfl rfl (sw_true rfl rfl rfl (by decide +kernel)) (pi_range1 (by rfl) C.b_range (pa_cons (C8.pe_c c__law_take hr (by decide) (by rfl) (pa_cons (pv 0) (pa_cons (pe_int) (pa_nil)))) (pa_nil))) (blkOk_by (own := [("k", 9)]) (N := N__law_drawn_paper) (sc := defScope s__law_drawn_paper) (by decide +kernel)) (fun _ _ _ _ _ => pg_name (i := 9) sc__law_drawn_paper.nd rfl (Or.inl rfl)) (fun _ _ _ _ _ => pts_nil) (fun _ _ _ _ _ => pe_tup (pa_cons (C8.pe_c c__law_number hr (by decide) (by rfl) (pa_cons (pv 0) (pa_cons (pe_int) (pa_cons (pe_bl) (pa_nil))))) (pa_cons (C8.pe_c c__law_drawn_told hr (by decide) (by rfl) (pa_cons (pv 0) (pa_nil))) (pa_nil)))))
    (pss_one (ps_expr (pe_bm PySem.F.plainAttrs_list PySem.F.slot_list_append PySem.F.type_list_append mt_append (pv 4) (pa_cons (pe_tup (pa_cons (pe_callTy call_tupU (by rfl) C.b_tuple PyProof.Rows.boot_tuple (pa_cons (pv 6) (pa_nil))) (pa_cons (C8.pe_c c__law_number hr (by decide) (by rfl) (pa_cons (pv 0) (pa_cons (pe_int) (pa_cons (pe_bl) (pa_nil))))) (pa_cons (pe_callTy call_tupU (by rfl) C.b_tuple PyProof.Rows.boot_tuple (pa_cons (pv 7) (pa_nil))) (pa_cons (pe_callTy call_tupU (by rfl) C.b_tuple PyProof.Rows.boot_tuple (pa_cons (pv 8) (pa_nil))) (pa_nil)))))) (pa_nil)))))))))
    (pss_one (ps_expr (pe_bm PySem.F.plainAttrs_list PySem.F.slot_list_append PySem.F.type_list_append mt_append (pv 2) (pa_cons (pe_tup (pa_cons (pe_callTy call_tupU (by rfl) C.b_tuple PyProof.Rows.boot_tuple (pa_cons (pe_lc (own := [("k", 9)]) rfl sc__law_drawn_paper.nd (pi_range1 (by rfl) C.b_range (pa_cons (C8.pe_c c__law_take hr (by decide) (by rfl) (pa_cons (pv 0) (pa_cons (pe_int) (pa_nil)))) (pa_nil))) (blkOk_by (own := [("k", 9)]) (N := N__law_drawn_paper) (sc := defScope s__law_drawn_paper) (by decide +kernel)) (fun _ _ _ _ _ => pg_name (i := 9) sc__law_drawn_paper.nd rfl (Or.inl rfl)) (fun _ _ _ _ _ => pts_nil) (fun _ _ _ _ _ => C8.pe_c c__law_number hr (by decide) (by rfl) (pa_cons (pv 0) (pa_cons (pe_int) (pa_cons (pe_bl) (pa_nil)))))) (pa_nil))) (pa_cons (pe_callTy call_tupU (by rfl) C.b_tuple PyProof.Rows.boot_tuple (pa_cons (pv 4) (pa_nil))) (pa_nil)))) (pa_nil))))))))
    (pss_one (ps_ret (pe_callTy call_tupU (by rfl) C.b_tuple PyProof.Rows.boot_tuple (pa_cons (pv 2) (pa_nil))))))
theorem mk__law_drawn_paper {P : Program} {w : World} {K : PySem.W.Frag} {mg : Str → Option Value} {base : Heap} (C : Ctx K w mg) (c__law_take : C8.Cal P w K mg base 1 "_law_take" (spW K W__law_take) []) (c__law_number : C8.Cal P w K mg base 2 "_law_number" (spW K W__law_number) []) (c__law_drawn_told : C8.Cal P w K mg base 3 "_law_drawn_told" (spW K W__law_drawn_told) []) (len : ∀ ρ0 Q, W__law_drawn_paper ρ0 Q → ρ0.length = 2) (hx : ∀ ρ0 Q, W__law_drawn_paper ρ0 Q → XS K (t__law_drawn_paper K) (ρ0 ++ List.replicate (N__law_drawn_paper.length - ρ0.length) .unk) (bodyPost ρ0 Q)) : C8.Cal P w K mg base 4 "_law_drawn_paper" (spW K W__law_drawn_paper) [] :=
  fnC C.f__law_drawn_paper sc__law_drawn_paper len (fun _ _ _ _ _ _ us hl => match us, hl with | [_, _], _ => rfl) (fun f cdv A outer s H E hr => d__law_drawn_paper C c__law_take c__law_number c__law_drawn_told f cdv A outer s H E hr) hx
/-! ### _law_is_number -/
abbrev N__law_is_number : List Str := ["word", "digits"]
theorem sc__law_is_number : FnScope N__law_is_number ["word"] (defScope s__law_is_number) := ⟨rfl, rfl, rfl, by decide +kernel, rfl, by decide +kernel, by decide +kernel⟩
def t__law_is_number (K : PySem.W.Frag) : TS :=
    tSeq (tAsg (tIf (tTest (tOp (rEqU K) (tSl (rSlU K) (tVar 0) (tNoPart) (tPart (tC (.int 1)))) (tC (.str "-")))) (tSl (rSlU K) (tVar 0) (tPart (tC (.int 1))) (tNoPart)) (tVar 0)) (gName 1))
    (tSeq (tIfS (tOr (tNot (tTru K (tM0 rIsdigit (tVar 1)))) (tTest (tOp rGtU (tCB (cLenU K) (tCons (tVar 1) (tNil))) (tC (.int 12))))) (tRet (tC (.bl false))) (tNext))
    (tRet (tOrV (tAndV (tOp (rEqU K) (tVar 1) (tC (.str "0"))) (tOp (rEqU K) (tVar 0) (tC (.str "0")))) (tOp (rNeU K) (tOp (rIx K) (tVar 1) (tC (.int 0))) (tC (.str "0"))))))
theorem d__law_is_number {P : Program} {w : World} {K : PySem.W.Frag} {mg : Str → Option Value} {base : Heap} (C : Ctx K w mg)  (f : Addr) (cdv : Value) (A : Around) (outer : List Env) (s : Shared) (H : Hp) (E : XK) (hr : Room 0 (A.deeper (envOfC "_law_is_number" (defScope s__law_is_number) s.heap.objs.size f cdv))) : PSs (cxOf CX0 P w K mg base N__law_is_number "_law_is_number" (defScope s__law_is_number) f cdv A outer s H E).nox (defBody s__law_is_number) (t__law_is_number K) := by
  have hu : (A.deeper (envOfC "_law_is_number" (defScope s__law_is_number) s.heap.objs.size f cdv)).units + 64 < cLine := hr.units
  have hv : (A.deeper (envOfC "_law_is_number" (defScope s__law_is_number) s.heap.objs.size f cdv)).units + (64 + 1) < cLine := by have := hr.un; omega
  have hu1 := Nat.lt_of_le_of_lt (Nat.add_le_add_left (by decide : 1 ≤ 64) _) hu
  exact pss_cons (ps_set (i := 1) sc__law_is_number.nd rfl (Or.inl rfl) (pe_ifExp (pt_cmpR (op_eqU hu) (pe_slice sl_U (pv 0) (po_none) (po_some (pe_int))) (pe_str) (nomark _)) (pe_slice sl_U (pv 0) (po_some (pe_int)) (po_none)) (pv 0)))
    (pss_cons (ps_if ((pw_or (pt_not (pt_truth (pe_m0 PySem.F.slot_str_isdigit PySem.F.type_str_isdigit mt_isdigit (pv 1)) (by intro _; rfl))) (pw_or1 (pt_cmpR op_gtU (pe_callB call_lenU (by rfl) C.b_len PySem.boot_len (pa_cons (pv 1) (pa_nil))) (pe_int) (nomark _)))).pt) (pss_one (ps_ret (pe_bl))) (pss_nil))
    (pss_one (ps_ret (pe_or (pe_and (pe_cmpR (op_eqU hu) (pv 1) (pe_str) (nomark _)) (pe_one (pe_cmpR (op_eqU hu) (pv 0) (pe_str) (nomark _)))) (pe_one (pe_cmpR (op_neU hu) (pe_ix ix_seq (pv 1) (pe_int) (fun _ _ => rfl)) (pe_str) (nomark _)))))))
theorem mk__law_is_number {P : Program} {w : World} {K : PySem.W.Frag} {mg : Str → Option Value} {base : Heap} (C : Ctx K w mg)  (len : ∀ ρ0 Q, W__law_is_number ρ0 Q → ρ0.length = 1) (hx : ∀ ρ0 Q, W__law_is_number ρ0 Q → XS K (t__law_is_number K) (ρ0 ++ List.replicate (N__law_is_number.length - ρ0.length) .unk) (bodyPost ρ0 Q)) : C8.Cal P w K mg base 1 "_law_is_number" (spW K W__law_is_number) [] :=
  fnC C.f__law_is_number sc__law_is_number len (fun _ _ _ _ _ _ us hl => match us, hl with | [_], _ => rfl) (fun f cdv A outer s H E hr => d__law_is_number C  f cdv A outer s H E hr) hx
/-! ### _law_is_told -/
abbrev N__law_is_told : List Str := ["words", "each"]
theorem sc__law_is_told : FnScope N__law_is_told ["words"] (defScope s__law_is_told) := ⟨rfl, rfl, rfl, by decide +kernel, rfl, by decide +kernel, by decide +kernel⟩
def t__law_is_told (K : PySem.W.Frag) : TS :=
    tSeq (tIfS (tOr (tNot (tTru K (tVar 0))) (tTest (tOp (rNeU K) (tCB (cLenU K) (tCons (tVar 0) (tNil))) (tDGetC [("num", 2), ("len", 3), ("spot", 4)] (tOp (rIx K) (tVar 0) (tC (.int 0))) 0)))) (tRet (tC (.bl false))) (tNext))
    (tRet (tOp (rNinU K) (tC (.bl false)) (tLc (iSeqU K (tSl (rSlU K) (tVar 0) (tPart (tC (.int 1))) (tNoPart))) (gName 1) (tYes) (tCall (spW K W__law_is_number) [] E0 (tCons (tVar 1) (tNil))) [1])))
theorem d__law_is_told {P : Program} {w : World} {K : PySem.W.Frag} {mg : Str → Option Value} {base : Heap} (C : Ctx K w mg) (c__law_is_number : C8.Cal P w K mg base 1 "_law_is_number" (spW K W__law_is_number) []) (f : Addr) (cdv : Value) (A : Around) (outer : List Env) (s : Shared) (H : Hp) (E : XK) (hr : Room 1 (A.deeper (envOfC "_law_is_told" (defScope s__law_is_told) s.heap.objs.size f cdv))) : PSs (cxOf CX0 P w K mg base N__law_is_told "_law_is_told" (defScope s__law_is_told) f cdv A outer s H E).nox (defBody s__law_is_told) (t__law_is_told K) := by
  have hu : (A.deeper (envOfC "_law_is_told" (defScope s__law_is_told) s.heap.objs.size f cdv)).units + 64 < cLine := hr.units
  have hv : (A.deeper (envOfC "_law_is_told" (defScope s__law_is_told) s.heap.objs.size f cdv)).units + (64 + 1) < cLine := by have := hr.un; omega
  have hu1 := Nat.lt_of_le_of_lt (Nat.add_le_add_left (by decide : 1 ≤ 64) _) hu
  exact pss_cons (ps_if ((pw_or (pt_not (pt_truth (pv 0) (by intro _; rfl))) (pw_or1 (pt_cmpR (op_neU hu) (pe_callB call_lenU (by rfl) C.b_len PySem.boot_len (pa_cons (pv 0) (pa_nil))) (pe_dget2 hu1 (pe_disp (pps_cons pe_str pe_int (pps_cons pe_str pe_int (pps_cons pe_str pe_int (pps_nil)))) (by rfl) (by rfl) (fun z => by cases z) (by decide)) (pe_ix ix_seq (pv 0) (pe_int) (fun _ _ => rfl)) pe_int ⟨rfl, rfl, rfl, rfl⟩) (nomark _)))).pt) (pss_one (ps_ret (pe_bl))) (pss_nil))
    (pss_one (ps_ret (pe_cmpR op_ninU (pe_bl) (pe_lc (own := [("each", 1)]) rfl sc__law_is_told.nd (pi_seqU (pe_slice sl_U (pv 0) (po_some (pe_int)) (po_none))) (blkOk_by (own := [("each", 1)]) (N := N__law_is_told) (sc := defScope s__law_is_told) (by decide +kernel)) (fun _ _ _ _ _ => pg_name (i := 1) sc__law_is_told.nd rfl (Or.inl rfl)) (fun _ _ _ _ _ => pts_nil) (fun _ _ _ _ _ => C8.pe_c c__law_is_number hr (by decide) (by rfl) (pa_cons (pv 1) (pa_nil)))) (by rfl))))
theorem mk__law_is_told {P : Program} {w : World} {K : PySem.W.Frag} {mg : Str → Option Value} {base : Heap} (C : Ctx K w mg) (c__law_is_number : C8.Cal P w K mg base 1 "_law_is_number" (spW K W__law_is_number) []) (len : ∀ ρ0 Q, W__law_is_told ρ0 Q → ρ0.length = 1) (hx : ∀ ρ0 Q, W__law_is_told ρ0 Q → XS K (t__law_is_told K) (ρ0 ++ List.replicate (N__law_is_told.length - ρ0.length) .unk) (bodyPost ρ0 Q)) : C8.Cal P w K mg base 2 "_law_is_told" (spW K W__law_is_told) [] :=
  fnC C.f__law_is_told sc__law_is_told len (fun _ _ _ _ _ _ us hl => match us, hl with | [_], _ => rfl) (fun f cdv A outer s H E hr => d__law_is_told C c__law_is_number f cdv A outer s H E hr) hx
/-! ### _law_all_are -/
abbrev N__law_all_are : List Str := ["words", "each"]
theorem sc__law_all_are : FnScope N__law_all_are ["words"] (defScope s__law_all_are) := ⟨rfl, rfl, rfl, by decide +kernel, rfl, by decide +kernel, by decide +kernel⟩
def t__law_all_are (K : PySem.W.Frag) : TS :=
    tRet (tOp (rNinU K) (tC (.bl false)) (tLc (iSeqU K (tVar 0)) (gName 1) (tYes) (tCall (spW K W__law_is_number) [] E0 (tCons (tVar 1) (tNil))) [1]))
theorem d__law_all_are {P : Program} {w : World} {K : PySem.W.Frag} {mg : Str → Option Value} {base : Heap} (C : Ctx K w mg) (c__law_is_number : C8.Cal P w K mg base 1 "_law_is_number" (spW K W__law_is_number) []) (f : Addr) (cdv : Value) (A : Around) (outer : List Env) (s : Shared) (H : Hp) (E : XK) (hr : Room 1 (A.deeper (envOfC "_law_all_are" (defScope s__law_all_are) s.heap.objs.size f cdv))) : PSs (cxOf CX0 P w K mg base N__law_all_are "_law_all_are" (defScope s__law_all_are) f cdv A outer s H E).nox (defBody s__law_all_are) (t__law_all_are K) := by
  have hu : (A.deeper (envOfC "_law_all_are" (defScope s__law_all_are) s.heap.objs.size f cdv)).units + 64 < cLine := hr.units
  have hv : (A.deeper (envOfC "_law_all_are" (defScope s__law_all_are) s.heap.objs.size f cdv)).units + (64 + 1) < cLine := by have := hr.un; omega
  have hu1 := Nat.lt_of_le_of_lt (Nat.add_le_add_left (by decide : 1 ≤ 64) _) hu
  exact pss_one (ps_ret (pe_cmpR op_ninU (pe_bl) (pe_lc (own := [("each", 1)]) rfl sc__law_all_are.nd (pi_seqU (pv 0)) (blkOk_by (own := [("each", 1)]) (N := N__law_all_are) (sc := defScope s__law_all_are) (by decide +kernel)) (fun _ _ _ _ _ => pg_name (i := 1) sc__law_all_are.nd rfl (Or.inl rfl)) (fun _ _ _ _ _ => pts_nil) (fun _ _ _ _ _ => C8.pe_c c__law_is_number hr (by decide) (by rfl) (pa_cons (pv 1) (pa_nil)))) (by rfl)))
theorem mk__law_all_are {P : Program} {w : World} {K : PySem.W.Frag} {mg : Str → Option Value} {base : Heap} (C : Ctx K w mg) (c__law_is_number : C8.Cal P w K mg base 1 "_law_is_number" (spW K W__law_is_number) []) (len : ∀ ρ0 Q, W__law_all_are ρ0 Q → ρ0.length = 1) (hx : ∀ ρ0 Q, W__law_all_are ρ0 Q → XS K (t__law_all_are K) (ρ0 ++ List.replicate (N__law_all_are.length - ρ0.length) .unk) (bodyPost ρ0 Q)) : C8.Cal P w K mg base 2 "_law_all_are" (spW K W__law_all_are) [] :=
  fnC C.f__law_all_are sc__law_all_are len (fun _ _ _ _ _ _ us hl => match us, hl with | [_], _ => rfl) (fun f cdv A outer s H E hr => d__law_all_are C c__law_is_number f cdv A outer s H E hr) hx
/-! ### _law_wrong_row -/
abbrev N__law_wrong_row : List Str := ["text", "rows", "missing", "stage", "at", "words", "good"]
theorem sc__law_wrong_row : FnScope N__law_wrong_row ["text"] (defScope s__law_wrong_row) := ⟨rfl, rfl, rfl, by decide +kernel, rfl, by decide +kernel, by decide +kernel⟩
def t__law_wrong_row (K : PySem.W.Frag) : TS :=
    tSeq (tAsg (tIf (tTru K (tVar 0)) (tM1 rSplit (tVar 0) (tC (.str "\n"))) (tLst (tNil))) (gName 1))
    (tSeq (tAsg (tC (.int 0)) (gName 2))
    (tSeq (tAsg (tC (.int 0)) (gName 3))
    (tSeq (tFor (iRng1 (tCons (tCB (cLenU K) (tCons (tVar 1) (tNil))) (tNil))) (gName 4) (tSeq (tAsg (tM1 rSplit (tOp (rIx K) (tVar 1) (tVar 4)) (tC (.str " "))) (gName 5))
    (tSeq (tAsg (tC (.bl false)) (gName 6))
    (tSeq (tIfS (tTest (tOp (rEqU K) (tOp (rIx K) (tVar 5) (tC (.int 0))) (tC (.str "unit")))) (tSeq (tAsg (tAndV (tOp (rEqU K) (tVar 2) (tC (.int 0))) (tAndV (tOp rGtU (tCB (cLenU K) (tCons (tVar 5) (tNil))) (tC (.int 1))) (tAndV (tCall (spW K W__law_all_are) [] E0 (tCons (tSl (rSlU K) (tVar 5) (tPart (tC (.int 1))) (tNoPart)) (tNil))) (tOp rGtU (tCB cIntU (tCons (tOp (rIx K) (tVar 5) (tC (.int 1))) (tNil))) (tC (.int 0)))))) (gName 6))
    (tSeq (tAsg (tIf (tTru K (tVar 6)) (tCB cIntU (tCons (tOp (rIx K) (tVar 5) (tC (.int 1))) (tNil))) (tC (.int 0))) (gName 2))
    (tAsg (tC (.int 0)) (gName 3)))) (tIfS (tTest (tOp (rEqU K) (tOp (rIx K) (tVar 5) (tC (.int 0))) (tC (.str "pair")))) (tSeq (tAsg (tAndV (tOp rGtU (tVar 2) (tC (.int 0))) (tAndV (tOp (rInU K) (tCB (cLenU K) (tCons (tVar 5) (tNil))) (tTup (tCons (tC (.int 5)) (tCons (tC (.int 7)) (tNil))))) (tAndV (tOp (rEqU K) (tOp (rIx K) (tVar 5) (tUn (rU fun i => .int (-i)) (tC (.int 2)))) (tC (.str "at"))) (tCall (spW K W__law_all_are) [] E0 (tCons (tOp (rAddU K) (tSl (rSlU K) (tVar 5) (tPart (tC (.int 1))) (tPart (tUn (rU fun i => .int (-i)) (tC (.int 2))))) (tSl (rSlU K) (tVar 5) (tPart (tUn (rU fun i => .int (-i)) (tC (.int 1)))) (tNoPart))) (tNil)))))) (gName 6))
    (tSeq (tAsg (tOp rSubU (tVar 2) (tC (.int 1))) (gName 2))
    (tAsg (tC (.int 1)) (gName 3)))) (tIfS (tTest (tOp (rEqU K) (tOp (rIx K) (tVar 5) (tC (.int 0))) (tC (.str "first")))) (tAsg (tAndV (tOp (rEqU K) (tVar 3) (tC (.int 1))) (tAndV (tOp rGtU (tCB (cLenU K) (tCons (tVar 5) (tNil))) (tC (.int 3))) (tAndV (tCall (spW K W__law_all_are) [] E0 (tCons (tSl (rSlU K) (tVar 5) (tPart (tC (.int 1))) (tPart (tC (.int 3)))) (tNil))) (tCall (spW K W__law_is_told) [] E0 (tCons (tSl (rSlU K) (tVar 5) (tPart (tC (.int 3))) (tNoPart)) (tNil)))))) (gName 6)) (tIfS (tTest (tOp (rEqU K) (tOp (rIx K) (tVar 5) (tC (.int 0))) (tC (.str "second")))) (tSeq (tAsg (tAndV (tOp rGtU (tVar 3) (tC (.int 0))) (tAndV (tOp rGtU (tCB (cLenU K) (tCons (tVar 5) (tNil))) (tC (.int 2))) (tAndV (tCall (spW K W__law_is_number) [] E0 (tCons (tOp (rIx K) (tVar 5) (tC (.int 1))) (tNil))) (tCall (spW K W__law_is_told) [] E0 (tCons (tSl (rSlU K) (tVar 5) (tPart (tC (.int 2))) (tNoPart)) (tNil)))))) (gName 6))
    (tAsg (tC (.int 2)) (gName 3))) (tNext)))))
    (tIfS (tNot (tTru K (tVar 6))) (tRet (tOp (rAddU K) (tVar 4) (tC (.int 1)))) (tNext))))))
    (tRet (tIf (tTest (tOp rGtU (tVar 2) (tC (.int 0)))) (tOp (rAddU K) (tCB (cLenU K) (tCons (tVar 1) (tNil))) (tC (.int 1))) (tC (.int 0)))))))
theorem d__law_wrong_row {P : Program} {w : World} {K : PySem.W.Frag} {mg : Str → Option Value} {base : Heap} (C : Ctx K w mg) (c__law_all_are : C8.Cal P w K mg base 2 "_law_all_are" (spW K W__law_all_are) []) (c__law_is_told : C8.Cal P w K mg base 2 "_law_is_told" (spW K W__law_is_told) []) (c__law_is_number : C8.Cal P w K mg base 1 "_law_is_number" (spW K W__law_is_number) []) (f : Addr) (cdv : Value) (A : Around) (outer : List Env) (s : Shared) (H : Hp) (E : XK) (hr : Room 2 (A.deeper (envOfC "_law_wrong_row" (defScope s__law_wrong_row) s.heap.objs.size f cdv))) : PSs (cxOf CX0 P w K mg base N__law_wrong_row "_law_wrong_row" (defScope s__law_wrong_row) f cdv A outer s H E).nox (defBody s__law_wrong_row) (t__law_wrong_row K) := by
  have hu : (A.deeper (envOfC "_law_wrong_row" (defScope s__law_wrong_row) s.heap.objs.size f cdv)).units + 64 < cLine := hr.units
  have hv : (A.deeper (envOfC "_law_wrong_row" (defScope s__law_wrong_row) s.heap.objs.size f cdv)).units + (64 + 1) < cLine := by have := hr.un; omega
  have hu1 := Nat.lt_of_le_of_lt (Nat.add_le_add_left (by decide : 1 ≤ 64) _) hu
  exact pss_cons (ps_set (i := 1) sc__law_wrong_row.nd rfl (Or.inl rfl) (pe_ifExp (pt_truth (pv 0) (by intro _; rfl)) (pe_m1 PySem.F.slot_str_split PySem.F.type_str_split mt_split (pv 0) (pe_str)) (pe_lst (pa_nil))))
    (pss_cons (ps_set (i := 2) sc__law_wrong_row.nd rfl (Or.inl rfl) (pe_int))
    (pss_cons (ps_set (i := 3) sc__law_wrong_row.nd rfl (Or.inl rfl) (pe_int))
    (pss_cons (ps_for PassesOwn.never rfl (pi_range1 (by rfl) C.b_range (pa_cons (pe_callB call_lenU (by rfl) C.b_len PySem.boot_len (pa_cons (pv 1) (pa_nil))) (pa_nil))) (pg_name (i := 4) sc__law_wrong_row.nd rfl (Or.inl rfl)) (pss_cons (ps_set (i := 5) sc__law_wrong_row.nd rfl (Or.inl rfl) (pe_m1 PySem.F.slot_str_split PySem.F.type_str_split mt_split (pe_ix ix_seq (pv 1) (pv 4) (fun _ _ => rfl)) (pe_str)))
    (pss_cons (ps_set (i := 6) sc__law_wrong_row.nd rfl (Or.inl rfl) (pe_bl))
    (pss_cons (ps_if (pt_cmpR (op_eqU hu) (pe_ix ix_seq (pv 5) (pe_int) (fun _ _ => rfl)) (pe_str) (nomark _)) (pss_cons (ps_set (i := 6) sc__law_wrong_row.nd rfl (Or.inl rfl) (pe_and (pe_cmpR (op_eqU hu) (pv 2) (pe_int) (nomark _)) (pe_and (pe_cmpR op_gtU (pe_callB call_lenU (by rfl) C.b_len PySem.boot_len (pa_cons (pv 5) (pa_nil))) (pe_int) (nomark _)) (pe_and (C8.pe_c c__law_all_are hr (by decide) (by rfl) (pa_cons (pe_slice sl_U (pv 5) (po_some (pe_int)) (po_none)) (pa_nil))) (pe_one (pe_cmpR op_gtU (pe_callTy call_intU (by rfl) C.b_int PyProof.Rows.boot_int (pa_cons (pe_ix ix_seq (pv 5) (pe_int) (fun _ _ => rfl)) (pa_nil))) (pe_int) (nomark _)))))))
    (pss_cons (ps_set (i := 2) sc__law_wrong_row.nd rfl (Or.inl rfl) (pe_ifExp (pt_truth (pv 6) (by intro _; rfl)) (pe_callTy call_intU (by rfl) C.b_int PyProof.Rows.boot_int (pa_cons (pe_ix ix_seq (pv 5) (pe_int) (fun _ _ => rfl)) (pa_nil))) (pe_int)))
    (pss_one (ps_set (i := 3) sc__law_wrong_row.nd rfl (Or.inl rfl) (pe_int))))) (pss_one (ps_if (pt_cmpR (op_eqU hu) (pe_ix ix_seq (pv 5) (pe_int) (fun _ _ => rfl)) (pe_str) (nomark _)) (pss_cons (ps_set (i := 6) sc__law_wrong_row.nd rfl (Or.inl rfl) (pe_and (pe_cmpR op_gtU (pv 2) (pe_int) (nomark _)) (pe_and (pe_cmpR op_inU (pe_callB call_lenU (by rfl) C.b_len PySem.boot_len (pa_cons (pv 5) (pa_nil))) (pe_tup (pa_cons (pe_int) (pa_cons (pe_int) (pa_nil)))) (by rfl)) (pe_and (pe_cmpR (op_eqU hu) (pe_ix ix_seq (pv 5) (pe_un un_neg (pe_int)) (fun _ _ => rfl)) (pe_str) (nomark _)) (pe_one (C8.pe_c c__law_all_are hr (by decide) (by rfl) (pa_cons (pe_op op_addU (pe_slice sl_U (pv 5) (po_some (pe_int)) (po_some (pe_un un_neg (pe_int)))) (pe_slice sl_U (pv 5) (po_some (pe_un un_neg (pe_int))) (po_none))) (pa_nil))))))))
    (pss_cons (ps_set (i := 2) sc__law_wrong_row.nd rfl (Or.inl rfl) (pe_op op_subU (pv 2) (pe_int)))
    (pss_one (ps_set (i := 3) sc__law_wrong_row.nd rfl (Or.inl rfl) (pe_int))))) (pss_one (ps_if (pt_cmpR (op_eqU hu) (pe_ix ix_seq (pv 5) (pe_int) (fun _ _ => rfl)) (pe_str) (nomark _)) (pss_one (ps_set (i := 6) sc__law_wrong_row.nd rfl (Or.inl rfl) (pe_and (pe_cmpR (op_eqU hu) (pv 3) (pe_int) (nomark _)) (pe_and (pe_cmpR op_gtU (pe_callB call_lenU (by rfl) C.b_len PySem.boot_len (pa_cons (pv 5) (pa_nil))) (pe_int) (nomark _)) (pe_and (C8.pe_c c__law_all_are hr (by decide) (by rfl) (pa_cons (pe_slice sl_U (pv 5) (po_some (pe_int)) (po_some (pe_int))) (pa_nil))) (pe_one (C8.pe_c c__law_is_told hr (by decide) (by rfl) (pa_cons (pe_slice sl_U (pv 5) (po_some (pe_int)) (po_none)) (pa_nil))))))))) (pss_one (ps_if (pt_cmpR (op_eqU hu) (pe_ix ix_seq (pv 5) (pe_int) (fun _ _ => rfl)) (pe_str) (nomark _)) (pss_cons (ps_set (i := 6) sc__law_wrong_row.nd rfl (Or.inl rfl) (pe_and (pe_cmpR op_gtU (pv 3) (pe_int) (nomark _)) (pe_and (pe_cmpR op_gtU (pe_callB call_lenU (by rfl) C.b_len PySem.boot_len (pa_cons (pv 5) (pa_nil))) (pe_int) (nomark _)) (pe_and (C8.pe_c c__law_is_number hr (by decide) (by rfl) (pa_cons (pe_ix ix_seq (pv 5) (pe_int) (fun _ _ => rfl)) (pa_nil))) (pe_one (C8.pe_c c__law_is_told hr (by decide) (by rfl) (pa_cons (pe_slice sl_U (pv 5) (po_some (pe_int)) (po_none)) (pa_nil))))))))
    (pss_one (ps_set (i := 3) sc__law_wrong_row.nd rfl (Or.inl rfl) (pe_int)))) (pss_nil))))))))
    (pss_one (ps_if (pt_not (pt_truth (pv 6) (by intro _; rfl))) (pss_one (ps_ret (pe_op op_addU (pv 4) (pe_int)))) (pss_nil)))))))
    (pss_one (ps_ret (pe_ifExp (pt_cmpR op_gtU (pv 2) (pe_int) (nomark _)) (pe_op op_addU (pe_callB call_lenU (by rfl) C.b_len PySem.boot_len (pa_cons (pv 1) (pa_nil))) (pe_int)) (pe_int)))))))
theorem mk__law_wrong_row {P : Program} {w : World} {K : PySem.W.Frag} {mg : Str → Option Value} {base : Heap} (C : Ctx K w mg) (c__law_all_are : C8.Cal P w K mg base 2 "_law_all_are" (spW K W__law_all_are) []) (c__law_is_told : C8.Cal P w K mg base 2 "_law_is_told" (spW K W__law_is_told) []) (c__law_is_number : C8.Cal P w K mg base 1 "_law_is_number" (spW K W__law_is_number) []) (len : ∀ ρ0 Q, W__law_wrong_row ρ0 Q → ρ0.length = 1) (hx : ∀ ρ0 Q, W__law_wrong_row ρ0 Q → XS K (t__law_wrong_row K) (ρ0 ++ List.replicate (N__law_wrong_row.length - ρ0.length) .unk) (bodyPost ρ0 Q)) : C8.Cal P w K mg base 3 "_law_wrong_row" (spW K W__law_wrong_row) [] :=
  fnC C.f__law_wrong_row sc__law_wrong_row len (fun _ _ _ _ _ _ us hl => match us, hl with | [_], _ => rfl) (fun f cdv A outer s H E hr => d__law_wrong_row C c__law_all_are c__law_is_told c__law_is_number f cdv A outer s H E hr) hx
/-! ### _law_spoilt -/
abbrev N__law_spoilt : List Str := ["pool", "text", "rows", "at", "kind", "other", "k"]
theorem sc__law_spoilt : FnScope N__law_spoilt ["pool", "text"] (defScope s__law_spoilt) := ⟨rfl, rfl, rfl, by decide +kernel, rfl, by decide +kernel, by decide +kernel⟩
def t__law_spoilt (K : PySem.W.Frag) : TS :=
    tSeq (tAsg (tM1 rSplit (tVar 1) (tC (.str "\n"))) (gName 2))
    (tSeq (tAsg (tCall (spW K W__law_take) [] E0 (tCons (tVar 0) (tCons (tCB (cLenU K) (tCons (tVar 2) (tNil))) (tNil)))) (gName 3))
    (tSeq (tAsg (tCall (spW K W__law_take) [] E0 (tCons (tVar 0) (tCons (tC (.int 8)) (tNil)))) (gName 4))
    (tSeq (tIfS (tTest (tOp (rEqU K) (tVar 4) (tC (.int 0)))) (tAsg (tOp (rAddU K) (tSl (rSlU K) (tVar 2) (tNoPart) (tPart (tVar 3))) (tSl (rSlU K) (tVar 2) (tPart (tOp (rAddU K) (tVar 3) (tC (.int 1)))) (tNoPart))) (gName 2)) (tIfS (tTest (tOp (rEqU K) (tVar 4) (tC (.int 1)))) (tAsg (tOp (rAddU K) (tOp (rAddU K) (tSl (rSlU K) (tVar 2) (tNoPart) (tPart (tVar 3))) (tLst (tCons (tOp (rIx K) (tVar 2) (tVar 3)) (tNil)))) (tSl (rSlU K) (tVar 2) (tPart (tVar 3)) (tNoPart))) (gName 2)) (tIfS (tTest (tOp (rEqU K) (tVar 4) (tC (.int 2)))) (tSeq (tAsg (tCall (spW K W__law_take) [] E0 (tCons (tVar 0) (tCons (tCB (cLenU K) (tCons (tVar 2) (tNil))) (tNil)))) (gName 5))
    (tAsg (tLc (iRng1 (tCons (tCB (cLenU K) (tCons (tVar 2) (tNil))) (tNil))) (gName 6) (tYes) (tIf (tTest (tOp (rEqU K) (tVar 6) (tVar 3))) (tOp (rIx K) (tVar 2) (tVar 5)) (tIf (tTest (tOp (rEqU K) (tVar 6) (tVar 5))) (tOp (rIx K) (tVar 2) (tVar 3)) (tOp (rIx K) (tVar 2) (tVar 6)))) [6]) (gName 2))) (tIfS (tTest (tOp (rEqU K) (tVar 4) (tC (.int 3)))) (tAsg (tIf (tTru K (tCall (spW K W__law_take) [] E0 (tCons (tVar 0) (tCons (tC (.int 2)) (tNil))))) (tOp (rAddU K) (tOp (rAddU K) (tSl (rSlU K) (tVar 2) (tNoPart) (tPart (tVar 3))) (tLst (tCons (tC (.str "")) (tNil)))) (tSl (rSlU K) (tVar 2) (tPart (tVar 3)) (tNoPart))) (tOp (rAddU K) (tVar 2) (tLst (tCons (tC (.str "")) (tNil))))) (gName 2)) (tIfS (tTest (tOp (rEqU K) (tVar 4) (tC (.int 4)))) (tAsg (tSl (rSlU K) (tVar 2) (tNoPart) (tPart (tVar 3))) (gName 2)) (tAsg (tCall (spW K W__law_spoilt_row) [] E0 (tCons (tVar 0) (tCons (tOp (rIx K) (tVar 2) (tVar 3)) (tNil)))) (gSub (tVar 2) (tVar 3) rSetL)))))))
    (tRet (tM1 (rJoin K) (tC (.str "\n")) (tVar 2))))))
theorem d__law_spoilt {P : Program} {w : World} {K : PySem.W.Frag} {mg : Str → Option Value} {base : Heap} (C : Ctx K w mg) (c__law_take : C8.Cal P w K mg base 1 "_law_take" (spW K W__law_take) []) (c__law_spoilt_row : C8.Cal P w K mg base 2 "_law_spoilt_row" (spW K W__law_spoilt_row) []) (f : Addr) (cdv : Value) (A : Around) (outer : List Env) (s : Shared) (H : Hp) (E : XK) (hr : Room 2 (A.deeper (envOfC "_law_spoilt" (defScope s__law_spoilt) s.heap.objs.size f cdv))) : PSs (cxOf CX0 P w K mg base N__law_spoilt "_law_spoilt" (defScope s__law_spoilt) f cdv A outer s H E).nox (defBody s__law_spoilt) (t__law_spoilt K) := by
  have hu : (A.deeper (envOfC "_law_spoilt" (defScope s__law_spoilt) s.heap.objs.size f cdv)).units + 64 < cLine := hr.units
  have hv : (A.deeper (envOfC "_law_spoilt" (defScope s__law_spoilt) s.heap.objs.size f cdv)).units + (64 + 1) < cLine := by have := hr.un; omega
  have hu1 := Nat.lt_of_le_of_lt (Nat.add_le_add_left (by decide : 1 ≤ 64) _) hu
  exact pss_cons (ps_set (i := 2) sc__law_spoilt.nd rfl (Or.inr rfl) (pe_m1 PySem.F.slot_str_split PySem.F.type_str_split mt_split (pv 1) (pe_str)))
    (pss_cons (ps_set (i := 3) sc__law_spoilt.nd rfl (Or.inr rfl) (C8.pe_c c__law_take hr (by decide) (by rfl) (pa_cons (pv 0) (pa_cons (pe_callB call_lenU (by rfl) C.b_len PySem.boot_len (pa_cons (pv 2) (pa_nil))) (pa_nil)))))
    (pss_cons (ps_set (i := 4) sc__law_spoilt.nd rfl (Or.inl rfl) (C8.pe_c c__law_take hr (by decide) (by rfl) (pa_cons (pv 0) (pa_cons (pe_int) (pa_nil)))))
    (pss_cons (ps_if (pt_cmpR (op_eqU hu) (pv 4) (pe_int) (nomark _)) (pss_one (ps_set (i := 2) sc__law_spoilt.nd rfl (Or.inr rfl) (pe_op op_addU (pe_slice sl_U (pv 2) (po_none) (po_some (pv 3))) (pe_slice sl_U (pv 2) (po_some (pe_op op_addU (pv 3) (pe_int))) (po_none))))) (pss_one (ps_if (pt_cmpR (op_eqU hu) (pv 4) (pe_int) (nomark _)) (pss_one (ps_set (i := 2) sc__law_spoilt.nd rfl (Or.inr rfl) (pe_op op_addU (pe_op op_addU (pe_slice sl_U (pv 2) (po_none) (po_some (pv 3))) (pe_lst (pa_cons (pe_ix ix_seq (pv 2) (pv 3) (fun _ _ => rfl)) (pa_nil)))) (pe_slice sl_U (pv 2) (po_some (pv 3)) (po_none))))) (pss_one (ps_if (pt_cmpR (op_eqU hu) (pv 4) (pe_int) (nomark _)) (pss_cons (ps_set (i := 5) sc__law_spoilt.nd rfl (Or.inr rfl) (C8.pe_c c__law_take hr (by decide) (by rfl) (pa_cons (pv 0) (pa_cons (pe_callB call_lenU (by rfl) C.b_len PySem.boot_len (pa_cons (pv 2) (pa_nil))) (pa_nil)))))
    (pss_one (ps_set (i := 2) sc__law_spoilt.nd rfl (Or.inr rfl) (pe_lc (own := [("k", 6)]) rfl sc__law_spoilt.nd (pi_range1 (by rfl) C.b_range (pa_cons (pe_callB call_lenU (by rfl) C.b_len PySem.boot_len (pa_cons (pv 2) (pa_nil))) (pa_nil))) (blkOk_by (own := [("k", 6)]) (N := N__law_spoilt) (sc := defScope s__law_spoilt) (by decide +kernel)) (fun _ _ _ _ _ => pg_name (i := 6) sc__law_spoilt.nd rfl (Or.inl rfl)) (fun _ _ _ _ _ => pts_nil) (fun _ _ _ _ _ => pe_ifExp (pt_cmpR (op_eqU hu) (pv 6) (pv 3) (nomark _)) (pe_ix ix_seq (pv 2) (pv 5) (fun _ _ => rfl)) (pe_ifExp (pt_cmpR (op_eqU hu) (pv 6) (pv 5) (nomark _)) (pe_ix ix_seq (pv 2) (pv 3) (fun _ _ => rfl)) (pe_ix ix_seq (pv 2) (pv 6) (fun _ _ => rfl)))))))) (pss_one (ps_if (pt_cmpR (op_eqU hu) (pv 4) (pe_int) (nomark _)) (pss_one (ps_set (i := 2) sc__law_spoilt.nd rfl (Or.inr rfl) (pe_ifExp (pt_truth (C8.pe_c c__law_take hr (by decide) (by rfl) (pa_cons (pv 0) (pa_cons (pe_int) (pa_nil)))) (by intro _; rfl)) (pe_op op_addU (pe_op op_addU (pe_slice sl_U (pv 2) (po_none) (po_some (pv 3))) (pe_lst (pa_cons (pe_str) (pa_nil)))) (pe_slice sl_U (pv 2) (po_some (pv 3)) (po_none))) (pe_op op_addU (pv 2) (pe_lst (pa_cons (pe_str) (pa_nil))))))) (pss_one (ps_if (pt_cmpR (op_eqU hu) (pv 4) (pe_int) (nomark _)) (pss_one (ps_set (i := 2) sc__law_spoilt.nd rfl (Or.inr rfl) (pe_slice sl_U (pv 2) (po_none) (po_some (pv 3))))) (pss_one (ps_asg (C8.pe_c c__law_spoilt_row hr (by decide) (by rfl) (pa_cons (pv 0) (pa_cons (pe_ix ix_seq (pv 2) (pv 3) (fun _ _ => rfl)) (pa_nil)))) (pg_sub (pv 2) (pv 3) set_list))))))))))))
    (pss_one (ps_ret (pe_m1 PySem.F.slot_str_join PySem.F.type_str_join mt_join (pe_str) (pv 2)))))))
theorem mk__law_spoilt {P : Program} {w : World} {K : PySem.W.Frag} {mg : Str → Option Value} {base : Heap} (C : Ctx K w mg) (c__law_take : C8.Cal P w K mg base 1 "_law_take" (spW K W__law_take) []) (c__law_spoilt_row : C8.Cal P w K mg base 2 "_law_spoilt_row" (spW K W__law_spoilt_row) []) (len : ∀ ρ0 Q, W__law_spoilt ρ0 Q → ρ0.length = 2) (hx : ∀ ρ0 Q, W__law_spoilt ρ0 Q → XS K (t__law_spoilt K) (ρ0 ++ List.replicate (N__law_spoilt.length - ρ0.length) .unk) (bodyPost ρ0 Q)) : C8.Cal P w K mg base 3 "_law_spoilt" (spW K W__law_spoilt) [] :=
  fnC C.f__law_spoilt sc__law_spoilt len (fun _ _ _ _ _ _ us hl => match us, hl with | [_, _], _ => rfl) (fun f cdv A outer s H E hr => d__law_spoilt C c__law_take c__law_spoilt_row f cdv A outer s H E hr) hx
end K95
namespace K95
open PySem PySem.Spec PyProof.Rows L2 Dn
local macro_rules | `(tactic| walk_at "dn") => `(tactic| first
  | ((with_reducible apply ev_lenO); (with_unfolding_all rfl))
  | ((with_reducible apply ev_ixO); (with_unfolding_all rfl))
  | ((with_reducible apply ev_callO); (with_unfolding_all rfl))
  | ((with_reducible apply xs_put'); (with_unfolding_all rfl))
  | with_reducible (first
    | refine xs_seq ?_ | refine xs_ret ?_ | refine xs_retN ?_ | refine xs_if ?_ | refine xs_next ?_ | refine xs_brk ?_ | refine xs_cont ?_ | refine xs_asgT ?_
    | refine et_test ?_ | refine et_or ?_ | refine et_and ?_ | refine et_not ?_ | refine et_B ?_ | refine et_yes ?_
    | refine ev_int ?_ | refine ev_str ?_ | refine ev_non ?_ | refine ev_bl ?_
    | refine ev_op ?_ | refine ev_un ?_ | refine ev_chain ?_ | refine ev_if ?_ | refine ev_andV ?_ | refine ev_orV ?_ | refine ev_notV ?_ | refine ev_cb ?_ | refine ev_sl ?_ | refine ev_tup ?_ | refine ev_m0 ?_ | refine ev_m1 ?_ | refine ev_callD ?_
    | refine (ef_lst ?_).ev | refine ef_lst ?_
    | refine ei_str ?_ | refine ei_seq ?_ | refine ei_rng1 ?_ | refine ei_rng2 ?_ | refine ei_rng3 ?_ | refine ea_cons ?_ | refine ea_nil ?_ | refine eo_none ?_ | refine eo_some ?_
    | refine oj_is_non ?_ | refine oj_is_int ?_ | refine oj_is_str ?_ | refine oj_is_tup ?_ | refine oj_isn_non ?_ | refine oj_isn_int ?_ | refine oj_isn_tup ?_ | refine oj_add_int ?_ | refine oj_sub ?_ | refine oj_le ?_ | refine oj_lt ?_ | refine oj_ge ?_ | refine oj_gt ?_ | refine oj_eq_int ?_ | refine oj_eq_str ?_ | refine oj_ne_int ?_ | refine oj_ne_str ?_ | refine oj_nin_sign ?_ | refine oj_in_sign ?_
    | refine uj_isdigit ?_ | refine uj_neg ?_
    | refine sj_lst ?_ | refine sj_tup ?_ | refine sj_rol ?_
    | refine cj_strS ?_ | refine cj_int ?_ | refine cj_lenL ?_ | refine cj_lenT ?_ | refine cj_tupL ?_ | refine cj_tupT ?_
    | refine gj_tup rfl ?_ | refine gsj_cons ?_ | refine gsj_nil ?_
    | refine br_t ?_ | refine br_f ?_ | refine br_nt ?_ | refine br_nf ?_ | refine br_d ?_ ?_ | refine br_nn ?_ ?_ | refine br_n ?_ ?_
    | refine sz_0 ?_ | refine sz_1 ?_ | refine sz_2 ?_ | refine sz_3 ?_ | refine sz_4 ?_ | refine bl_ex ?_ | refine int_ex ?_ | refine str_ex ?_ | refine tup_ex ?_ | refine sq_lst ?_ | refine sq_tup ?_ | refine ds_nil ?_ | refine ds_1 ?_ | refine ds_2 ?_ | refine ds_3 ?_ | refine ds_4 ?_)
  | ((with_reducible first | apply dsO_0 | apply dsO_1 | apply dsO_2 | apply put_ex1); (with_unfolding_all rfl))
  | ((with_reducible first | apply ixO_ex | apply put_ex2); (with_unfolding_all rfl); (with_unfolding_all rfl))
  | rw [setHd_cons]
  | rw [List.set_cons_succ] | rw [List.set_cons_zero]
  | ((with_reducible apply ev_var); (with_unfolding_all rfl))
  | ((with_reducible apply ev_frz); (with_unfolding_all rfl))
  | ((with_reducible apply gj_name); (first | decide | simp; done))
  | (with_reducible refine body_rt (by simp [kept, Sl.ad]) ?_; simp only [Dn.fin, Sl.ad])
  | (with_reducible refine cj_lenS ?_ ?_; (first | assumption | (apply Sm.le; assumption) | omega))
  | (with_reducible refine sj_str ?_ ?_; (first | assumption | (apply Sm.le; assumption) | omega))
  | (dsimp only) | (dsimp only [oi_n, oi_s, dOI_n, dOI_s, dOpt_n, dOpt_s]))
theorem fig_mem {c : Nat} : c ∈ (Str.ofString "0123456789").cps.toList ↔ 48 ≤ c ∧ c ≤ 57 := by
  have e : (Str.ofString "0123456789").cps.toList = [48, 49, 50, 51, 52, 53, 54, 55, 56, 57] := by decide +kernel
  rw [e]
  simp only [List.mem_cons, List.not_mem_nil, or_false]
  omega
theorem str_tl {a b : Str} : a = b ↔ tl a = tl b := by
  constructor
  · rintro rfl; rfl
  · intro h
    cases a; cases b
    simp only [tl] at h
    exact congrArg Str.mk (Array.ext' h)
theorem len_tl (s : Str) : s.length = (tl s).length := by simp [tl, Str.length]
theorem x_read_number {K : PySem.W.Frag} (ρ0 : List Sl) (Q : D → List Sl → Prop) (h : W_read_number ρ0 Q) : XS K (t_read_number K) (ρ0 ++ List.replicate (N_read_number.length - ρ0.length) .unk) (bodyPost ρ0 Q) := by
  obtain ⟨s, rfl, hz, hq⟩ := h
  show XS K (t_read_number K) [.dat (.str s), .unk] _
  unfold t_read_number
  have non : isFig (tl s) = false → Q .non [.unk] := fun h => by
    rw [show numU s = none by unfold numU numL; rw [h]; rfl] at hq
    exact hq
  have hl := len_tl s
  have lo0 : ¬ ((tl s).length ≤ 12) → isFig (tl s) = false := fun h => by unfold isFig; rw [show decide ((tl s).length ≤ 12) = false from decide_eq_false h, Bool.and_false]; rfl
  have lo1 : ¬ (1 ≤ (tl s).length) → isFig (tl s) = false := fun h => by unfold isFig; rw [show decide (1 ≤ (tl s).length) = false from decide_eq_false h]; rfl
  repeat walk_at "dn"
  · intro h1
    obtain ⟨c, r, hc⟩ : ∃ c r, tl s = c :: r := by
      cases z : tl s with
      | nil => rw [z] at hl; have : s.length = 0 := hl; omega
      | cons c r => exact ⟨c, r, rfl⟩
    have e0 : (c = 48) ↔ ((⟨#[c]⟩ : Str) = Str.ofString "0") := by rw [str_tl]; show c = 48 ↔ [c] = [48]; simp
    have e1 : (c :: r = [48]) ↔ (s = Str.ofString "0") := by rw [str_tl, hc]; exact Iff.rfl
    repeat walk_at "dn"
    · intro h2
      repeat walk_at "dn"
      exact non (lo0 (by omega))
    · intro h2
      have lo : (decide (1 ≤ (tl s).length) && decide ((tl s).length ≤ 12)) = true := by
        rw [Bool.and_eq_true]
        exact ⟨decide_eq_true (by omega), decide_eq_true (by omega)⟩
      have main : (isFig (tl s) = ((tl s).all fun c => decide (48 ≤ c) && decide (c ≤ 57))) → XS K (tFor (iStr (tVar 0)) (gName 1) (tIfS (tTest (tOp (rNinU K) (tVar 1) (tC (.str "0123456789")))) (tRet (tC .non)) (tNext))) [.dat (.str s), .unk] { (bodyPost [.dat (.str s)] Q) with nx := fun ρ' => XS K (tRet (tCB cIntU (tCons (tVar 0) (tNil)))) ρ' (bodyPost [.dat (.str s)] Q) } := fun hf => by
        repeat walk_at "dn"
        refine xs_for (gs := [1]) ?_
        repeat walk_at "dn"
        refine ⟨fun i ρ' => ∃ x, ρ' = [.dat (.str s), x] ∧ ∀ j c, j < i → (tl s)[j]? = some c → 48 ≤ c ∧ c ≤ 57, ⟨_, rfl, fun j c h => by omega⟩, ?_, ?_⟩
        · rintro i d ρ' hd ⟨x, rfl, hv⟩
          simp only [signsD, List.getElem?_map] at hd
          cases hx : s.cps.toList[i]? with
          | none => rw [hx] at hd; cases hd
          | some c =>
            rw [hx] at hd
            obtain rfl := Option.some.inj hd
            repeat walk_at "dn"
            · intro h3
              repeat walk_at "dn"
              refine non ?_
              rw [hf, List.all_eq_false]
              refine ⟨c, List.mem_of_getElem? hx, fun q => h3 (fig_mem.mpr ?_)⟩
              simpa using q
            · intro h3
              repeat walk_at "dn"
              refine ⟨_, rfl, fun j d hj hd => ?_⟩
              rcases Nat.lt_or_ge j i with c1 | c1
              · exact hv j d c1 hd
              · obtain rfl : j = i := by omega
                rw [show tl s = s.cps.toList from rfl, hx] at hd
                obtain rfl := Option.some.inj hd
                exact fig_mem.mp h3
        · rintro ρ' ⟨x, rfl, hv⟩
          have al : NumText.AllDigits (tl s) := fun c hc => by
            obtain ⟨j, hj⟩ := List.getElem?_of_mem hc
            exact hv j c (by have := (List.getElem?_eq_some_iff.mp hj).1; simpa [signsD] using this) hj
          repeat walk_at "dn"
          have hz' : s.length ≤ 12 := by omega
          refine cj_intS (intText_digits al (fun z => nomatch (show c :: r = [] from hc.symm.trans z)) (by omega)) (by omega) ?_
          repeat walk_at "dn"
          have : numU s = some ((NumText.digitsVal (tl s) : Nat) : Int) := by
            unfold numU numL
            rw [hf, if_pos]
            rw [List.all_eq_true]
            intro c hc
            simpa using al c hc
          rw [this] at hq
          exact hq
      repeat walk_at "dn"
      refine oj_ixS hz.le (c := c) (by rw [show s.cps.toList = c :: r from hc]; exact atI_zero) ?_
      repeat walk_at "dn"
      · intro h3
        repeat walk_at "dn"
        · intro h4
          repeat walk_at "dn"
          refine non ?_
          unfold isFig
          rw [lo, hc]
          have a1 : c = 48 := e0.mpr h3
          have a2 : ¬ (c :: r = [48]) := fun z => h4 (e1.mp z)
          simp [a1] at a2 ⊢
          simp [a2]
        · intro h4
          repeat walk_at "dn"
          refine main ?_
          unfold isFig
          rw [lo, hc]
          have a2 : c :: r = [48] := e1.mpr h4
          simp [a2]
      · intro h3
        repeat walk_at "dn"
        refine main ?_
        unfold isFig
        rw [lo, hc]
        have a1 : ¬ c = 48 := fun z => h3 (e0.mp z)
        simp [a1]
  · intro h1
    repeat walk_at "dn"
    exact non (lo1 (by omega))
theorem Sm.cut {s : Str} (h : Sm s) (lo hi : Option Int) : Sm (cutS s lo hi) := Nat.le_trans (cutS_length s lo hi) h
theorem x_read_integer {K : PySem.W.Frag} (ρ0 : List Sl) (Q : D → List Sl → Prop) (h : W_read_integer ρ0 Q) : XS K (t_read_integer K) (ρ0 ++ List.replicate (N_read_integer.length - ρ0.length) .unk) (bodyPost ρ0 Q) := by
  obtain ⟨s, rfl, hz, hq⟩ := h
  show XS K (t_read_integer K) [.dat (.str s), .unk] _
  unfold t_read_integer
  have e1 : tl (cutS s none (some 1)) = (tl s).take 1 := (cutS_tl s _ _).trans (cutL_to _ 1)
  have e2 : tl (cutS s (some 1) none) = (tl s).drop 1 := (cutS_tl s _ _).trans (cutL_from _ 1)
  have hm : cutS s none (some 1) = Str.ofString "-" ↔ ∃ r, tl s = 45 :: r := by
    rw [str_tl, e1]
    show (tl s).take 1 = [45] ↔ _
    cases tl s with
    | nil => simp
    | cons c r => simp
  repeat walk_at "dn"
  · intro h1
    repeat walk_at "dn"
    refine ⟨s, rfl, hz, ?_⟩
    repeat walk_at "dn"
    have : numW s = numU s := by
      unfold numW numU numN
      split
      · rename_i r q
        exact (h1 (hm.mpr ⟨r, q⟩)).elim
      · rfl
    rw [this] at hq
    exact hq
  · intro h1
    obtain ⟨r, hr⟩ := hm.mp h1
    have e3 : numU (cutS s (some 1) none) = numL r := by unfold numU; rw [e2, hr]; rfl
    have e4 : numW s = (match numL r with | none => none | some n => if n = 0 then none else some (-n)) := by unfold numW; rw [hr]; rfl
    repeat walk_at "dn"
    refine xs_set ?_
    repeat walk_at "dn"
    refine ⟨_, rfl, hz.cut _ _, ?_⟩
    rw [e3]
    rw [e4] at hq
    cases hn : numL r with
    | none =>
      rw [hn] at hq
      dsimp only [oi] at hq ⊢
      repeat walk_at "dn"
      exact hq
    | some n =>
      rw [hn] at hq
      dsimp only [oi] at hq ⊢
      repeat walk_at "dn"
      · intro h3
        repeat walk_at "dn"
        rw [if_pos h3] at hq
        exact hq
      · intro h3
        repeat walk_at "dn"
        rw [if_neg h3] at hq
        exact hq
theorem nums_none {ws : List Str} : nums ws = none ↔ ∃ w ∈ ws, numW w = none := by
  unfold nums
  induction ws with
  | nil => simp
  | cons w r ih =>
    rw [List.mapM_cons]
    cases hw : numW w with
    | none => simp [hw]
    | some n =>
      cases hr : r.mapM numW with
      | none =>
        obtain ⟨x, h1, h2⟩ := ih.mp hr
        exact ⟨fun _ => ⟨x, List.mem_cons_of_mem _ h1, h2⟩, fun _ => by simp⟩
      | some ns =>
        have : ¬ ∃ w ∈ r, numW w = none := fun z => by rw [ih.mpr z] at hr; cases hr
        simp [hw, hr]
        simpa using this
theorem nums_some {ws : List Str} : ∀ {ns : List Int}, nums ws = some ns → ws.map numW = ns.map some := by
  unfold nums
  induction ws with
  | nil => intro ns h; simp at h; subst h; rfl
  | cons w r ih =>
    intro ns h
    rw [List.mapM_cons] at h
    cases hw : numW w with
    | none => rw [hw] at h; cases h
    | some n =>
      cases hr : r.mapM numW with
      | none => rw [hw, hr] at h; cases h
      | some ms =>
        rw [hw, hr] at h
        obtain rfl : n :: ms = ns := by simpa using h
        simp [hw, ih hr]
def vOi : Option Int → V
  | none => .non
  | some i => .int i
theorem x_read_integers {K : PySem.W.Frag} (ρ0 : List Sl) (Q : D → List Sl → Prop) (h : W_read_integers ρ0 Q) : XS K (t_read_integers K) (ρ0 ++ List.replicate (N_read_integers.length - ρ0.length) .unk) (bodyPost ρ0 Q) := by
  obtain ⟨ws, rfl, hz, hq⟩ := h
  show XS K (t_read_integers K) [.dat (dStrs ws), .unk, .unk] _
  unfold t_read_integers
  repeat walk_at "dn"
  refine xs_set ?_
  repeat walk_at "dn"
  refine (ef_map (gs := [2]) (by decide) ?_).ev
  repeat walk_at "dn"
  refine ⟨Str, ws, .str, fun w => oi (numW w), rfl, Nat.le_trans hz.1 (by decide), by simp [noOwn, Sl.ad], fun w hw => ?_, ?_⟩
  · refine gj_name (by decide) ?_
    repeat walk_at "dn"
    refine ⟨w, rfl, hz.2 w hw, rfl, rfl⟩
  · repeat walk_at "dn"
    refine oj_in (u := .non) rfl rfl (fls_map _ (fun w => vOi (numW w)) ws fun w _ => by cases numW w <;> rfl) ?_
    have key : inV .non (ws.map fun w => vOi (numW w)) = true ↔ nums ws = none := by
      rw [nums_none]
      unfold inV
      rw [List.any_map, List.any_eq_true]
      constructor
      · rintro ⟨w, h1, h2⟩
        refine ⟨w, h1, ?_⟩
        cases z : numW w with
        | none => rfl
        | some n => simp only [Function.comp, z] at h2; cases h2
      · rintro ⟨w, h1, h2⟩
        refine ⟨w, h1, ?_⟩
        simp only [Function.comp, h2]
        rfl
    repeat walk_at "dn"
    refine br_b (fun h1 => ?_) fun h1 => ?_
    · repeat walk_at "dn"
      rw [key.mp h1] at hq
      exact hq
    · repeat walk_at "dn"
      cases hn : nums ws with
      | none => rw [key.mpr hn] at h1; cases h1
      | some ns =>
        rw [hn] at hq
        have := nums_some hn
        rw [show ws.map (fun w => oi (numW w)) = ns.map D.int by
          rw [show (fun w => oi (numW w)) = oi ∘ numW from rfl, ← List.map_map, this, List.map_map]; rfl]
        exact hq
theorem cut1 {α : Type} (xs : List α) (f : α → D) : cutD (xs.map f) (some 1) none = (xs.drop 1).map f := cut_from xs f 1
theorem cut2 {α : Type} (xs : List α) (f : α → D) : cutD (xs.map f) (some 2) none = (xs.drop 2).map f := cut_from xs f 2
theorem cut3 {α : Type} (xs : List α) (f : α → D) : cutD (xs.map f) (some 3) none = (xs.drop 3).map f := cut_from xs f 3
theorem cut13 {α : Type} (xs : List α) (f : α → D) : cutD (xs.map f) (some 1) (some 3) = ((xs.drop 1).take 2).map f := by rw [cutD_map, show cutL xs (some 1) (some 3) = (xs.drop 1).take 2 from cutL_mid' xs 1 3 (by decide)]
theorem cut12 {α : Type} (xs : List α) (f : α → D) : cutD (xs.map f) (some 1) (some 2) = ((xs.drop 1).take 1).map f := by rw [cutD_map, show cutL xs (some 1) (some 2) = (xs.drop 1).take 1 from cutL_mid' xs 1 2 (by decide)]
theorem x_read_unit_row {K : PySem.W.Frag} (ρ0 : List Sl) (Q : D → List Sl → Prop) (h : W_read_unit_row ρ0 Q) : XS K (t_read_unit_row K) (ρ0 ++ List.replicate (N_read_unit_row.length - ρ0.length) .unk) (bodyPost ρ0 Q) := by
  obtain ⟨ws, rfl, hn, hz, hq⟩ := h
  show XS K (t_read_unit_row K) [.dat (dStrs ws), .unk] _
  unfold t_read_unit_row
  cases ws with
  | nil => exact (hn rfl).elim
  | cons w r =>
    repeat walk_at "dn"
    refine xs_set ?_
    repeat walk_at "dn"
    rw [cut1]
    refine ⟨r, rfl, hz.drop 1, ?_⟩
    unfold unitR at hq
    dsimp only at hq
    repeat walk_at "dn"
    refine oj_ixL (atI_zero) ?_
    repeat walk_at "dn"
    · intro h1
      repeat walk_at "dn"
      cases hr : nums r with
      | none => rw [hr] at hq; exact hq
      | some ns =>
        rw [hr] at hq
        cases ns with
        | nil => exact hq
        | cons n ns => dsimp only at hq; rw [if_neg (fun z => h1 z.1)] at hq; exact hq
    · intro h1
      repeat walk_at "dn"
      cases hr : nums r with
      | none =>
        rw [hr] at hq
        repeat walk_at "dn"
        exact hq
      | some ns =>
        rw [hr] at hq
        cases ns with
        | nil =>
          repeat walk_at "dn"
          · intro _
            repeat walk_at "dn"
            exact hq
          · intro z
            exact (z rfl).elim
        | cons n ns =>
          repeat walk_at "dn"
          · intro z
            exact absurd (show ((ns.length + 1 : Nat) : Int) = 0 by simpa using z) (by omega)
          · intro _
            repeat walk_at "dn"
            refine oj_ixT (atI_zero) ?_
            repeat walk_at "dn"
            · intro h2
              repeat walk_at "dn"
              dsimp only at hq
              rw [if_neg (fun z => by omega)] at hq
              exact hq
            · intro h2
              repeat walk_at "dn"
              refine oj_ixT (atI_zero) ?_
              repeat walk_at "dn"
              rw [cut1]
              dsimp only at hq
              rw [if_pos ⟨h1, by omega⟩] at hq
              exact hq
theorem told_get {K : PySem.W.Frag} {w : World} {mg : Str → Option Value} (C : Ctx K w mg) (z : Str) : ∃ (r : Option Value) (v : V), PySem.W.nsIn K (He.ga K "TOLD_SIZES") z = some r ∧ (match r with | none => v = .non | some u => RelV v u) ∧ fl (dOpt (fun n : Nat => D.int n) (toldN z)) = some v := by
  unfold toldN
  by_cases h1 : z = "num"
  · subst h1
    obtain ⟨u, q1, q2⟩ := C.v_TOLD_SIZES_num
    exact ⟨some u, .int 2, q1, q2, rfl⟩
  · rw [if_neg h1]
    by_cases h2 : z = "len"
    · subst h2
      obtain ⟨u, q1, q2⟩ := C.v_TOLD_SIZES_len
      exact ⟨some u, .int 3, q1, q2, rfl⟩
    · rw [if_neg h2]
      by_cases h3 : z = "spot"
      · subst h3
        obtain ⟨u, q1, q2⟩ := C.v_TOLD_SIZES_spot
        exact ⟨some u, .int 4, q1, q2, rfl⟩
      · rw [if_neg h3]
        exact ⟨none, .non, dicW_miss C.k_TOLD_SIZES (by simp [h1, h2, h3]), rfl, rfl⟩
theorem x_read_told {K : PySem.W.Frag} {w : World} {mg : Str → Option Value} (C : Ctx K w mg) (ρ0 : List Sl) (Q : D → List Sl → Prop) (h : W_read_told ρ0 Q) : XS K (t_read_told K) (ρ0 ++ List.replicate (N_read_told.length - ρ0.length) .unk) (bodyPost ρ0 Q) := by
  obtain ⟨ws, rfl, hz, hq⟩ := h
  show XS K (t_read_told K) [.dat (dStrs ws), .unk] _
  unfold t_read_told
  unfold toldR at hq
  cases ws with
  | nil =>
    repeat walk_at "dn"
    · intro _
      repeat walk_at "dn"
      exact hq
    · intro z
      exact (z rfl).elim
  | cons w r =>
    repeat walk_at "dn"
    · intro z
      exact absurd (show ((r.length + 1 : Nat) : Int) = 0 by simpa using z) (by omega)
    intro _
    repeat walk_at "dn"
    refine ev_kget ?_
    repeat walk_at "dn"
    refine oj_ixL atI_zero ?_
    obtain ⟨o, v, g1, g2, g3⟩ := told_get C w
    refine ⟨w, o, v, _, rfl, g1, g2, g3, ?_⟩
    dsimp only at hq
    have ln : ((w :: r).map D.str).length = (w :: r).length := by simp
    cases hw : toldN w with
    | none =>
      rw [hw] at hq
      rw [if_neg (fun z => nomatch z)] at hq
      dsimp only [dOpt_n]
      repeat walk_at "dn"
      refine oj_ne (u := .non) rfl rfl rfl ?_
      refine ⟨true, rfl, ?_⟩
      repeat walk_at "dn"
      exact hq
    | some k =>
      rw [hw] at hq
      repeat walk_at "dn"
      · intro h1
        repeat walk_at "dn"
        rw [if_neg (fun z => h1 (by rw [ln]; exact congrArg (fun n : Nat => (n : Int)) (Option.some.inj z)))] at hq
        exact hq
      · intro h1
        rw [if_pos (congrArg some (by rw [ln] at h1; exact Int.ofNat_inj.mp h1))] at hq
        repeat walk_at "dn"
        refine xs_set ?_
        repeat walk_at "dn"
        rw [cut1]
        refine ⟨r, rfl, hz.drop 1, ?_⟩
        cases hr : nums r with
        | none =>
          rw [hr] at hq
          repeat walk_at "dn"
          exact hq
        | some ns =>
          rw [hr] at hq
          repeat walk_at "dn"
          refine oj_ixL atI_zero ?_
          repeat walk_at "dn"
          have hl : ns.length = r.length := by
            have := congrArg List.length (nums_some hr)
            simpa using this.symm
          refine oj_add_tup (by have := hz.1; simp at this ⊢; unfold sizeLine; omega) ?_
          repeat walk_at "dn"
          exact hq
theorem nums2 {a b : Str} : nums [a, b] = (match numW a, numW b with | some x, some y => some [x, y] | _, _ => none) := by
  unfold nums
  cases h1 : numW a <;> cases h2 : numW b <;> simp [h1, h2]
def mkFirst : Option (List Int) → Option Told → Option ((Int × Int) × Told)
  | some [x, y], some t => some ((x, y), t)
  | _, _ => none
theorem mkFirst_none (o : Option (List Int)) : mkFirst o none = none := by unfold mkFirst; split <;> simp_all
def mkSecond : Option (List Int) → Option Told → Option (Int × Told)
  | some [x], some t => some (x, t)
  | _, _ => none
theorem mkSecond_none (o : Option (List Int)) : mkSecond o none = none := by unfold mkSecond; split <;> simp_all
theorem x_read_first_row {K : PySem.W.Frag} (ρ0 : List Sl) (Q : D → List Sl → Prop) (h : W_read_first_row ρ0 Q) : XS K (t_read_first_row K) (ρ0 ++ List.replicate (N_read_first_row.length - ρ0.length) .unk) (bodyPost ρ0 Q) := by
  obtain ⟨ws, rfl, hn, hz, hq⟩ := h
  show XS K (t_read_first_row K) [.dat (dStrs ws), .unk, .unk] _
  unfold t_read_first_row
  repeat walk_at "dn"
  refine xs_set ?_
  repeat walk_at "dn"
  rw [cut13]
  refine ⟨_, rfl, (hz.drop 1).take 2, ?_⟩
  repeat walk_at "dn"
  refine xs_set ?_
  repeat walk_at "dn"
  rw [cut3]
  refine ⟨_, rfl, hz.drop 3, ?_⟩
  have key : firstR ws = mkFirst (nums ((ws.drop 1).take 2)) (toldR (ws.drop 3)) := by
    cases ws with
    | nil => rfl
    | cons a r =>
      cases r with
      | nil => rfl
      | cons b r =>
        cases r with
        | nil =>
          show none = _
          rw [show toldR (List.drop 3 [a, b]) = none from rfl, mkFirst_none]
        | cons c r => rfl
  rw [key] at hq
  cases h1 : nums ((ws.drop 1).take 2) with
  | none =>
    rw [h1] at hq
    repeat walk_at "dn"
    exact hq
  | some ns =>
    rw [h1] at hq
    repeat walk_at "dn"
    cases h2 : toldR (ws.drop 3) with
    | none =>
      rw [h2] at hq
      repeat walk_at "dn"
      rw [mkFirst_none] at hq
      exact hq
    | some t =>
      rw [h2] at hq
      repeat walk_at "dn"
      have l3 : ws.length ≥ 4 := by
        have : ws.drop 3 ≠ [] := fun z => by rw [z] at h2; cases h2
        rcases Nat.lt_or_ge ws.length 4 with c | c
        · exact (this (List.drop_eq_nil_of_le (by omega))).elim
        · exact c
      have hl : ns.length = 2 := by
        have := congrArg List.length (nums_some h1)
        simp at this
        omega
      obtain ⟨x, y, rfl⟩ : ∃ x y, ns = [x, y] := by
        match ns, hl with
        | [x, y], _ => exact ⟨x, y, rfl⟩
      exact hq
theorem x_read_second_row {K : PySem.W.Frag} (ρ0 : List Sl) (Q : D → List Sl → Prop) (h : W_read_second_row ρ0 Q) : XS K (t_read_second_row K) (ρ0 ++ List.replicate (N_read_second_row.length - ρ0.length) .unk) (bodyPost ρ0 Q) := by
  obtain ⟨ws, rfl, hn, hz, hq⟩ := h
  show XS K (t_read_second_row K) [.dat (dStrs ws), .unk, .unk] _
  unfold t_read_second_row
  repeat walk_at "dn"
  refine xs_set ?_
  repeat walk_at "dn"
  rw [cut12]
  refine ⟨_, rfl, (hz.drop 1).take 1, ?_⟩
  repeat walk_at "dn"
  refine xs_set ?_
  repeat walk_at "dn"
  rw [cut2]
  refine ⟨_, rfl, hz.drop 2, ?_⟩
  have key : secondR ws = mkSecond (nums ((ws.drop 1).take 1)) (toldR (ws.drop 2)) := by
    cases ws with
    | nil => rfl
    | cons a r =>
      cases r with
      | nil =>
          show none = _
          rw [show toldR (List.drop 2 [a]) = none from rfl, mkSecond_none]
      | cons b r => rfl
  rw [key] at hq
  cases h1 : nums ((ws.drop 1).take 1) with
  | none =>
    rw [h1] at hq
    repeat walk_at "dn"
    exact hq
  | some ns =>
    rw [h1] at hq
    repeat walk_at "dn"
    cases h2 : toldR (ws.drop 2) with
    | none =>
      rw [h2] at hq
      repeat walk_at "dn"
      rw [mkSecond_none] at hq
      exact hq
    | some t =>
      rw [h2] at hq
      repeat walk_at "dn"
      have l3 : ws.length ≥ 3 := by
        have : ws.drop 2 ≠ [] := fun z => by rw [z] at h2; cases h2
        rcases Nat.lt_or_ge ws.length 3 with c | c
        · exact (this (List.drop_eq_nil_of_le (by omega))).elim
        · exact c
      have hl : ns.length = 1 := by
        have := congrArg List.length (nums_some h1)
        simp at this
        omega
      obtain ⟨x, rfl⟩ : ∃ x, ns = [x] := by
        match ns, hl with
        | [x], _ => exact ⟨x, rfl⟩
      refine oj_add_tup (by show 2 ≤ sizeLine; decide) ?_
      repeat walk_at "dn"
      exact hq
theorem len3 {ns : List Int} (h : ns.length = 3) : ∃ a b z, ns = [a, b, z] := by
  match ns, h with
  | [a, b, z], _ => exact ⟨a, b, z, rfl⟩
theorem len5 {ns : List Int} (h : ns.length = 5) : ∃ a b c d z, ns = [a, b, c, d, z] := by
  match ns, h with
  | [a, b, c, d, z], _ => exact ⟨a, b, c, d, z, rfl⟩
theorem x_read_pair_row {K : PySem.W.Frag} {w : World} {mg : Str → Option Value} (C : Ctx K w mg) (ρ0 : List Sl) (Q : D → List Sl → Prop) (h : W_read_pair_row ρ0 Q) : XS K (t_read_pair_row K) (ρ0 ++ List.replicate (N_read_pair_row.length - ρ0.length) .unk) (bodyPost ρ0 Q) := by
  obtain ⟨ws, rfl, hn, hz, hq⟩ := h
  show XS K (t_read_pair_row K) [.dat (dStrs ws), .unk, .unk] _
  unfold t_read_pair_row
  have ln : (ws.map D.str).length = ws.length := by simp
  unfold pairR at hq
  obtain ⟨w0, r, hw⟩ : ∃ w0 r, ws = w0 :: r := by
    cases ws with
    | nil => exact (hn rfl).elim
    | cons w0 r => exact ⟨w0, r, rfl⟩
  have h0 : atI (ws.map D.str) 0 = some (.str w0) := by rw [hw]; exact atI_zero
  have e0 : ws.head? = some w0 := by rw [hw]; rfl
  rw [e0] at hq
  repeat walk_at "dn"
  refine oj_ixL h0 ?_
  repeat walk_at "dn"
  · intro h1
    repeat walk_at "dn"
    rw [if_neg (fun z => h1 (Option.some.inj z.1))] at hq
    exact hq
  · intro h1
    repeat walk_at "dn"
    refine ev_c (d := .tup [.int 5, .int 7]) (fun B => .tup (C.q_PAIR_SIZES B) (.cons (.int 5) (.cons (.int 7) .nil))) ?_
    refine oj_nin (u := .int (ws.map D.str).length) rfl rfl rfl ?_
    have hin : inV (.int (ws.map D.str).length) [.int 5, .int 7] = decide (ws.length = 5 ∨ ws.length = 7) := by
      rw [ln]
      unfold inV
      show ((decide ((5 : Int) = ws.length) || (decide ((7 : Int) = ws.length) || false))) = _
      by_cases c1 : ws.length = 5
      · rw [c1]; decide
      · by_cases c2 : ws.length = 7
        · rw [c2]; decide
        · rw [decide_eq_false (p := (5 : Int) = ws.length) (by omega), decide_eq_false (p := (7 : Int) = ws.length) (by omega), decide_eq_false (by omega)]
          rfl
    rw [hin]
    repeat walk_at "dn"
    · intro h2
      repeat walk_at "dn"
      rw [if_neg (fun z => h2 z.2.1)] at hq
      exact hq
    · intro h2
      obtain ⟨x, hx⟩ : ∃ x, ws[ws.length - 2]? = some x := ⟨_, List.getElem?_eq_getElem (by omega)⟩
      rw [hx] at hq
      repeat walk_at "dn"
      refine oj_ixL (d := .str x) (atI_map (f := D.str) (atI_neg (k := 2) (by decide) (by omega) hx)) ?_
      repeat walk_at "dn"
      · intro h3
        repeat walk_at "dn"
        rw [if_neg (fun z => h3 (Option.some.inj z.2.2))] at hq
        exact hq
      · intro h3
        rw [if_pos ⟨congrArg some h1, h2, congrArg some h3⟩] at hq
        repeat walk_at "dn"
        refine xs_set ?_
        repeat walk_at "dn"
        rw [cutD_map, show cutL ws (some 1) (some (-2)) = _ from cutL_midneg ws 1 2 (by decide) (by omega), cutD_map, show cutL ws (some (-1)) none = _ from cutL_fneg ws 1 (by decide)]
        refine oj_add_lst (by simp; unfold sizeLine; omega) ?_
        repeat walk_at "dn"
        rw [← List.map_append]
        have hzz : SmWs (List.take (ws.length - 2 - 1) (List.drop 1 ws) ++ List.drop (ws.length - 1) ws) := ⟨by simp; have := hz.1; omega, fun w hw => by
          rcases List.mem_append.mp hw with q | q
          · exact ((hz.drop 1).take _).2 w q
          · exact (hz.drop _).2 w q⟩
        refine ⟨_, rfl, hzz, ?_⟩
        rw [show ws.length - 2 - 1 = ws.length - 3 by omega]
        cases hr : nums ((ws.drop 1).take (ws.length - 3) ++ ws.drop (ws.length - 1)) with
        | none =>
          rw [hr] at hq
          repeat walk_at "dn"
          exact hq
        | some ns =>
          rw [hr] at hq
          repeat walk_at "dn"
          have hl : ns.length = ws.length - 2 := by
            have := congrArg List.length (nums_some hr)
            simp at this
            omega
          have fin : ∀ (n : Nat) (is : List Int), RgC 0 ((ns.length : Int) - 1) 2 n → rangeC 0 2 n = is.map .int → is.length ≤ sizeLine →
              Q (.tup [.tup (is.map fun i => .tup (cutD (ns.map .int) (some i) (some (i + 2)))), .int (ns.getLast?.getD 0)]) [.unk] → ns ≠ [] → EV K
              (tLc (iRng3 (tCons (tC (.int 0)) (tCons (tOp rSubU (tCB (cLenU K) (tCons (tVar 1) (tNil))) (tC (.int 1))) (tCons (tC (.int 2)) (tNil))))) (gName 2) (tYes) (tSl (rSlU K) (tVar 1) (tPart (tVar 2)) (tPart (tOp (rAddU K) (tVar 2) (tC (.int 2))))) [2])
              [.dat (dStrs ws), .dat (dInts ns), .unk] fun d ρ1 => EA K tNil ρ1 fun as ρ2 => ∃ ds : List D, Ar.dat d :: as = ds.map .dat ∧ CJ K (cTupU K) ds fun d => EA K (tCons (tOp (rIx K) (tVar 1) (tUn (rU fun i => .int (-i)) (tC (.int 1)))) tNil) ρ2 fun as ρ2 => ∃ ds : List D, Ar.dat d :: as = ds.map .dat ∧ ds.length ≤ sizeLine ∧ (bodyPost [.dat (dStrs ws)] Q).rt (.tup ds) ρ2 := fun n is h1 h2 h3 h4 h5 => by
            refine (ef_map (gs := [2]) (by decide) ?_).ev
            repeat walk_at "dn"
            refine ⟨0, (ns.length : Int) - 1, 2, n, by rw [List.length_map], h1, Int, is, .int, fun i => .tup (cutD (ns.map .int) (some i) (some (i + 2))), h2, h3, by simp [noOwn, Sl.ad], fun i hi => ?_, ?_⟩
            · refine gj_name (by decide) ?_
              repeat walk_at "dn"
              exact ⟨rfl, rfl⟩
            · repeat walk_at "dn"
              have hg : atI (ns.map D.int) (-1) = some (.int (ns.getLast?.getD 0)) := by
                obtain ⟨l, z, rfl⟩ := List.eq_nil_or_concat ns |>.resolve_left h5
                rw [List.concat_eq_append]
                refine atI_map ?_
                rw [atI_last]
                simp
              refine oj_ixT hg ?_
              repeat walk_at "dn"
              exact h4
          rcases h2 with c | c
          · obtain ⟨a, b, z, rfl⟩ := len3 (show ns.length = 3 by rw [hl, c])
            exact fin 1 [0] (by rw [show (([a, b, z].length : Nat) : Int) - 1 = 2 from rfl]; exact ⟨by decide, by decide, by decide, by decide⟩) rfl (by decide) hq (by simp)
          · obtain ⟨a, b, c, d, z, rfl⟩ := len5 (show ns.length = 5 by rw [hl, c])
            exact fin 2 [0, 2] (by rw [show (([a, b, c, d, z].length : Nat) : Int) - 1 = 4 from rfl]; exact ⟨by decide, by decide, by decide, by decide⟩) rfl (by decide) hq (by simp)
/-! ### joined texts -/
theorem join_tl (s : Str) (ys : List Str) : tl (Txt.join s ys) = TL.joinL (tl s) (ys.map tl) :=
  (congrArg TL.tl (TL.join_eq s ys)).trans (TL.tl_join s ys)
theorem joinL_len (c : Nat) : ∀ (ps : List (List Nat)), ps ≠ [] → (TL.joinL [c] ps).length + 1 = (ps.map List.length).sum + ps.length
  | [], h => (h rfl).elim
  | [p], _ => by simp [TL.joinL]
  | p :: q :: r, _ => by
    have ih := joinL_len c (q :: r) (by simp)
    show (p ++ ([c] ++ TL.joinL [c] (q :: r))).length + 1 = _
    simp only [List.length_append, List.map_cons, List.sum_cons, List.length_cons, List.length_nil] at ih ⊢
    omega
theorem joinL_app (S : List Nat) : ∀ (a b : List (List Nat)), b ≠ [] → TL.joinL S (a ++ [TL.joinL S b]) = TL.joinL S (a ++ b)
  | [], b, h => rfl
  | [p], b, h => by
    cases b with
    | nil => exact (h rfl).elim
    | cons q r => rfl
  | p :: q :: r, b, h => by
    show p ++ (S ++ TL.joinL S ((q :: r) ++ [TL.joinL S b])) = p ++ (S ++ TL.joinL S ((q :: r) ++ b))
    rw [joinL_app S (q :: r) b h]
theorem joinL_mem (S : List Nat) : ∀ (ps : List (List Nat)) (c : Nat), c ∈ TL.joinL S ps → c ∈ S ∨ ∃ p ∈ ps, c ∈ p
  | [], c, h => by cases h
  | [p], c, h => .inr ⟨p, List.mem_cons_self, h⟩
  | p :: q :: r, c, h => by
    rcases List.mem_append.mp (show c ∈ p ++ (S ++ TL.joinL S (q :: r)) from h) with h | h
    · exact .inr ⟨p, List.mem_cons_self, h⟩
    · rcases List.mem_append.mp h with h | h
      · exact .inl h
      · rcases joinL_mem S (q :: r) c h with h | ⟨z, h1, h2⟩
        · exact .inl h
        · exact .inr ⟨z, List.mem_cons_of_mem _ h1, h2⟩
theorem sp_tl : tl sp = [32] := by decide +kernel
theorem nl_tl : tl nl = [10] := by decide +kernel
theorem sum_map_len (ys : List Str) : ((ys.map tl).map List.length).sum = (ys.map (·.length)).sum := by
  rw [List.map_map]
  congr 1
theorem row_len {ys : List Str} (h : ys ≠ []) : (Txt.join sp ys).length + 1 = (ys.map (·.length)).sum + ys.length := by
  rw [len_tl, join_tl, sp_tl, joinL_len 32 _ (fun z => h (List.map_eq_nil_iff.mp z)), sum_map_len, List.length_map]
theorem nl_len {ys : List Str} (h : ys ≠ []) : (Txt.join nl ys).length + 1 = (ys.map (·.length)).sum + ys.length := by
  rw [len_tl, join_tl, nl_tl, joinL_len 10 _ (fun z => h (List.map_eq_nil_iff.mp z)), sum_map_len, List.length_map]
theorem sum_mem {l : List Nat} {a : Nat} (h : a ∈ l) : a ≤ l.sum := by
  induction l with
  | nil => cases h
  | cons b r ih =>
    rw [List.sum_cons]
    rcases List.mem_cons.mp h with rfl | h
    · omega
    · have := ih h; omega
theorem row_size {ys : List Str} (h : Sm (row ys)) : (ys.map (·.length)).sum + ys.length * sp.length ≤ 16777216 := by
  cases ys with
  | nil => simp
  | cons y r =>
    have := row_len (ys := y :: r) (by simp)
    unfold Sm row at h
    rw [show sp.length = 1 by decide +kernel, Nat.mul_one]
    omega
theorem text_size {ys : List Str} (h : Sm (Txt.join nl ys)) : (ys.map (·.length)).sum + ys.length * nl.length ≤ 16777216 ∧ ys.length ≤ 100001 ∧ ∀ y ∈ ys, Sm y := by
  cases ys with
  | nil => simp
  | cons y r =>
    have := nl_len (ys := y :: r) (by simp)
    unfold Sm at h
    rw [show nl.length = 1 by decide +kernel, Nat.mul_one]
    refine ⟨by omega, by omega, fun z hz => ?_⟩
    have := sum_mem (List.mem_map_of_mem (f := fun y : Str => y.length) hz)
    have l1 : 1 ≤ (y :: r).length := by simp
    unfold Sm
    omega
theorem row_app (a b : List Str) (h : b ≠ []) : row (a ++ [row b]) = row (a ++ b) := by
  rw [str_tl]
  unfold row
  rw [join_tl, join_tl, List.map_append, List.map_append, List.map_cons, List.map_nil, join_tl]
  exact joinL_app _ _ _ (fun z => h (List.map_eq_nil_iff.mp z))
theorem str_ok {i : Int} (h : NumOk i) : i.natAbs.log2 < 1920 := by
  unfold NumOk at h
  by_cases z : i.natAbs = 0
  · rw [z]; decide
  · have : i.natAbs.log2 < 40 := (Nat.log2_lt z).mpr (by omega)
    omega
theorem x_joined {K : PySem.W.Frag} (ρ0 : List Sl) (Q : D → List Sl → Prop) (h : W_joined ρ0 Q) : XS K (t_joined K) (ρ0 ++ List.replicate (N_joined.length - ρ0.length) .unk) (bodyPost ρ0 Q) := by
  obtain ⟨w, x, ps, rfl, hx, hn, hs, hq⟩ := h
  show XS K (t_joined K) [.dat (.str w), .dat x, .unk] _
  unfold t_joined
  repeat walk_at "dn"
  refine (ef_map (gs := [2]) (by decide) ?_).ev
  have sz := row_size hs
  repeat walk_at "dn"
  refine ⟨_, hx, Sum Int Str, ps, dPart, fun p => .str (sPart p), rfl, by simp at sz; unfold sizeLine; have : sp.length = 1 := (by decide +kernel); rw [this] at sz; omega, by simp [noOwn, Sl.ad], fun p hp => ?_, ?_⟩
  · refine gj_name (by decide) ?_
    repeat walk_at "dn"
    cases p with
    | inl i => exact cj_str (str_ok (hn i hp)) ⟨rfl, rfl⟩
    | inr s => exact cj_strS ⟨rfl, rfl⟩
  · repeat walk_at "dn"
    refine oj_add_lst (by simp at sz ⊢; unfold sizeLine; have : sp.length = 1 := (by decide +kernel); rw [this] at sz; omega) ?_
    repeat walk_at "dn"
    refine oj_join (ys := w :: ps.map sPart) (by show some (D.str w :: ps.map _) = _; rw [List.map_cons, List.map_map]; rfl) sz ?_
    repeat walk_at "dn"
    exact hq
abbrev dRows (rs : List (List Str)) : List D := rs.map fun r => .str (row r)
theorem sz_lt {n : Nat} (h : n ≤ 100001) : n < sizeLine := Nat.lt_of_le_of_lt h (by decide)
theorem sz_le {n : Nat} (h : n ≤ 100001) : n ≤ sizeLine := Nat.le_of_lt (sz_lt h)
theorem take_lt {α : Type} {xs : List α} {i : Nat} {x : α} (h : xs[i]? = some x) : i < xs.length := (List.getElem?_eq_some_iff.mp h).1
theorem take_succ' {α : Type} {xs : List α} {i : Nat} {x : α} (h : xs[i]? = some x) : xs.take (i + 1) = xs.take i ++ [x] := by
  rw [List.take_add_one, h]; rfl
theorem map_at {α β : Type} {f : α → β} {xs : List α} {i : Nat} {d : β} (h : (xs.map f)[i]? = some d) : ∃ x, xs[i]? = some x ∧ f x = d := by
  rw [List.getElem?_map] at h
  cases z : xs[i]? with
  | none => rw [z] at h; cases h
  | some x => rw [z] at h; exact ⟨x, rfl, Option.some.inj h⟩
theorem toldWf_len {t : Told} (h : ToldWf t) : t.2.length ≤ 3 := by
  rcases h.1 with ⟨_, z⟩ | ⟨_, z⟩ | ⟨_, z⟩ <;> omega
def tps (t : Told) : List (Sum Int Str) := .inr t.1 :: t.2.map .inl
theorem tps_d (t : Told) : (tps t).map dPart = .str t.1 :: t.2.map .int := by unfold tps; simp [dPart]
theorem tps_s (t : Told) : (tps t).map sPart = toldWs t := by unfold tps toldWs; simp [sPart]
theorem tps_n {t : Told} (h : ToldWf t) : ∀ i, .inl i ∈ tps t → NumOk i := fun i hi => by
  unfold tps at hi
  simp at hi
  exact h.2 i hi
theorem x_pair_written {K : PySem.W.Frag} (ρ0 : List Sl) (Q : D → List Sl → Prop) (h : W_pair_written ρ0 Q) : XS K (t_pair_written K) (ρ0 ++ List.replicate (N_pair_written.length - ρ0.length) .unk) (bodyPost ρ0 Q) := by
  obtain ⟨p, rfl, wf, hz, hl, hq⟩ := h
  show XS K (t_pair_written K) [.dat (dPair p), .unk, .unk, .unk, .unk, .unk, .unk, .unk, .unk, .unk, .unk] _
  unfold t_pair_written
  repeat walk_at "dn"
  refine xs_set ?_
  refine (ef_map2 (gs := [10]) (gs1 := [5]) (by decide) (by decide) ?_).ev
  have hstk : (p.stack.flatMap fun a => [D.int a.1, D.int a.2]).length ≤ 4 := by
    rcases wf.st with c | c
    · obtain ⟨a, ha⟩ := List.length_eq_one_iff.mp c
      rw [ha]; simp
    · match hp : p.stack, c with
      | [a, b], _ => simp
  repeat walk_at "dn"
  refine ⟨Int × Int, p.stack, dPt2, fun a => [D.int a.1, D.int a.2], rfl, Nat.le_trans hstk (by decide), fun q ⟨i, s, h1, h2⟩ => ?_, fun a ha => ?_, ?_⟩
  · have : ∀ s ∈ [Sl.dat (dPair p), Sl.dat (dStack p.stack), Sl.dat (.int p.place), Sl.dat (.tup (p.firsts.map dFirst)), Sl.dat (.tup (p.seconds.map dSecond)), .unk, .unk, .unk, .unk, .unk, .unk], s.ad = none := by
      intro s hs
      simp only [List.mem_cons, List.not_mem_nil, or_false] at hs
      rcases hs with rfl | rfl | rfl | rfl | rfl | rfl | rfl | rfl | rfl | rfl | rfl <;> rfl
    rw [this s (List.mem_of_getElem? h1)] at h2
    cases h2
  · refine gj_name (by decide) ?_
    repeat walk_at "dn"
    refine ⟨rfl, Int, [a.1, a.2], .int, .int, rfl, rfl, fun y hy => ?_⟩
    refine gj_name (by decide) ?_
    repeat walk_at "dn"
  · repeat walk_at "dn"
    refine xs_setO ?_
    repeat walk_at "dn"
    refine oj_add_lst (by simp only [List.length_append, List.length_cons, List.length_nil]; unfold sizeLine; omega) ?_
    repeat walk_at "dn"
    refine ⟨"pair", _, p.stack.flatMap (fun a => [.inl a.1, .inl a.2]) ++ [.inr "at", .inl p.place], rfl, ?_, ?_, ?_, ?_⟩
    · show some _ = some _
      rw [List.map_append, List.map_flatMap]
      rfl
    · intro i hi
      simp at hi
      rcases hi with ⟨a, b, h1, h2⟩ | h1
      · have := wf.stn _ h1
        rcases h2 with rfl | rfl
        · exact this.1
        · exact this.2
      · rw [h1]; exact wf.pl
    · have e : Str.ofString "pair" :: List.map sPart (p.stack.flatMap (fun a => [.inl a.1, .inl a.2]) ++ [.inr "at", .inl p.place]) = pairWs p := by
        unfold pairWs
        rw [List.map_append, List.map_flatMap]
        rfl
      rw [e]
      exact hz _ (by unfold pairRs; exact List.mem_cons_self)
    · have e : Str.ofString "pair" :: List.map sPart (p.stack.flatMap (fun a => [.inl a.1, .inl a.2]) ++ [.inr "at", .inl p.place]) = pairWs p := by
        unfold pairWs
        rw [List.map_append, List.map_flatMap]
        rfl
      rw [e]
      repeat walk_at "dn"
      intro rp
      repeat walk_at "dn"
      refine xs_for (gs := List.range 40) ?_
      repeat walk_at "dn"
      refine ⟨fun i ρ' => ∃ x5 x8 x9, ρ' = [.dat (dPair p), .dat (dStack p.stack), .dat (.int p.place), .dat (.tup (p.firsts.map dFirst)), .dat (.tup (p.seconds.map dSecond)), .unk, x5, .own rp (dRows (pairWs p :: (p.firsts.take i).map firstWs)), x8, x9, .unk], ⟨_, _, _, rfl⟩, ?_, ?_⟩
      · rintro i d ρ' hd ⟨x5, x8, x9, rfl⟩
        obtain ⟨f, hf, rfl⟩ := map_at hd
        have fm := List.mem_of_getElem? hf
        have fw := wf.fi f fm
        repeat walk_at "dn"
        refine xs_app rfl ?_
        repeat walk_at "dn"
        refine oj_add_tup (by have := toldWf_len fw.2.2; simp; unfold sizeLine; omega) ?_
        repeat walk_at "dn"
        have er : Str.ofString "first" :: List.map sPart (.inl f.1.1 :: .inl f.1.2 :: tps f.2) = firstWs f := by
          unfold firstWs
          rw [List.map_cons, List.map_cons, tps_s]
          rfl
        refine ⟨"first", _, .inl f.1.1 :: .inl f.1.2 :: tps f.2, rfl, ?_, ?_, ?_, ?_⟩
        · rw [List.map_cons, List.map_cons, tps_d]
          rfl
        · intro i hi
          rcases List.mem_cons.mp hi with h | hi
          · rw [Sum.inl.inj h]; exact fw.1
          · rcases List.mem_cons.mp hi with h | hi
            · rw [Sum.inl.inj h]; exact fw.2.1
            · exact tps_n fw.2.2 i hi
        · rw [er]
          exact hz _ (by unfold pairRs; exact List.mem_cons_of_mem _ (List.mem_append_left _ (List.mem_map_of_mem fm)))
        · rw [er]
          refine ⟨_, rfl, ?_, x5, .dat (dPt2 f.1), .dat (dTold f.2), ?_⟩
          · have := take_lt hf
            unfold pairRs at hl
            simp at hl ⊢
            exact sz_lt (by omega)
          · rw [take_succ' hf]
            simp [dRows]
      · rintro ρ' ⟨x5, x8, x9, rfl⟩
        rw [List.length_map, List.take_length]
        repeat walk_at "dn"
        refine xs_for (gs := List.range 40) ?_
        repeat walk_at "dn"
        refine ⟨fun i ρ' => ∃ x5 x6 x8 x9, ρ' = [.dat (dPair p), .dat (dStack p.stack), .dat (.int p.place), .dat (.tup (p.firsts.map dFirst)), .dat (.tup (p.seconds.map dSecond)), x5, x6, .own rp (dRows ((pairWs p :: p.firsts.map firstWs) ++ (p.seconds.take i).map secondWs)), x8, x9, .unk], ⟨_, _, _, _, by rw [List.take_zero, List.map_nil, List.append_nil]⟩, ?_, ?_⟩
        · rintro i d ρ' hd ⟨x5, x6, x8, x9, rfl⟩
          obtain ⟨f, hf, rfl⟩ := map_at hd
          have fm := List.mem_of_getElem? hf
          have fw := wf.se f fm
          repeat walk_at "dn"
          refine xs_app rfl ?_
          repeat walk_at "dn"
          refine oj_add_tup (by have := toldWf_len fw.2; simp; unfold sizeLine; omega) ?_
          repeat walk_at "dn"
          have er : Str.ofString "second" :: List.map sPart (.inl f.1 :: tps f.2) = secondWs f := by
            unfold secondWs
            rw [List.map_cons, tps_s]
            rfl
          refine ⟨"second", _, .inl f.1 :: tps f.2, rfl, ?_, ?_, ?_, ?_⟩
          · rw [List.map_cons, tps_d]
            rfl
          · intro i hi
            rcases List.mem_cons.mp hi with h | hi
            · rw [Sum.inl.inj h]; exact fw.1
            · exact tps_n fw.2 i hi
          · rw [er]
            exact hz _ (by unfold pairRs; exact List.mem_cons_of_mem _ (List.mem_append_right _ (List.mem_map_of_mem fm)))
          · rw [er]
            refine ⟨_, rfl, ?_, .dat (.int f.1), x6, x8, .dat (dTold f.2), ?_⟩
            · have := take_lt hf
              unfold pairRs at hl
              simp at hl ⊢
              exact sz_lt (by omega)
            · rw [take_succ' hf]
              simp [dRows]
        · rintro ρ' ⟨x5, x6, x8, x9, rfl⟩
          rw [List.length_map, List.take_length]
          repeat walk_at "dn"
          exact hq
theorem pre_len {α β : Type} (f : α → List β) (xs : List α) (i : Nat) : ((xs.take i).flatMap f).length ≤ (xs.flatMap f).length := by
  conv => rhs; rw [← List.take_append_drop i xs]
  rw [List.flatMap_append, List.length_append]
  omega
theorem pre_len2 {α β : Type} (f : α → List β) (xs : List α) (i : Nat) {x : α} (h : xs[i]? = some x) : ((xs.take i).flatMap f).length + (f x).length ≤ (xs.flatMap f).length := by
  have := pre_len f xs (i + 1)
  rw [take_succ' h, List.flatMap_append, List.length_append] at this
  simpa using this
theorem paperRs_ne {p : Paper} : True := trivial
theorem x_write_likeness {K : PySem.W.Frag} (ρ0 : List Sl) (Q : D → List Sl → Prop) (h : W_write_likeness ρ0 Q) : XS K (t_write_likeness K) (ρ0 ++ List.replicate (N_write_likeness.length - ρ0.length) .unk) (bodyPost ρ0 Q) := by
  obtain ⟨p, rfl, wf, hz, hq⟩ := h
  show XS K (t_write_likeness K) [.dat (dPaper p), .unk, .unk, .unk, .unk] _
  unfold t_write_likeness
  obtain ⟨sz, sl, sm⟩ := text_size hz
  rw [List.length_map] at sl
  have smr : ∀ r ∈ paperRs p, Sm (row r) := fun r hr => sm _ (List.mem_map_of_mem hr)
  repeat walk_at "dn"
  refine xs_setO ?_
  repeat walk_at "dn"
  intro rp
  repeat walk_at "dn"
  refine xs_for (gs := List.range 40) ?_
  repeat walk_at "dn"
  refine ⟨fun i ρ' => ∃ x2 x3 x4, ρ' = [.dat (dPaper p), .own rp (dRows ((p.take i).flatMap unitRs)), x2, x3, x4], ⟨_, _, _, rfl⟩, ?_, ?_⟩
  · rintro i d ρ' hd ⟨x2, x3, x4, rfl⟩
    obtain ⟨u, hu, rfl⟩ := map_at hd
    have um := List.mem_of_getElem? hu
    have uw := wf u um
    have hlen := pre_len2 unitRs p i hu
    have hlen' : ((p.take i).flatMap unitRs).length + (unitRs u).length ≤ 100001 := Nat.le_trans hlen sl
    have hul : (unitRs u).length = 1 + (u.pairs.flatMap pairRs).length := by unfold unitRs; rw [List.length_cons, Nat.add_comm]
    have sub : ∀ r ∈ unitRs u, r ∈ paperRs p := fun r hr => List.mem_flatMap.mpr ⟨u, um, hr⟩
    have er : Str.ofString "unit" :: List.map sPart (.inl (u.pairs.length : Int) :: u.goes.map .inl) = unitWs u := by
      unfold unitWs
      rw [List.map_cons, List.map_map]
      rfl
    have su : Sm (row (unitWs u)) := smr _ (sub _ List.mem_cons_self)
    have gz : u.goes.length ≤ 100001 := by
      have := row_len (ys := unitWs u) (by unfold unitWs; simp)
      unfold Sm row at su
      unfold unitWs at this
      simp only [List.length_cons, List.length_map] at this
      unfold unitWs at su
      omega
    repeat walk_at "dn"
    refine xs_app rfl ?_
    repeat walk_at "dn"
    refine oj_add_tup (by simp; unfold sizeLine; omega) ?_
    repeat walk_at "dn"
    refine ⟨"unit", _, .inl (u.pairs.length : Int) :: u.goes.map .inl, rfl, ?_, ?_, ?_, ?_⟩
    · simp [dPart, sqd]
    · intro i hi
      rcases List.mem_cons.mp hi with h | hi
      · rw [Sum.inl.inj h]; exact uw.pn
      · obtain ⟨n, hn, e⟩ := List.mem_map.mp hi
        rw [← Sum.inl.inj e]
        exact uw.go n hn
    · rw [er]; exact su
    · rw [er]
      refine ⟨_, rfl, by simp only [dRows, List.length_map]; exact sz_lt (by omega), ?_⟩
      repeat walk_at "dn"
      refine xs_for (gs := List.range 40) ?_
      repeat walk_at "dn"
      refine ⟨fun j ρ' => ∃ x2 x3 x4, ρ' = [.dat (dPaper p), .own rp (dRows ((p.take i).flatMap unitRs ++ unitWs u :: (u.pairs.take j).flatMap pairRs)), x2, x3, x4], ⟨.dat (dInts u.goes), .dat (.tup (u.pairs.map dPair)), x4, by simp [dRows]⟩, ?_, ?_⟩
      · rintro j d ρ' hd ⟨x2, x3, x4, rfl⟩
        obtain ⟨q, hq', rfl⟩ := map_at hd
        have qm := List.mem_of_getElem? hq'
        have hl2 := pre_len2 pairRs u.pairs j hq'
        repeat walk_at "dn"
        refine xs_ext rfl ?_
        repeat walk_at "dn"
        refine ⟨q, rfl, uw.pr q qm, fun r hr => smr r (sub r (List.mem_cons_of_mem _ (List.mem_flatMap.mpr ⟨q, qm, hr⟩))), by omega, ?_⟩
        refine ⟨_, _, rfl, rfl, ?_, x2, x3, .dat (dPair q), ?_⟩
        · simp only [dRows, List.length_map, List.length_append, List.length_cons]
          exact sz_le (by omega)
        · rw [take_succ' hq']
          simp [dRows]
      · rintro ρ' ⟨x2, x3, x4, rfl⟩
        rw [List.length_map, List.take_length]
        repeat walk_at "dn"
        refine ⟨x2, x3, x4, ?_⟩
        rw [take_succ' hu, List.flatMap_append]
        simp [unitRs]
  · rintro ρ' ⟨x2, x3, x4, rfl⟩
    rw [List.length_map, List.take_length]
    repeat walk_at "dn"
    refine oj_join (ys := (paperRs p).map row) (by show some _ = some _; rw [List.map_map]; rfl) sz ?_
    repeat walk_at "dn"
    exact hq
theorem PoolI.mk {cs : List Int} {i cur mix : Int} (h1 : ∀ c ∈ cs, 0 ≤ c ∧ c < 10 ^ 60) (h2 : 0 ≤ i) (h3 : 0 ≤ cur) (h4 : cur < 10 ^ 60) (h5 : 0 ≤ mix) (h6 : mix < 2147483647) : PoolI [.lst (cs.map .int), .int i, .int cur, .int mix] :=
  ⟨cs, i, cur, mix, rfl, h1, h2, ⟨h3, h4⟩, h5, h6⟩
theorem fmod_bd (a : Int) {m : Int} (h : 0 < m) : 0 ≤ a.fmod m ∧ a.fmod m < m := ⟨Int.fmod_nonneg_of_pos a h, Int.fmod_lt_of_pos a h⟩
theorem x__law_take {K : PySem.W.Frag} (ρ0 : List Sl) (Q : D → List Sl → Prop) (h : W__law_take ρ0 Q) : XS K (t__law_take K) (ρ0 ++ List.replicate (N__law_take.length - ρ0.length) .unk) (bodyPost ρ0 Q) := by
  obtain ⟨p, ds, m, rfl, hi, m1, m2, hq⟩ := h
  show XS K (t__law_take K) [.own p ds, .dat (.int m), .unk, .unk] _
  unfold t__law_take
  have cm : ∀ {a b : Int}, 0 ≤ b → b < 2 ^ 60 → CMul a b := fun h1 h2 => .inr ⟨by omega, by omega⟩
  refine xs_seqI (fun ρ' => ∃ ds' x, ρ' = [.own p ds', .dat (.int m), x, .unk] ∧ PoolI ds') ?_ ?_
  · obtain ⟨cs, i, cur, mix, rfl, h1, h2, ⟨h3, h4⟩, h5, h6⟩ := hi
    have same : PoolI [.lst (cs.map .int), .int i, .int cur, .int mix] := .mk h1 h2 h3 h4 h5 h6
    repeat walk_at "dn"
    · intro c0
      repeat walk_at "dn"
      · intro c1
        repeat walk_at "dn"
        rw [List.length_map] at c1
        obtain ⟨k, rfl⟩ := Int.eq_ofNat_of_zero_le h2
        have hk : k < cs.length := by omega
        have hc := h1 _ (List.getElem_mem hk)
        refine xs_set ?_
        repeat walk_at "dn"
        refine oj_ixL (d := .int cs[k]) (atI_nat (j := k) (by rw [List.getElem?_map, List.getElem?_eq_getElem hk]; rfl)) ?_
        repeat walk_at "dn"
        refine oj_pow ⟨by decide, by decide, by decide⟩ ?_
        repeat walk_at "dn"
        · intro c2
          repeat walk_at "dn"
          exact ⟨_, _, rfl, .mk h1 (by omega) hc.1 hc.2 h5 h6⟩
        · intro c2
          repeat walk_at "dn"
          refine oj_mul (cm (by decide) (by decide)) ?_
          repeat walk_at "dn"
          refine oj_mul (cm (by decide) (by decide)) ?_
          repeat walk_at "dn"
          refine oj_mod (by decide) ?_
          repeat walk_at "dn"
          have b := fmod_bd (mix * 48271 + cs[k] * 69621 + 11) (m := 2147483647) (by decide)
          exact ⟨_, _, rfl, .mk h1 (by omega) h3 h4 b.1 b.2⟩
      · intro c1
        repeat walk_at "dn"
        exact ⟨_, _, rfl, same⟩
    · intro c0
      repeat walk_at "dn"
      exact ⟨_, _, rfl, same⟩
  · rintro ρ' ⟨ds', x, rfl, hi'⟩
    obtain ⟨cs, i, cur, mix, rfl, h1, h2, ⟨h3, h4⟩, h5, h6⟩ := hi'
    repeat walk_at "dn"
    · intro c0
      repeat walk_at "dn"
      refine xs_set ?_
      repeat walk_at "dn"
      refine oj_mod (by omega) ?_
      repeat walk_at "dn"
      refine oj_div ⟨by omega, by omega⟩ ?_
      repeat walk_at "dn"
      have b := fmod_bd cur (m := m) (by omega)
      refine hq _ _ b.1 b.2 (.mk h1 h2 ?_ ?_ h5 h6)
      · rw [Int.fdiv_eq_ediv_of_nonneg _ (by omega)]
        exact Int.ediv_nonneg h3 (by omega)
      · rw [Int.fdiv_eq_ediv_of_nonneg _ (by omega)]
        exact Int.lt_of_le_of_lt (Int.ediv_le_self _ h3) h4
    · intro c0
      repeat walk_at "dn"
      refine oj_mul (cm (by decide) (by decide)) ?_
      repeat walk_at "dn"
      refine oj_mod (by decide) ?_
      repeat walk_at "dn"
      refine oj_div ⟨by decide, by decide⟩ ?_
      repeat walk_at "dn"
      refine oj_mul (cm (by decide) (by decide)) ?_
      repeat walk_at "dn"
      refine oj_mod (by decide) ?_
      repeat walk_at "dn"
      refine oj_mod (by omega) ?_
      repeat walk_at "dn"
      have b0 := fmod_bd (mix * 16807 + 12345) (m := 2147483647) (by decide)
      have b := fmod_bd (((((mix * 16807 + 12345).fmod 2147483647).fdiv 127 * 48271 + 7)).fmod 1000003) (m := m) (by omega)
      exact hq _ _ b.1 b.2 (.mk h1 h2 h3 h4 b0.1 b0.2)
theorem pow_lt12 {t : Int} {i : Nat} (h0 : 0 ≤ t) (h : t < 10 ^ i) (hi : i ≤ 12) : NumOk t := by
  unfold NumOk
  have : (10 : Int) ^ i ≤ 10 ^ 12 := by
    have := Nat.pow_le_pow_right (n := 10) (by decide) hi
    exact_mod_cast this
  omega
theorem x__law_number {K : PySem.W.Frag} (ρ0 : List Sl) (Q : D → List Sl → Prop) (h : W__law_number ρ0 Q) : XS K (t__law_number K) (ρ0 ++ List.replicate (N__law_number.length - ρ0.length) .unk) (bodyPost ρ0 Q) := by
  obtain ⟨p, ds, m, b, rfl, hi, m1, m2, hq⟩ := h
  show XS K (t__law_number K) [.own p ds, .dat (.int m), .dat (.bl b), .unk, .unk] _
  unfold t__law_number
  refine xs_seq (xs_set ?_)
  repeat walk_at "dn"
  refine xs_cut (fun ρ' => ∃ ds' t x, ρ' = [.own p ds', .dat (.int m), .dat (.bl b), .dat (.int t), x] ∧ PoolI ds' ∧ NumOk t) ?_ ?_
  · refine xs_for (gs := List.range 40) ?_
    have loop : ∀ (d0 : List D) (r : Int), PoolI d0 → 0 ≤ r → r < m → ∃ n : Int, [Ar.dat (.int (1 + r))] = [.dat (.int n)] ∧ -(2 ^ 62) ≤ n ∧ n < 2 ^ 62 ∧ ∃ Inv : Nat → List Sl → Prop, Inv 0 [.own p d0, .dat (.int m), .dat (.bl b), .dat (.int 0), .unk] ∧
        (∀ i d ρ', (rangeD 0 n.toNat)[i]? = some d → Inv i ρ' → GJ K (gName 4) (List.range 40) d ρ' fun ρ2 => XS K (tAsg (tOp (rAddU K) (tOp rMulU (tVar 3) (tC (.int 10))) (tCall (spW K W__law_take) [] E0 (tCons (tVar 0) (tCons (tC (.int 10)) (tNil))))) (gName 3)) ρ2
          { nx := Inv (i + 1), ct := Inv (i + 1), rt := (bodyPost [.own p ds, .dat (.int m), .dat (.bl b)] Q).rt, bk := fun ρ' => ∃ ds' t x, ρ' = [.own p ds', .dat (.int m), .dat (.bl b), .dat (.int t), x] ∧ PoolI ds' ∧ NumOk t }) ∧
        (∀ ρ', Inv (rangeD 0 n.toNat).length ρ' → ∃ ds' t x, ρ' = [.own p ds', .dat (.int m), .dat (.bl b), .dat (.int t), x] ∧ PoolI ds' ∧ NumOk t)   := fun d0 r hi h1 h2 => by
      refine ⟨1 + r, rfl, by omega, by omega, fun i ρ' => ∃ ds' t x, ρ' = [.own p ds', .dat (.int m), .dat (.bl b), .dat (.int t), x] ∧ PoolI ds' ∧ 0 ≤ t ∧ t < 10 ^ i, ⟨_, _, _, rfl, hi, by decide, by decide⟩, ?_, ?_⟩
      · rintro i d ρ' hd ⟨ds', t, x, rfl, hi', t0, t1⟩
        repeat walk_at "dn"
        refine xs_set ?_
        repeat walk_at "dn"
        refine oj_mul (.inr ⟨by decide, by decide⟩) ?_
        repeat walk_at "dn"
        refine ⟨p, ds', 10, rfl, hi', by decide, by decide, fun r ds'' r0 r1 hi'' => ?_⟩
        repeat walk_at "dn"
        refine ⟨_, _, _, rfl, hi'', by omega, ?_⟩
        rw [Int.pow_succ]
        omega
      · rintro ρ' ⟨ds', t, x, rfl, hi', t0, t1⟩
        refine ⟨_, _, _, rfl, hi', pow_lt12 t0 t1 ?_⟩
        rw [rangeD_len]
        omega
    repeat walk_at "dn"
    refine ⟨p, ds, 3, rfl, hi, by decide, by decide, fun r ds1 r0 r1 hi1 => ?_⟩
    repeat walk_at "dn"
    · intro _
      repeat walk_at "dn"
      refine ⟨p, ds1, m, rfl, hi1, m1, by omega, fun r ds2 r0 r1 hi2 => ?_⟩
      repeat walk_at "dn"
      obtain ⟨n, e, b1, b2, Iv, h0, hs, hd⟩ := loop ds2 r hi2 r0 r1
      exact ⟨n, e, b1, b2, Iv, h0, hs, hd⟩
    · intro _
      repeat walk_at "dn"
      obtain ⟨n, e, b1, b2, Iv, h0, hs, hd⟩ := loop ds1 0 hi1 (by decide) (by omega)
      exact ⟨n, e, b1, b2, Iv, h0, hs, hd⟩
  · rintro ρ' ⟨ds', t, x, rfl, hi', ht⟩
    repeat walk_at "dn"
    have neg : NumOk (-t) := by unfold NumOk at ht ⊢; rw [Int.natAbs_neg]; exact ht
    refine et_truB ?_
    cases b with
    | false =>
      repeat walk_at "dn"
      exact hq _ _ ht hi'
    | true =>
      repeat walk_at "dn"
      refine ⟨p, ds', 3, rfl, hi', by decide, by decide, fun r ds1 r0 r1 hi1 => ?_⟩
      repeat walk_at "dn"
      · intro _
        repeat walk_at "dn"
        exact hq _ _ neg hi1
      · intro _
        repeat walk_at "dn"
        exact hq _ _ ht hi1
theorem x__law_drawn_told {K : PySem.W.Frag} (ρ0 : List Sl) (Q : D → List Sl → Prop) (h : W__law_drawn_told ρ0 Q) : XS K (t__law_drawn_told K) (ρ0 ++ List.replicate (N__law_drawn_told.length - ρ0.length) .unk) (bodyPost ρ0 Q) := by
  obtain ⟨p, ds, rfl, hi, hq⟩ := h
  show XS K (t__law_drawn_told K) [.own p ds, .unk] _
  unfold t__law_drawn_told
  repeat walk_at "dn"
  refine xs_set ?_
  repeat walk_at "dn"
  refine ⟨p, ds, 4, rfl, hi, by decide, by decide, fun r ds1 r0 r1 hi1 => ?_⟩
  repeat walk_at "dn"
  · intro _
    repeat walk_at "dn"
    refine ⟨p, ds1, 12, true, rfl, hi1, by decide, by decide, fun n ds2 hn hi2 => ?_⟩
    repeat walk_at "dn"
    exact hq ("num", [n]) _ ⟨.inl ⟨rfl, rfl⟩, by simpa using hn⟩ hi2
  · intro _
    repeat walk_at "dn"
    · intro _
      repeat walk_at "dn"
      refine ⟨p, ds1, 2, false, rfl, hi1, by decide, by decide, fun n ds2 hn hi2 => ?_⟩
      repeat walk_at "dn"
      refine ⟨p, ds2, 12, true, rfl, hi2, by decide, by decide, fun n' ds3 hn' hi3 => ?_⟩
      repeat walk_at "dn"
      exact hq ("len", [n, n']) _ ⟨.inr (.inl ⟨rfl, rfl⟩), by simpa using ⟨hn, hn'⟩⟩ hi3
    · intro _
      repeat walk_at "dn"
      refine ⟨p, ds1, 2, rfl, hi1, by decide, by decide, fun n ds2 n0 n1 hi2 => ?_⟩
      repeat walk_at "dn"
      refine ⟨p, ds2, 3, false, rfl, hi2, by decide, by decide, fun n' ds3 hn' hi3 => ?_⟩
      repeat walk_at "dn"
      refine ⟨p, ds3, 4, true, rfl, hi3, by decide, by decide, fun n'' ds4 hn'' hi4 => ?_⟩
      repeat walk_at "dn"
      have hn : NumOk n := by unfold NumOk; omega
      exact hq ("spot", [n, n', n'']) _ ⟨.inr (.inr ⟨rfl, rfl⟩), by simpa using ⟨hn, hn', hn''⟩⟩ hi4
/-- a list drawn from the pool, by a comprehension over a range -/
theorem ef_draw {K : PySem.W.Frag} {α : Type} (f : α → D) (Good : α → Prop) {k : Nat} {ta : TA} {te : TE} {p : Addr} {ρ : List Sl} {R : List D → List Sl → Prop}
    (h : EA K ta ρ fun as ρ1 => ∃ (n : Int) (ds : List D) (r : List Sl), as = [.dat (.int n)] ∧ 0 ≤ n ∧ n ≤ 1000 ∧ PoolI ds ∧ ρ1 = .own p ds :: r ∧ (∀ s, r[k]? = some s → s.ad = none) ∧
      (∀ (d : D) (ds' : List D), PoolI ds' → EV K te (.own p ds' :: r.set k (.dat d)) fun y ρ4 => ∃ (a : α) (ds'' : List D), y = f a ∧ Good a ∧ PoolI ds'' ∧ ρ4 = .own p ds'' :: r.set k (.dat d)) ∧
      ∀ (as : List α) (ds' : List D), as.length = n.toNat → (∀ a ∈ as, Good a) → PoolI ds' → R (as.map f) (.own p ds' :: r)) : EF K (tLc (iRng1 ta) (gName (k + 1)) tYes te [k + 1]) ρ R := by
  refine ef_lc (gs := [k + 1]) (fun _ h => h) (ei_rng1 ?_)
  refine fun B H σ Q e k1 => h B H σ Q e fun vs B' H' as ρ1 ⟨n, ds, r, ha, n0, n1, hi, hρ, nw, hs, hr⟩ => k1 vs B' H' as ρ1 ⟨n, ha, by omega, by omega, ?_⟩
  subst hρ
  refine ⟨fun i acc ρ' => ∃ (as : List α) (ds' : List D), acc = as.map f ∧ as.length = i ∧ (∀ a ∈ as, Good a) ∧ PoolI ds' ∧ ρ' = .own p ds' :: r, ⟨[], ds, rfl, rfl, fun a h => (by cases h), hi, rfl⟩, ?_, ?_⟩
  · rintro i d acc ρ' hd ⟨as, ds', rfl, hl, hg, hi', rfl⟩
    have hlt : i < n.toNat := by have := take_lt hd; rwa [rangeD_len] at this
    refine ⟨fun j hj s hs' => ?_, ?_⟩
    · rw [List.mem_singleton.mp hj] at hs'
      exact nw s hs'
    · refine gj_name (List.mem_singleton.mpr rfl) (et_yes ⟨fun _ => ?_, fun z => nomatch z⟩)
      rw [show (wipeS (.own p ds' :: r) [k + 1]).set (k + 1) (.dat d) = .own p ds' :: r.set k (.dat d) by
        show ((Sl.own p ds' :: r).set (k + 1) .unk).set (k + 1) (.dat d) = _
        rw [List.set_cons_succ, List.set_cons_succ, List.set_set]]
      refine (hs d ds' hi').mono ?_
      rintro y ρ4 ⟨a, ds'', rfl, ga, hi'', rfl⟩
      refine ⟨by rw [List.length_map, hl]; unfold sizeLine; omega, as ++ [a], ds'', by simp, by simp [hl], fun z hz => ?_, hi'', ?_⟩
      · rcases List.mem_append.mp hz with q | q
        · exact hg z q
        · rw [List.mem_singleton.mp q]; exact ga
      · show (Sl.own p ds'' :: r.set k (.dat d)).set (k + 1) ((Sl.own p ds' :: r)[k + 1]?.getD .unk) = _
        rw [List.set_cons_succ, List.set_set, List.getElem?_cons_succ]
        congr 1
        rcases Nat.lt_or_ge k r.length with c | c
        · rw [List.getElem?_eq_getElem c]
          exact List.set_getElem_self c
        · exact List.set_eq_of_length_le c
  · rintro acc ρ' ⟨as, ds', rfl, hl, hg, hi', rfl⟩
    rw [rangeD_len] at hl
    exact hr as ds' hl hg hi'
theorem x__law_drawn_paper {K : PySem.W.Frag} (ρ0 : List Sl) (Q : D → List Sl → Prop) (h : W__law_drawn_paper ρ0 Q) : XS K (t__law_drawn_paper K) (ρ0 ++ List.replicate (N__law_drawn_paper.length - ρ0.length) .unk) (bodyPost ρ0 Q) := by
  obtain ⟨p, ds, rfl, hi, hq⟩ := h
  show XS K (t__law_drawn_paper K) [.own p ds, .dat (.int 3), .unk, .unk, .unk, .unk, .unk, .unk, .unk, .unk] _
  unfold t__law_drawn_paper
  repeat walk_at "dn"
  refine xs_setO ?_
  repeat walk_at "dn"
  intro pp
  repeat walk_at "dn"
  refine xs_for (gs := List.range 40) ?_
  repeat walk_at "dn"
  refine ⟨p, ds, 3, rfl, hi, by decide, by decide, fun r ds r0 r1 hi => ?_⟩
  repeat walk_at "dn"
  refine ⟨1 + r, rfl, by omega, by omega, fun i ρ' => ∃ (ds : List D) (us : Paper) (x3 x4 x5 x6 x7 x8 : Sl), ρ' = [.own p ds, .dat (.int 3), .own pp (us.map dUnit), x3, x4, x5, x6, x7, x8, .unk] ∧ PoolI ds ∧ us.length = i ∧ PaperWf us ∧ ∀ u ∈ us, u.goes.length ≤ 3 ∧ u.pairs.length ≤ 3 ∧ ∀ q ∈ u.pairs, q.firsts.length ≤ 3 ∧ q.seconds.length ≤ 3, ⟨ds, [], _, _, _, _, _, _, rfl, hi, rfl, (by intro u hu; cases hu), (by intro u hu; cases hu)⟩, ?_, ?_⟩
  · rintro i d ρ' hd ⟨ds, us, x3, x4, x5, x6, x7, x8, rfl, hi, hl, hw, hs⟩
    have hlt : i < (1 + r).toNat := by have := take_lt hd; rwa [rangeD_len] at this
    repeat walk_at "dn"
    refine xs_setO ?_
    repeat walk_at "dn"
    intro pq
    repeat walk_at "dn"
    refine xs_cut (fun ρ' => ∃ (ds : List D) (ps : List Pair) (x5 x6 x7 x8 : Sl), ρ' = [.own p ds, .dat (.int 3), .own pp (us.map dUnit), .dat d, .own pq (ps.map dPair), x5, x6, x7, x8, .unk] ∧ PoolI ds ∧ (1 ≤ ps.length ∧ ps.length ≤ 3) ∧ (∀ q ∈ ps, PairWf q) ∧ ∀ q ∈ ps, q.firsts.length ≤ 3 ∧ q.seconds.length ≤ 3) ?_ ?_
    · refine xs_for (gs := List.range 40) ?_
      repeat walk_at "dn"
      refine ⟨p, ds, 3, rfl, hi, by decide, by decide, fun r ds r0 r1 hi => ?_⟩
      repeat walk_at "dn"
      refine ⟨1 + r, rfl, by omega, by omega, fun j ρ' => ∃ (ds : List D) (ps : List Pair) (x5 x6 x7 x8 : Sl), ρ' = [.own p ds, .dat (.int 3), .own pp (us.map dUnit), .dat d, .own pq (ps.map dPair), x5, x6, x7, x8, .unk] ∧ PoolI ds ∧ ps.length = j ∧ (∀ q ∈ ps, PairWf q) ∧ ∀ q ∈ ps, q.firsts.length ≤ 3 ∧ q.seconds.length ≤ 3, ⟨ds, [], x5, x6, x7, x8, rfl, hi, rfl, (by intro u hu; cases hu), (by intro u hu; cases hu)⟩, ?_, ?_⟩
      · rintro j d2 ρ' hd2 ⟨ds, ps, x5, x6, x7, x8, rfl, hi, hl2, hw2, hs2⟩
        have hlt2 : j < (1 + r).toNat := by have := take_lt hd2; rwa [rangeD_len] at this
        repeat walk_at "dn"
        refine xs_set ?_
        refine (ef_draw (p := p) (k := 8) dPt2 (fun a => NumOk a.1 ∧ NumOk a.2) ?_).ev
        repeat walk_at "dn"
        refine ⟨p, ds, 2, rfl, hi, by decide, by decide, fun r ds r0 r1 hi => ?_⟩
        repeat walk_at "dn"
        refine ⟨1 + r, ds, _, rfl, by omega, by omega, hi, rfl, (fun s hs => by cases hs; rfl), fun d ds hi => ?_, fun st ds sl sg hi => ?_⟩
        · repeat walk_at "dn"
          refine ⟨p, ds, 3, rfl, hi, by decide, by decide, fun r ds r0 r1 hi => ?_⟩
          repeat walk_at "dn"
          refine ⟨p, ds, 12, false, rfl, hi, by decide, by decide, fun n ds hn hi => ?_⟩
          repeat walk_at "dn"
          exact ⟨(r, n), ds, rfl, ⟨by unfold NumOk; omega, hn⟩, hi, rfl⟩
        repeat walk_at "dn"
        refine xs_set ?_
        refine (ef_draw (p := p) (k := 8) dFirst (fun f => NumOk f.1.1 ∧ NumOk f.1.2 ∧ ToldWf f.2) ?_).ev
        repeat walk_at "dn"
        refine ⟨p, ds, 3, rfl, hi, by decide, by decide, fun rf ds rf0 rf1 hi => ?_⟩
        repeat walk_at "dn"
        refine ⟨rf, ds, _, rfl, by omega, by omega, hi, rfl, (fun s hs => by cases hs; rfl), fun d ds hi => ?_, fun fs ds fl fg hi => ?_⟩
        · repeat walk_at "dn"
          refine ⟨p, ds, 2, rfl, hi, by decide, by decide, fun r ds r0 r1 hi => ?_⟩
          repeat walk_at "dn"
          refine ⟨p, ds, 2, false, rfl, hi, by decide, by decide, fun n ds hn hi => ?_⟩
          repeat walk_at "dn"
          refine ⟨p, ds, rfl, hi, fun t ds ht hi => ?_⟩
          repeat walk_at "dn"
          exact ⟨((r, n), t), ds, rfl, ⟨(show NumOk r by unfold NumOk; omega), hn, ht⟩, hi, rfl⟩
        repeat walk_at "dn"
        refine xs_set ?_
        refine (ef_draw (p := p) (k := 8) dSecond (fun f => NumOk f.1 ∧ ToldWf f.2) ?_).ev
        repeat walk_at "dn"
        refine ⟨p, ds, 4, rfl, hi, by decide, by decide, fun rs ds rs0 rs1 hi => ?_⟩
        repeat walk_at "dn"
        refine ⟨rs, ds, _, rfl, by omega, by omega, hi, rfl, (fun s hs => by cases hs; rfl), fun d ds hi => ?_, fun ss ds sl' sg' hi => ?_⟩
        · repeat walk_at "dn"
          refine ⟨p, ds, 2, false, rfl, hi, by decide, by decide, fun n ds hn hi => ?_⟩
          repeat walk_at "dn"
          refine ⟨p, ds, rfl, hi, fun t ds ht hi => ?_⟩
          repeat walk_at "dn"
          exact ⟨(n, t), ds, rfl, ⟨hn, ht⟩, hi, rfl⟩
        repeat walk_at "dn"
        refine xs_app rfl ?_
        repeat walk_at "dn"
        refine ⟨p, ds, 3, false, rfl, hi, by decide, by decide, fun n ds hn hi => ?_⟩
        repeat walk_at "dn"
        refine ⟨_, rfl, by rw [List.length_map]; exact sz_lt (by omega), ds, ps ++ [⟨st, n, fs, ss⟩], .dat d2, .dat (.lst (st.map dPt2)), .dat (.lst (fs.map dFirst)), .dat (.lst (ss.map dSecond)), by simp [dPair], hi, by simp [hl2], fun q hq => ?_, fun q hq => ?_⟩
        · rcases List.mem_append.mp hq with h | h
          · exact hw2 q h
          · rw [List.mem_singleton.mp h]
            exact ⟨by show st.length = 1 ∨ st.length = 2; omega, sg, hn, fg, sg'⟩
        · rcases List.mem_append.mp hq with h | h
          · exact hs2 q h
          · rw [List.mem_singleton.mp h]
            exact ⟨by show fs.length ≤ 3; omega, by show ss.length ≤ 3; omega⟩
      · rintro ρ' ⟨ds, ps, x5, x6, x7, x8, rfl, hi, hl2, hw2, hs2⟩
        rw [rangeD_len] at hl2
        exact ⟨ds, ps, x5, x6, x7, x8, rfl, hi, by omega, hw2, hs2⟩
    · rintro ρ' ⟨ds, ps, x5, x6, x7, x8, rfl, hi, hl2, hw2, hs2⟩
      repeat walk_at "dn"
      refine xs_app rfl ?_
      repeat walk_at "dn"
      refine (ef_draw (p := p) (k := 8) D.int NumOk ?_).ev
      repeat walk_at "dn"
      refine ⟨p, ds, 3, rfl, hi, by decide, by decide, fun rg ds rg0 rg1 hi => ?_⟩
      repeat walk_at "dn"
      refine ⟨rg, ds, _, rfl, by omega, by omega, hi, rfl, (fun s hs => by cases hs; rfl), fun d ds hi => ?_, fun gs ds gl gg hi => ?_⟩
      · repeat walk_at "dn"
        refine ⟨p, ds, 2, false, rfl, hi, by decide, by decide, fun n ds hn hi => ?_⟩
        repeat walk_at "dn"
        exact ⟨n, ds, rfl, hn, hi, rfl⟩
      repeat walk_at "dn"
      refine ⟨_, rfl, by rw [List.length_map]; exact sz_lt (by omega), ds, us ++ [⟨gs, ps⟩], .dat d, .dat (.lst (ps.map dPair)), x5, x6, x7, x8, by simp [dUnit], hi, by simp [hl], fun u hu => ?_, fun u hu => ?_⟩
      · rcases List.mem_append.mp hu with h | h
        · exact hw u h
        · rw [List.mem_singleton.mp h]
          exact ⟨gg, hl2.1, by show NumOk (ps.length : Int); unfold NumOk; omega, hw2⟩
      · rcases List.mem_append.mp hu with h | h
        · exact hs u h
        · rw [List.mem_singleton.mp h]
          exact ⟨by show gs.length ≤ 3; omega, hl2.2, hs2⟩
  · rintro ρ' ⟨ds, us, x3, x4, x5, x6, x7, x8, rfl, hi, hl, hw, hs⟩
    rw [rangeD_len] at hl
    repeat walk_at "dn"
    exact hq us ds hw ⟨by omega, hs⟩ hi
/-! ### numbers and their texts -/
theorem str_nat (n : Nat) : tl (str (n : Int)) = TL.numL n := TL.tl_num n
theorem ofs_tl (x : String) : tl (Str.ofString x) = x.toList.map Char.toNat := by rw [Str.ofString_eq_toList]
theorem str_neg {n : Nat} (h : 0 < n) : tl (str (-(n : Int))) = 45 :: TL.numL n := by
  have e : toString (-(n : Int)) = "-" ++ toString ((n : Nat) : Int) := by
    rw [PyProof.Rows.toString_neg (show -(n : Int) < 0 by omega)]
    congr 2
    omega
  rw [← str_nat]
  show tl (Str.ofString (toString (-(n : Int)))) = _
  rw [e, ofs_tl, String.toList_append, List.map_append]
  show [45] ++ _ = _
  rw [← ofs_tl]
  rfl
theorem numL_head {n : Nat} (h : 1 ≤ n) : ∃ c r, TL.numL n = c :: r ∧ 49 ≤ c := by
  induction n using Nat.strongRecOn with
  | _ n ih =>
    by_cases c : n < 10
    · exact ⟨48 + n, [], TL.numL_lt c, by omega⟩
    · obtain ⟨d, r, e, hd⟩ := ih (n / 10) (by omega) (by omega)
      exact ⟨d, r ++ [48 + n % 10], by rw [TL.numL_step (by omega), e]; rfl, hd⟩
theorem isFig_iff {l : List Nat} : isFig l = true ↔ 1 ≤ l.length ∧ l.length ≤ 12 ∧ (l.head? = some 48 → l = [48]) ∧ NumText.AllDigits l := by
  unfold isFig NumText.AllDigits
  simp only [Bool.and_eq_true, decide_eq_true_eq, Bool.not_eq_true', Bool.and_eq_false_iff, decide_eq_false_iff_not, Bool.not_eq_false', List.all_eq_true]
  constructor
  · rintro ⟨⟨h1, h2⟩, h3, h4⟩
    refine ⟨h1, h2, fun z => ?_, h4⟩
    rcases h3 with h3 | h3
    · exact (h3 z).elim
    · exact h3
  · rintro ⟨h1, h2, h3, h4⟩
    refine ⟨⟨h1, h2⟩, ?_, h4⟩
    by_cases z : l.head? = some 48
    · exact .inr (h3 z)
    · exact .inl z
theorem fig_num {n : Nat} (h : n < 10 ^ 12) : isFig (TL.numL n) = true := by
  rw [isFig_iff]
  refine ⟨List.length_pos_iff.mpr (TL.numL_ne n), TL.numL_len (by decide) h, fun z => ?_, TL.numL_digits n⟩
  rcases Nat.eq_zero_or_pos n with rfl | c
  · exact TL.numL_lt (by decide)
  · obtain ⟨c, r, e, hc⟩ := numL_head c
    rw [e] at z
    have : c = 48 := Option.some.inj z
    omega
theorem num_fig : ∀ (k : Nat) (l : List Nat), l.length = k → 1 ≤ k → (l.head? = some 48 → l = [48]) → NumText.AllDigits l → l = TL.numL (NumText.digitsVal l) ∧ NumText.digitsVal l < 10 ^ k
  | 0, l, _, h, _, _ => by omega
  | k + 1, l, hl, _, hz, hd => by
    obtain ⟨l', c, rfl⟩ : ∃ l' c, l = l' ++ [c] := by
      rcases List.eq_nil_or_concat l with h | ⟨l', c, h⟩
      · rw [h] at hl; simp at hl
      · exact ⟨l', c, by rw [h, List.concat_eq_append]⟩
    have hc := hd c (by simp)
    have hl' : l'.length = k := by simpa using hl
    rw [NumText.digitsVal_snoc]
    cases l' with
    | nil =>
      have : k = 0 := by simpa using hl'.symm
      subst this
      refine ⟨?_, ?_⟩
      · show [c] = TL.numL (0 * 10 + (c - 48))
        rw [TL.numL_lt (by omega), show 48 + (0 * 10 + (c - 48)) = c by omega]
      · show 0 * 10 + (c - 48) < 10 ^ 1
        omega
    | cons a r =>
      have a48 : a ≠ 48 := fun z => by
        have := hz (by rw [z]; rfl)
        simp at this
      have ha := hd a (by simp)
      have ih := num_fig k (a :: r) hl' (by simp at hl'; omega) (fun z => (a48 (Option.some.inj z)).elim) (fun d hd' => hd d (by simp at hd' ⊢; rcases hd' with h | h <;> simp [h]))
      have pos : 0 < NumText.digitsVal (a :: r) := NumText.digitsVal_pos (by omega)
      refine ⟨?_, ?_⟩
      · rw [TL.numL_step (by omega), show (NumText.digitsVal (a :: r) * 10 + (c - 48)) / 10 = NumText.digitsVal (a :: r) by omega, show 48 + (NumText.digitsVal (a :: r) * 10 + (c - 48)) % 10 = c by omega, ← ih.1]
      · rw [Nat.pow_succ]
        have := ih.2
        omega
theorem numL_some {l : List Nat} {n : Int} (h : numL l = some n) : ∃ m : Nat, n = m ∧ m < 10 ^ 12 ∧ l = TL.numL m := by
  unfold numL at h
  split at h
  · rename_i hf
    obtain rfl := Option.some.inj h
    obtain ⟨h1, h2, h3, h4⟩ := isFig_iff.mp hf
    obtain ⟨e, lt⟩ := num_fig l.length l rfl h1 h3 h4
    exact ⟨_, rfl, Nat.lt_of_lt_of_le lt (Nat.pow_le_pow_right (by decide) h2), e⟩
  · cases h
theorem numL_num {m : Nat} (h : m < 10 ^ 12) : numL (TL.numL m) = some (m : Int) := by
  unfold numL
  rw [if_pos (fig_num h), TL.numL_val]
theorem numL_45 (m : Nat) : ∀ r, TL.numL m ≠ 45 :: r := fun r z => by
  have := TL.numL_digits m 45 (by rw [z]; exact List.mem_cons_self)
  omega
theorem numN_fig {l : List Nat} (h : ∀ r, l ≠ 45 :: r) : numN l = numL l := by
  unfold numN
  split
  · exact (h _ rfl).elim
  · rfl
theorem numN_neg (r : List Nat) : numN (45 :: r) = (match numL r with | none => none | some n => if n = 0 then none else some (-n)) := rfl
theorem numW_str {n : Int} (h : NumOk n) : numW (str n) = some n := by
  unfold NumOk at h
  unfold numW
  rcases Int.lt_or_le n 0 with c | c
  · obtain ⟨m, rfl⟩ : ∃ m : Nat, n = -(m : Int) := ⟨n.natAbs, by omega⟩
    rw [str_neg (by omega), numN_neg, numL_num (by omega)]
    exact if_neg (by omega)
  · obtain ⟨m, rfl⟩ := Int.eq_ofNat_of_zero_le c
    rw [str_nat, numN_fig (numL_45 m), numL_num (by omega)]
theorem numW_some {w : Str} {n : Int} (h : numW w = some n) : w = str n ∧ NumOk n := by
  unfold numW at h
  by_cases c : ∃ r, tl w = 45 :: r
  · obtain ⟨r, hr⟩ := c
    rw [hr, numN_neg] at h
    cases hn : numL r with
    | none => rw [hn] at h; cases h
    | some k =>
      rw [hn] at h
      obtain ⟨m, rfl, hm, e⟩ := numL_some hn
      dsimp only at h
      split at h
      · cases h
      · rename_i nz
        obtain rfl := Option.some.inj h
        refine ⟨?_, by unfold NumOk; omega⟩
        rw [str_tl, str_neg (by omega), hr, e]
  · rw [numN_fig fun r z => c ⟨r, z⟩] at h
    obtain ⟨m, rfl, hm, e⟩ := numL_some h
    refine ⟨?_, by unfold NumOk; omega⟩
    rw [str_tl, str_nat, e]
theorem str_mem {n : Int} {c : Nat} (h : c ∈ tl (str n)) : c = 45 ∨ (48 ≤ c ∧ c ≤ 57) := by
  rcases Int.lt_or_le n 0 with z | z
  · obtain ⟨m, rfl⟩ : ∃ m : Nat, n = -(m : Int) := ⟨n.natAbs, by omega⟩
    rw [str_neg (by omega)] at h
    rcases List.mem_cons.mp h with h | h
    · exact .inl h
    · exact .inr (TL.numL_digits m c h)
  · obtain ⟨m, rfl⟩ := Int.eq_ofNat_of_zero_le z
    rw [str_nat] at h
    exact .inr (TL.numL_digits m c h)
theorem str_len {n : Int} (h : NumOk n) : (str n).length ≤ 13 := by
  unfold NumOk at h
  rw [len_tl]
  rcases Int.lt_or_le n 0 with z | z
  · obtain ⟨m, rfl⟩ : ∃ m : Nat, n = -(m : Int) := ⟨n.natAbs, by omega⟩
    rw [str_neg (by omega), List.length_cons]
    have := TL.numL_len (n := m) (k := 12) (by decide) (by omega)
    omega
  · obtain ⟨m, rfl⟩ := Int.eq_ofNat_of_zero_le z
    rw [str_nat]
    have := TL.numL_len (n := m) (k := 12) (by decide) (by omega)
    omega
theorem int_str {n : Int} (h : NumOk n) : PySem.intText? (str n) = some n := by
  unfold NumOk at h
  rcases Int.lt_or_le n 0 with z | z
  · obtain ⟨m, rfl⟩ : ∃ m : Nat, n = -(m : Int) := ⟨n.natAbs, by omega⟩
    have hl := TL.numL_len (n := m) (k := 12) (by decide) (by omega)
    have e := str_neg (n := m) (by omega)
    rw [intText_neg e (TL.numL_digits m) (TL.numL_ne m) (by rw [len_tl, e, List.length_cons]; omega), TL.numL_val]
  · obtain ⟨m, rfl⟩ := Int.eq_ofNat_of_zero_le z
    have hl := TL.numL_len (n := m) (k := 12) (by decide) (by omega)
    have e := str_nat m
    rw [intText_digits (by rw [show (str (m : Int)).cps.toList = TL.numL m from e]; exact TL.numL_digits m) (by rw [show (str (m : Int)).cps.toList = TL.numL m from e]; exact TL.numL_ne m) (by rw [len_tl, e]; omega)]
    rw [show (str (m : Int)).cps.toList = TL.numL m from e, TL.numL_val]
/-- how long a joined row may be -/
theorem row_bd {ys : List Str} {k : Nat} (h : ∀ y ∈ ys, y.length ≤ k) : (row ys).length ≤ ys.length * (k + 1) := by
  cases ys with
  | nil =>
    rw [List.length_nil, Nat.zero_mul]
    decide +kernel
  | cons y r =>
    have e := row_len (ys := y :: r) (by simp)
    have : ((y :: r).map (·.length)).sum ≤ (y :: r).length * k := by
      have gen : ∀ l : List Str, (∀ y ∈ l, y.length ≤ k) → (l.map (·.length)).sum ≤ l.length * k := fun l => by
        induction l with
        | nil => intro _; simp
        | cons a l ih =>
          intro h
          rw [List.map_cons, List.sum_cons, List.length_cons, Nat.succ_mul]
          have := ih fun y hy => h y (List.mem_cons_of_mem _ hy)
          have := h a List.mem_cons_self
          omega
      exact gen _ h
    unfold row
    rw [Nat.mul_add, Nat.mul_one]
    omega
theorem toldWs_bd {t : Told} (h : ToldWf t) : (toldWs t).length ≤ 4 ∧ ∀ w ∈ toldWs t, w.length ≤ 13 := by
  have hl := toldWf_len h
  refine ⟨by unfold toldWs; simp; omega, fun w hw => ?_⟩
  unfold toldWs at hw
  rcases List.mem_cons.mp hw with rfl | hw
  · rcases h.1 with ⟨z, _⟩ | ⟨z, _⟩ | ⟨z, _⟩ <;> rw [z] <;> decide +kernel
  · obtain ⟨n, hn, rfl⟩ := List.mem_map.mp hw
    exact str_len (h.2 n hn)
theorem told_sm {t : Told} (h : ToldWf t) : Sm (row (toldWs t)) := by
  obtain ⟨h1, h2⟩ := toldWs_bd h
  have := row_bd h2
  unfold Sm
  have : (toldWs t).length * (13 + 1) ≤ 4 * 14 := Nat.mul_le_mul_right 14 h1
  omega
theorem x__law_told_row {K : PySem.W.Frag} (ρ0 : List Sl) (Q : D → List Sl → Prop) (h : W__law_told_row ρ0 Q) : XS K (t__law_told_row K) (ρ0 ++ List.replicate (N__law_told_row.length - ρ0.length) .unk) (bodyPost ρ0 Q) := by
  obtain ⟨t, rfl, wf, hq⟩ := h
  have hz := told_sm wf
  show XS K (t__law_told_row K) [.dat (dTold t), .unk] _
  unfold t__law_told_row
  have hl := toldWf_len wf
  have sz := row_size hz
  repeat walk_at "dn"
  refine oj_ixT atI_zero ?_
  repeat walk_at "dn"
  refine (ef_map (gs := [1]) (by decide) ?_).ev
  repeat walk_at "dn"
  refine ⟨Int, t.2, .int, fun i => .str (str i), by rw [cutD_eq, show cutL (D.str t.1 :: t.2.map D.int) (some 1) none = _ from cutL_from _ 1]; rfl, by unfold sizeLine; omega, by simp [noOwn, Sl.ad], fun i hi => ?_, ?_⟩
  · refine gj_name (by decide) ?_
    repeat walk_at "dn"
    exact cj_str (str_ok (wf.2 i hi)) ⟨rfl, rfl⟩
  · repeat walk_at "dn"
    refine oj_add_lst (by simp; unfold sizeLine; omega) ?_
    repeat walk_at "dn"
    refine oj_join (ys := toldWs t) (by show some _ = some _; unfold toldWs; rw [List.map_cons, List.map_map]; rfl) sz ?_
    repeat walk_at "dn"
    exact hq
theorem mapInts {K : PySem.W.Frag} {ρ : List Sl} {te : TE} {v : Nat} {gs : List Int} {R : D → List Sl → Prop} (hz : gs.length ≤ 100001) (hn : ∀ n ∈ gs, NumOk n) (h : EV K te ρ fun d ρ1 => d = .tup (gs.map .int) ∧ ρ1[v]? = some .unk ∧ R (.lst (gs.map fun i => .str (str i))) ρ1) : EV K (tLc (iSeqU K te) (gName v) tYes (tCB cStrU (tCons (tVar v) tNil)) [v]) ρ R := by
  refine (ef_map (gs := [v]) (fun _ h => h) (ei_seq (h.mono fun d ρ1 ⟨e, hv, r⟩ => ⟨gs.map .int, by rw [e]; rfl, Int, gs, .int, fun i => .str (str i), rfl, sz_le hz, fun k hk s hs => ?_, fun i hi => ?_, r⟩))).ev
  · rw [List.mem_singleton.mp hk, hv] at hs
    rw [← Option.some.inj hs]
    rfl
  · have hlt : v < ρ1.length := by
      rcases Nat.lt_or_ge v ρ1.length with c | c
      · exact c
      · rw [List.getElem?_eq_none c] at hv; cases hv
    have w1 : wipeS ρ1 [v] = ρ1 := by
      show ρ1.set v .unk = ρ1
      refine List.ext_getElem? fun j => ?_
      by_cases c : v = j
      · subst c; rw [List.getElem?_set_self hlt, hv]
      · rw [List.getElem?_set_ne c]
    rw [w1]
    refine gj_name (List.mem_singleton.mpr rfl) (ev_cb (ea_cons (ev_var (d := .int i) (by rw [List.getElem?_set_self hlt]) (ea_nil ⟨[.int i], rfl, cj_str (str_ok (hn i hi)) ⟨rfl, ?_⟩⟩))))
    show (ρ1.set v _).set v (ρ1[v]?.getD .unk) = ρ1
    rw [List.set_set, hv]
    exact w1
theorem x__law_text {K : PySem.W.Frag} (ρ0 : List Sl) (Q : D → List Sl → Prop) (h : W__law_text ρ0 Q) : XS K (t__law_text K) (ρ0 ++ List.replicate (N__law_text.length - ρ0.length) .unk) (bodyPost ρ0 Q) := by
  obtain ⟨p, rfl, wf, hz, hq⟩ := h
  show XS K (t__law_text K) [.dat (dPaper p), .unk, .unk, .unk, .unk, .unk, .unk, .unk, .unk, .unk, .unk, .unk, .unk, .unk, .unk] _
  unfold t__law_text
  obtain ⟨sz, sl, sm⟩ := text_size hz
  rw [List.length_map] at sl
  have smr : ∀ r ∈ paperRs p, Sm (row r) := fun r hr => sm _ (List.mem_map_of_mem hr)
  repeat walk_at "dn"
  refine xs_setO ?_
  repeat walk_at "dn"
  intro rp
  repeat walk_at "dn"
  refine xs_for (gs := List.range 40) ?_
  repeat walk_at "dn"
  refine ⟨fun i ρ' => ∃ (x2 x3 x4 x5 x6 x7 x8 x9 x10 x11 x12 x13 : Sl), ρ' = [.dat (dPaper p), .own rp (dRows ((p.take i).flatMap unitRs)), x2, x3, x4, x5, x6, x7, x8, x9, x10, x11, x12, x13, .unk], ⟨_, _, _, _, _, _, _, _, _, _, _, _, rfl⟩, ?_, ?_⟩
  · rintro i d ρ' hd ⟨x2, x3, x4, x5, x6, x7, x8, x9, x10, x11, x12, x13, rfl⟩
    obtain ⟨u, hu, rfl⟩ := map_at hd
    have um := List.mem_of_getElem? hu
    have uw := wf u um
    have hlen := pre_len2 unitRs p i hu
    have hlen' : ((p.take i).flatMap unitRs).length + (unitRs u).length ≤ 100001 := Nat.le_trans hlen sl
    have hul : (unitRs u).length = 1 + (u.pairs.flatMap pairRs).length := by unfold unitRs; rw [List.length_cons, Nat.add_comm]
    have sub : ∀ r ∈ unitRs u, r ∈ paperRs p := fun r hr => List.mem_flatMap.mpr ⟨u, um, hr⟩
    have su : Sm (row (unitWs u)) := smr _ (sub _ List.mem_cons_self)
    have gz : u.goes.length ≤ 100000 := by
      have := row_len (ys := unitWs u) (by unfold unitWs; simp)
      unfold Sm row at su
      unfold unitWs at this
      simp only [List.length_cons, List.length_map] at this
      unfold unitWs at su
      omega
    repeat walk_at "dn"
    refine xs_app rfl ?_
    repeat walk_at "dn"
    refine cj_str (str_ok (by rw [List.length_map]; exact uw.pn)) ?_
    repeat walk_at "dn"
    refine mapInts (by omega) uw.go ?_
    repeat walk_at "dn"
    refine ⟨rfl, rfl, ?_⟩
    refine oj_add_lst (by simp; unfold sizeLine; omega) ?_
    repeat walk_at "dn"
    refine oj_join (ys := unitWs u) (by show some _ = some _; unfold unitWs; rw [List.length_map, List.map_cons, List.map_cons, List.map_map]; rfl) (row_size su) ?_
    refine ⟨_, rfl, by simp only [dRows, List.length_map]; exact sz_lt (by omega), ?_⟩
    repeat walk_at "dn"
    refine xs_for (gs := List.range 40) ?_
    repeat walk_at "dn"
    refine ⟨fun j ρ' => ∃ (x4 x5 x6 x7 x8 x9 x10 x11 x12 x13 : Sl), ρ' = [.dat (dPaper p), .own rp (dRows ((p.take i).flatMap unitRs ++ unitWs u :: (u.pairs.take j).flatMap pairRs)), .dat (dInts u.goes), .dat (.tup (u.pairs.map dPair)), x4, x5, x6, x7, x8, x9, x10, x11, x12, x13, .unk], ⟨x4, x5, x6, x7, x8, x9, x10, x11, x12, x13, by simp [dRows]; rfl⟩, ?_, ?_⟩
    · rintro j d ρ' hd ⟨x4, x5, x6, x7, x8, x9, x10, x11, x12, x13, rfl⟩
      obtain ⟨q, hq', rfl⟩ := map_at hd
      have qm := List.mem_of_getElem? hq'
      have qw := uw.pr q qm
      have hl2 := pre_len2 pairRs u.pairs j hq'
      have hql : (pairRs q).length = 1 + (q.firsts.length + q.seconds.length) := by unfold pairRs; simp; omega
      have subq : ∀ r ∈ pairRs q, r ∈ paperRs p := fun r hr => sub r (List.mem_cons_of_mem _ (List.mem_flatMap.mpr ⟨q, qm, hr⟩))
      repeat walk_at "dn"
      refine xs_set ?_
      repeat walk_at "dn"
      refine xs_cut (fun ρ' => ∃ (x9 x10 : Sl), ρ' = [.dat (dPaper p), .own rp (dRows ((p.take i).flatMap unitRs ++ unitWs u :: (u.pairs.take j).flatMap pairRs)), .dat (dInts u.goes), .dat (.tup (u.pairs.map dPair)), .dat (dStack q.stack), .dat (.int q.place), .dat (.tup (q.firsts.map dFirst)), .dat (.tup (q.seconds.map dSecond)), .dat (dStrs ("pair" :: q.stack.flatMap fun a => [str a.1, str a.2])), x9, x10, x11, x12, x13, .unk]) ?_ ?_
      · refine xs_for (gs := List.range 40) ?_
        repeat walk_at "dn"
        refine ⟨fun k ρ' => ∃ (x9 x10 : Sl), ρ' = [.dat (dPaper p), .own rp (dRows ((p.take i).flatMap unitRs ++ unitWs u :: (u.pairs.take j).flatMap pairRs)), .dat (dInts u.goes), .dat (.tup (u.pairs.map dPair)), .dat (dStack q.stack), .dat (.int q.place), .dat (.tup (q.firsts.map dFirst)), .dat (.tup (q.seconds.map dSecond)), .dat (dStrs ("pair" :: (q.stack.take k).flatMap fun a => [str a.1, str a.2])), x9, x10, x11, x12, x13, .unk], ⟨x9, x10, rfl⟩, ?_, ?_⟩
        · rintro k d ρ' hd ⟨x9, x10, rfl⟩
          obtain ⟨a, ha, rfl⟩ := map_at hd
          have an := qw.stn a (List.mem_of_getElem? ha)
          repeat walk_at "dn"
          refine xs_set ?_
          repeat walk_at "dn"
          refine cj_str (str_ok an.1) ?_
          repeat walk_at "dn"
          refine cj_str (str_ok an.2) ?_
          repeat walk_at "dn"
          have hk : ((q.stack.take k).flatMap fun a => [str a.1, str a.2]).length ≤ 4 := by
            have := pre_len (fun a : Int × Int => [str a.1, str a.2]) q.stack k
            have e : (q.stack.flatMap fun a => [str a.1, str a.2]).length = 2 * q.stack.length := by
              induction q.stack with
              | nil => rfl
              | cons a l ih => rw [List.flatMap_cons, List.length_append, ih]; simp; omega
            rcases qw.st with c | c <;> omega
          refine oj_add_lst (by rw [List.length_map, List.length_cons]; simp only [List.length_cons, List.length_nil]; unfold sizeLine; omega) ?_
          refine ⟨.dat (.int a.1), .dat (.int a.2), ?_⟩
          rw [take_succ' ha]
          simp [dStrs]
          exact ⟨rfl, rfl⟩
        · rintro ρ' ⟨x9, x10, rfl⟩
          rw [List.length_map, List.take_length]
          exact ⟨x9, x10, rfl⟩
      · rintro ρ' ⟨x9, x10, rfl⟩
        repeat walk_at "dn"
        refine xs_app rfl ?_
        repeat walk_at "dn"
        refine cj_str (str_ok qw.pl) ?_
        repeat walk_at "dn"
        have spw : Sm (row (pairWs q)) := smr _ (subq _ List.mem_cons_self)
        have lpw := row_len (ys := pairWs q) (by unfold pairWs; simp)
        have lpw2 : (pairWs q).length ≤ 100001 := by unfold Sm row at spw; omega
        refine oj_add_lst (by unfold pairWs at lpw2; simp only [List.length_cons, List.length_append, List.length_map, List.length_nil] at lpw2 ⊢; exact sz_le (by omega)) ?_
        refine oj_join (ys := pairWs q) (by show some _ = some _; unfold pairWs; rw [List.map_cons, List.map_cons, List.map_append]; rfl) (row_size spw) ?_
        refine ⟨_, rfl, by simp only [dRows, List.length_map, List.length_append, List.length_cons]; exact sz_lt (by omega), ?_⟩
        repeat walk_at "dn"
        refine xs_cut (fun ρ' => ∃ (x9 x10 x11 x12 : Sl), ρ' = [.dat (dPaper p), .own rp (dRows ((p.take i).flatMap unitRs ++ (unitWs u :: (u.pairs.take j).flatMap pairRs) ++ (pairWs q :: q.firsts.map firstWs))), .dat (dInts u.goes), .dat (.tup (u.pairs.map dPair)), .dat (dStack q.stack), .dat (.int q.place), .dat (.tup (q.firsts.map dFirst)), .dat (.tup (q.seconds.map dSecond)), .dat (dStrs ("pair" :: q.stack.flatMap fun a => [str a.1, str a.2])), x9, x10, x11, x12, x13, .unk]) ?_ ?_
        · refine xs_for (gs := List.range 40) ?_
          repeat walk_at "dn"
          refine ⟨fun k ρ' => ∃ (x11 x12 : Sl), ρ' = [.dat (dPaper p), .own rp (dRows ((p.take i).flatMap unitRs ++ (unitWs u :: (u.pairs.take j).flatMap pairRs) ++ (pairWs q :: (q.firsts.take k).map firstWs))), .dat (dInts u.goes), .dat (.tup (u.pairs.map dPair)), .dat (dStack q.stack), .dat (.int q.place), .dat (.tup (q.firsts.map dFirst)), .dat (.tup (q.seconds.map dSecond)), .dat (dStrs ("pair" :: q.stack.flatMap fun a => [str a.1, str a.2])), x9, x10, x11, x12, x13, .unk], ⟨x11, x12, by simp [dRows]; rfl⟩, ?_, ?_⟩
          · rintro k d ρ' hd ⟨x11, x12, rfl⟩
            obtain ⟨f, hf, rfl⟩ := map_at hd
            have fm := List.mem_of_getElem? hf
            have fw := qw.fi f fm
            have kl := take_lt hf
            have er : row ["first", str f.1.1, str f.1.2, row (toldWs f.2)] = row (firstWs f) := row_app ["first", str f.1.1, str f.1.2] (toldWs f.2) (by unfold toldWs; simp)
            have sr : Sm (row (firstWs f)) := smr _ (subq _ (List.mem_cons_of_mem _ (List.mem_append_left _ (List.mem_map_of_mem fm))))
            repeat walk_at "dn"
            refine xs_app rfl ?_
            repeat walk_at "dn"
            refine oj_ixT atI_zero ?_
            repeat walk_at "dn"
            refine cj_str (str_ok fw.1) ?_
            repeat walk_at "dn"
            refine oj_ixT (atI_nat (j := 1) rfl) ?_
            repeat walk_at "dn"
            refine cj_str (str_ok fw.2.1) ?_
            repeat walk_at "dn"
            refine ⟨f.2, rfl, fw.2.2, ?_⟩
            repeat walk_at "dn"
            refine oj_join (ys := ["first", str f.1.1, str f.1.2, row (toldWs f.2)]) rfl (row_size (by rw [er]; exact sr)) ?_
            refine ⟨_, rfl, by simp only [dRows, List.length_map, List.length_append, List.length_cons, List.length_take]; exact sz_lt (by omega), .dat (dPt2 f.1), .dat (dTold f.2), ?_⟩
            rw [show Txt.join (Str.ofString " ") ["first", str f.1.1, str f.1.2, row (toldWs f.2)] = row (firstWs f) from er, take_succ' hf]
            simp [dRows]
          · rintro ρ' ⟨x11, x12, rfl⟩
            rw [List.length_map, List.take_length]
            exact ⟨x9, x10, x11, x12, rfl⟩
        · rintro ρ' ⟨x9, x10, x11, x12, rfl⟩
          repeat walk_at "dn"
          refine xs_for (gs := List.range 40) ?_
          repeat walk_at "dn"
          refine ⟨fun k ρ' => ∃ (x12 x13 : Sl), ρ' = [.dat (dPaper p), .own rp (dRows ((p.take i).flatMap unitRs ++ (unitWs u :: (u.pairs.take j).flatMap pairRs) ++ (pairWs q :: (q.firsts.map firstWs ++ (q.seconds.take k).map secondWs)))), .dat (dInts u.goes), .dat (.tup (u.pairs.map dPair)), .dat (dStack q.stack), .dat (.int q.place), .dat (.tup (q.firsts.map dFirst)), .dat (.tup (q.seconds.map dSecond)), .dat (dStrs ("pair" :: q.stack.flatMap fun a => [str a.1, str a.2])), x9, x10, x11, x12, x13, .unk], ⟨x12, x13, by simp [dRows]⟩, ?_, ?_⟩
          · rintro k d ρ' hd ⟨x12, x13, rfl⟩
            obtain ⟨f, hf, rfl⟩ := map_at hd
            have fm := List.mem_of_getElem? hf
            have fw := qw.se f fm
            have kl := take_lt hf
            have er : row ["second", str f.1, row (toldWs f.2)] = row (secondWs f) := row_app ["second", str f.1] (toldWs f.2) (by unfold toldWs; simp)
            have sr : Sm (row (secondWs f)) := smr _ (subq _ (List.mem_cons_of_mem _ (List.mem_append_right _ (List.mem_map_of_mem fm))))
            repeat walk_at "dn"
            refine xs_app rfl ?_
            repeat walk_at "dn"
            refine cj_str (str_ok fw.1) ?_
            repeat walk_at "dn"
            refine ⟨f.2, rfl, fw.2, ?_⟩
            repeat walk_at "dn"
            refine oj_join (ys := ["second", str f.1, row (toldWs f.2)]) rfl (row_size (by rw [er]; exact sr)) ?_
            refine ⟨_, rfl, by simp only [dRows, List.length_map, List.length_append, List.length_cons, List.length_take]; exact sz_lt (by omega), .dat (dTold f.2), .dat (.int f.1), ?_⟩
            rw [show Txt.join (Str.ofString " ") ["second", str f.1, row (toldWs f.2)] = row (secondWs f) from er, take_succ' hf]
            simp [dRows]
          · rintro ρ' ⟨x12, x13, rfl⟩
            rw [List.length_map, List.take_length]
            refine ⟨.dat (dStack q.stack), .dat (.int q.place), .dat (.tup (q.firsts.map dFirst)), .dat (.tup (q.seconds.map dSecond)), .dat (dStrs ("pair" :: q.stack.flatMap fun a => [str a.1, str a.2])), x9, x10, x11, x12, x13, ?_⟩
            rw [take_succ' hq', List.flatMap_append]
            simp [dRows, pairRs]
    · rintro ρ' ⟨x4, x5, x6, x7, x8, x9, x10, x11, x12, x13, rfl⟩
      rw [List.length_map, List.take_length]
      refine ⟨.dat (dInts u.goes), .dat (.tup (u.pairs.map dPair)), x4, x5, x6, x7, x8, x9, x10, x11, x12, x13, ?_⟩
      rw [take_succ' hu, List.flatMap_append]
      simp [unitRs]
  · rintro ρ' ⟨x2, x3, x4, x5, x6, x7, x8, x9, x10, x11, x12, x13, rfl⟩
    rw [List.length_map, List.take_length]
    repeat walk_at "dn"
    refine oj_join (ys := (paperRs p).map row) (by show some _ = some _; rw [List.map_map]; rfl) sz ?_
    repeat walk_at "dn"
    exact hq
theorem isDigit_asc : ∀ c, c < 128 → Unicode.isDigit c = (decide (48 ≤ c) && decide (c ≤ 57)) := by
  have h : (List.range 128).all (fun c => Unicode.isDigit c == (decide (48 ≤ c) && decide (c ≤ 57))) = true := by decide +kernel
  intro c hc
  exact eq_of_beq (List.all_eq_true.mp h c (List.mem_range.mpr hc))
theorem isdigit_iff {s : Str} (h : Asc s) : Txt.isdigit s = true ↔ 1 ≤ (tl s).length ∧ NumText.AllDigits (tl s) := by
  unfold Txt.isdigit NumText.AllDigits
  rw [Bool.and_eq_true, ← Array.all_toList, List.all_eq_true, decide_eq_true_eq, len_tl]
  refine and_congr ⟨fun h => h, fun h => h⟩ ⟨fun g c hc => ?_, fun g c hc => ?_⟩
  · have := g c hc
    rw [isDigit_asc c (h c hc)] at this
    simpa using this
  · rw [isDigit_asc c (h c hc)]
    simpa using g c hc
/-- what the judge takes for a number -/
theorem numW_iff (s : Str) (d : List Nat) (hd : (∃ r, tl s = 45 :: r ∧ d = r) ∨ ((∀ r, tl s ≠ 45 :: r) ∧ d = tl s)) :
    (numW s).isSome = true ↔ (1 ≤ d.length ∧ NumText.AllDigits d) ∧ d.length ≤ 12 ∧ ((d = [48] ∧ tl s = [48]) ∨ d.head? ≠ some 48) := by
  unfold numW
  rcases hd with ⟨r, hr, rfl⟩ | ⟨hn, rfl⟩
  · rw [hr, numN_neg]
    constructor
    · intro h
      cases hm : numL d with
      | none => rw [hm] at h; cases h
      | some n =>
        rw [hm] at h
        have hf : isFig d = true := by
          unfold numL at hm
          split at hm
          · assumption
          · cases hm
        obtain ⟨h1, h2, h3, h4⟩ := isFig_iff.mp hf
        refine ⟨⟨h1, h4⟩, h2, .inr fun z => ?_⟩
        have := h3 z
        rw [this] at hm
        have : n = 0 := by
          have e : numL [48] = some 0 := by decide +kernel
          rw [e] at hm
          exact (Option.some.inj hm).symm
        subst this
        cases h
    · rintro ⟨⟨h1, h4⟩, h2, h3⟩
      have h3' : d.head? ≠ some 48 := by
        rcases h3 with ⟨_, z⟩ | z
        · cases z
        · exact z
      have hf : isFig d = true := isFig_iff.mpr ⟨h1, h2, fun z => (h3' z).elim, h4⟩
      have hm : numL d = some ((NumText.digitsVal d : Nat) : Int) := if_pos hf
      rw [hm]
      dsimp only
      rw [if_neg]
      · rfl
      · intro z
        have e := (num_fig d.length d rfl h1 (fun z => (h3' z).elim) h4).1
        rw [show NumText.digitsVal d = 0 by omega] at e
        rw [e] at h3'
        exact h3' (by decide +kernel)
  · rw [numN_fig hn]
    unfold numL
    constructor
    · intro h
      split at h
      · rename_i hf
        obtain ⟨h1, h2, h3, h4⟩ := isFig_iff.mp hf
        refine ⟨⟨h1, h4⟩, h2, ?_⟩
        by_cases z : (tl s).head? = some 48
        · exact .inl ⟨h3 z, h3 z⟩
        · exact .inr z
      · cases h
    · rintro ⟨⟨h1, h4⟩, h2, h3⟩
      rw [if_pos (isFig_iff.mpr ⟨h1, h2, fun z => ?_, h4⟩)]
      · rfl
      · rcases h3 with h3 | h3
        · exact h3.1
        · exact (h3 z).elim
theorem Asc.cut {s : Str} (h : Asc s) (lo hi : Option Int) : Asc (cutS s lo hi) := fun c hc => h c (by
  rw [show tl (cutS s lo hi) = _ from cutS_tl s lo hi] at hc
  unfold cutL at hc
  exact List.mem_of_mem_drop (List.mem_of_mem_take hc))
theorem x__law_is_number {K : PySem.W.Frag} (ρ0 : List Sl) (Q : D → List Sl → Prop) (h : W__law_is_number ρ0 Q) : XS K (t__law_is_number K) (ρ0 ++ List.replicate (N__law_is_number.length - ρ0.length) .unk) (bodyPost ρ0 Q) := by
  obtain ⟨s, rfl, hz, ha, hq⟩ := h
  show XS K (t__law_is_number K) [.dat (.str s), .unk] _
  unfold t__law_is_number
  have e1 : tl (cutS s none (some 1)) = (tl s).take 1 := (cutS_tl s _ _).trans (cutL_to _ 1)
  have e2 : tl (cutS s (some 1) none) = (tl s).drop 1 := (cutS_tl s _ _).trans (cutL_from _ 1)
  have hm : cutS s none (some 1) = Str.ofString "-" ↔ ∃ r, tl s = 45 :: r := by
    rw [str_tl, e1]
    show (tl s).take 1 = [45] ↔ _
    cases tl s with
    | nil => simp
    | cons c r => simp
  have main : ∀ x : Str, Sm x → Asc x → ((∃ r, tl s = 45 :: r ∧ tl x = r) ∨ ((∀ r, tl s ≠ 45 :: r) ∧ tl x = tl s)) →
      XS K (tSeq (tIfS (tOr (tNot (tTru K (tM0 rIsdigit (tVar 1)))) (tTest (tOp rGtU (tCB (cLenU K) (tCons (tVar 1) (tNil))) (tC (.int 12))))) (tRet (tC (.bl false))) (tNext))
    (tRet (tOrV (tAndV (tOp (rEqU K) (tVar 1) (tC (.str "0"))) (tOp (rEqU K) (tVar 0) (tC (.str "0")))) (tOp (rNeU K) (tOp (rIx K) (tVar 1) (tC (.int 0))) (tC (.str "0")))))) [.dat (.str s), .dat (.str x)] (bodyPost [.dat (.str s)] Q) := fun x hzx hax hx => by
    have iff := numW_iff s (tl x) hx
    have e48 : tl (Str.ofString "0") = [48] := by decide +kernel
    have no : (¬ ((1 ≤ (tl x).length ∧ NumText.AllDigits (tl x)) ∧ (tl x).length ≤ 12 ∧ ((tl x = [48] ∧ tl s = [48]) ∨ (tl x).head? ≠ some 48))) → Q (.bl false) [.unk] := fun z => by
      have : (numW s).isSome = false := by
        cases q : (numW s).isSome with
        | false => rfl
        | true => exact (z (iff.mp q)).elim
      rwa [this] at hq
    have yes : ((1 ≤ (tl x).length ∧ NumText.AllDigits (tl x)) ∧ (tl x).length ≤ 12 ∧ ((tl x = [48] ∧ tl s = [48]) ∨ (tl x).head? ≠ some 48)) → Q (.bl true) [.unk] := fun z => by
      rwa [iff.mpr z] at hq
    have hlx := len_tl x
    repeat walk_at "dn"
    refine et_truB ?_
    repeat walk_at "dn"
    refine br_nb (fun h1 => ?_) fun h1 => ?_
    · repeat walk_at "dn"
      refine no fun z => ?_
      rw [(isdigit_iff hax).mpr z.1] at h1
      cases h1
    · have h1' := (isdigit_iff hax).mp h1
      obtain ⟨c, r, hc⟩ : ∃ c r, tl x = c :: r := by
        cases z : tl x with
        | nil => rw [z] at h1'; simp at h1'
        | cons c r => exact ⟨c, r, rfl⟩
      repeat walk_at "dn"
      · intro h2
        repeat walk_at "dn"
        exact no fun z => by omega
      · intro h2
        have ix : atI x.cps.toList 0 = some c := by rw [show x.cps.toList = c :: r from hc]; exact atI_zero
        have c48 : ((⟨#[c]⟩ : Str) = Str.ofString "0") ↔ c = 48 := by rw [str_tl, e48]; show [c] = [48] ↔ _; simp
        have hl12 : (tl x).length ≤ 12 := by omega
        have last : ¬ (tl x = [48] ∧ tl s = [48]) → OJ K (rIx K) (.str x) (.int 0) fun d => EV K (tC (.str (Str.ofString "0"))) [.dat (.str s), .dat (.str x)] fun y ρ2 => OJ K (rNeU K) d y fun d => (bodyPost [.dat (.str s)] Q).rt d ρ2 := fun nz => by
          refine oj_ixS hzx.le ix ?_
          repeat walk_at "dn"
          by_cases c0 : c = 48
          · rw [decide_eq_true (c48.mpr c0)]
            refine no fun z => ?_
            rcases z.2.2 with z | z
            · exact nz z
            · exact z (by rw [hc, c0]; rfl)
          · rw [decide_eq_false (fun z => c0 (c48.mp z))]
            exact yes ⟨h1', hl12, .inr (by rw [hc]; exact fun z => c0 (Option.some.inj z))⟩
        repeat walk_at "dn"
        · intro h3
          repeat walk_at "dn"
          · intro h4
            repeat walk_at "dn"
            exact yes ⟨h1', hl12, .inl ⟨by rw [← e48]; exact str_tl.mp h3, by rw [← e48]; exact str_tl.mp h4⟩⟩
          · intro h4
            repeat walk_at "dn"
            exact last fun z => h4 (str_tl.mpr (by rw [e48]; exact z.2))
        · intro h3
          repeat walk_at "dn"
          exact last fun z => h3 (str_tl.mpr (by rw [e48]; exact z.1))
  refine xs_seqI (fun ρ' => ∃ x, ρ' = [.dat (.str s), .dat (.str x)] ∧ Sm x ∧ Asc x ∧ ((∃ r, tl s = 45 :: r ∧ tl x = r) ∨ ((∀ r, tl s ≠ 45 :: r) ∧ tl x = tl s))) (xs_set ?_) ?_
  · repeat walk_at "dn"
    · intro h1
      obtain ⟨r, hr⟩ := hm.mp h1
      repeat walk_at "dn"
      exact ⟨_, rfl, hz.cut _ _, ha.cut _ _, .inl ⟨r, hr, by rw [e2, hr]; rfl⟩⟩
    · intro h1
      repeat walk_at "dn"
      exact ⟨_, rfl, hz, ha, .inr ⟨fun r z => h1 (hm.mpr ⟨r, z⟩), rfl⟩⟩
  · rintro ρ' ⟨x, rfl, h1, h2, h3⟩
    exact main x h1 h2 h3
theorem nums_isSome (ws : List Str) : (nums ws).isSome = ws.all fun w => (numW w).isSome := by
  cases h : nums ws with
  | none =>
    obtain ⟨w, h1, h2⟩ := nums_none.mp h
    symm
    show _ = false
    rw [List.all_eq_false]
    exact ⟨w, h1, by rw [h2]; simp⟩
  | some ns =>
    symm
    show _ = true
    rw [List.all_eq_true]
    intro w hw
    have e := nums_some h
    have : numW w ∈ ws.map numW := List.mem_map_of_mem hw
    rw [e] at this
    obtain ⟨n, _, hn⟩ := List.mem_map.mp this
    rw [← hn]
    rfl
theorem notin_bools {f : Str → Bool} (ws : List Str) : inV (.bl false) (ws.map fun w => V.bl (f w)) = !(ws.all f) := by
  unfold inV
  induction ws with
  | nil => rfl
  | cons w r ih =>
    rw [List.map_cons, List.any_cons, List.all_cons, Bool.not_and, ← ih]
    congr 1
    cases f w <;> rfl
/-- False not in [is_number(e) for e in words] -/
theorem all_nums {K : PySem.W.Frag} {ρ : List Sl} {te : TE} {v : Nat} {ws : List Str} {R : D → List Sl → Prop} (hz : AscWs ws)
    (h : EV K te ρ fun d ρ1 => sqd d = some (ws.map .str) ∧ ρ1[v]? = some .unk ∧ R (.bl (nums ws).isSome) ρ1) : EV K (tLc (iSeqU K te) (gName v) tYes (tCall (spW K W__law_is_number) [] E0 (tCons (tVar v) tNil)) [v]) ρ fun y ρ2 => OJ K (rNinU K) (.bl false) y fun d => R d ρ2 := by
  refine (ef_map (gs := [v]) (fun _ h => h) (ei_seq (h.mono fun d ρ1 ⟨e, hv, r⟩ => ⟨ws.map .str, e, Str, ws, .str, fun w => .bl (numW w).isSome, rfl, sz_le hz.1, fun k hk s hs => ?_, fun w hw => ?_, ?_⟩))).ev
  · rw [List.mem_singleton.mp hk, hv] at hs
    rw [← Option.some.inj hs]
    rfl
  · have hlt : v < ρ1.length := by
      rcases Nat.lt_or_ge v ρ1.length with c | c
      · exact c
      · rw [List.getElem?_eq_none c] at hv; cases hv
    have w1 : wipeS ρ1 [v] = ρ1 := by
      show ρ1.set v .unk = ρ1
      refine List.ext_getElem? fun j => ?_
      by_cases c : v = j
      · subst c; rw [List.getElem?_set_self hlt, hv]
      · rw [List.getElem?_set_ne c]
    rw [w1]
    refine gj_name (List.mem_singleton.mpr rfl) (ev_callD (ea_cons (ev_var (d := .str w) (by rw [List.getElem?_set_self hlt]) (ea_nil ⟨[.str w], rfl, w, rfl, (hz.2 w hw).1, (hz.2 w hw).2, rfl, ?_⟩))))
    show (ρ1.set v _).set v (ρ1[v]?.getD .unk) = ρ1
    rw [List.set_set, hv]
    exact w1
  · refine oj_nin (u := .bl false) rfl rfl (fls_map _ (fun w => .bl (numW w).isSome) ws fun w _ => rfl) ?_
    rw [notin_bools, Bool.not_not, ← nums_isSome]
    exact r
theorem x__law_all_are {K : PySem.W.Frag} (ρ0 : List Sl) (Q : D → List Sl → Prop) (h : W__law_all_are ρ0 Q) : XS K (t__law_all_are K) (ρ0 ++ List.replicate (N__law_all_are.length - ρ0.length) .unk) (bodyPost ρ0 Q) := by
  obtain ⟨ws, rfl, hz, hq⟩ := h
  show XS K (t__law_all_are K) [.dat (dStrs ws), .unk] _
  unfold t__law_all_are
  repeat walk_at "dn"
  refine all_nums hz ?_
  repeat walk_at "dn"
  refine ⟨rfl, rfl, ?_⟩
  repeat walk_at "dn"
  exact hq
theorem AscWs.sm {ws : List Str} (h : AscWs ws) : SmWs ws := ⟨h.1, fun w hw => (h.2 w hw).1⟩
theorem AscWs.take {ws : List Str} (h : AscWs ws) (n : Nat) : AscWs (ws.take n) := ⟨by rw [List.length_take]; exact Nat.le_trans (Nat.min_le_right _ _) h.1, fun w hw => h.2 w (List.mem_of_mem_take hw)⟩
theorem AscWs.drop {ws : List Str} (h : AscWs ws) (n : Nat) : AscWs (ws.drop n) := ⟨by rw [List.length_drop]; exact Nat.le_trans (Nat.sub_le _ _) h.1, fun w hw => h.2 w (List.mem_of_mem_drop hw)⟩
theorem told_kvs (w : Str) : (valV (mergeK [] (cKvs [("num", 2), ("len", 3), ("spot", 4)])) (.inr w)).getD (.int 0) = .int (((toldN w).getD 0 : Nat) : Int) := by
  rw [show mergeK [] (cKvs [("num", 2), ("len", 3), ("spot", 4)]) = [(.inr "num", .int 2), (.inr "len", .int 3), (.inr "spot", .int 4)] by decide +kernel]
  unfold toldN
  by_cases h1 : w = "num"
  · rw [if_pos h1, h1]; rfl
  · rw [if_neg h1, valV_neg (fun z => h1 (Sum.inr.inj z).symm)]
    by_cases h2 : w = "len"
    · rw [if_pos h2, h2]; rfl
    · rw [if_neg h2, valV_neg (fun z => h2 (Sum.inr.inj z).symm)]
      by_cases h3 : w = "spot"
      · rw [if_pos h3, h3]; rfl
      · rw [if_neg h3, valV_neg (fun z => h3 (Sum.inr.inj z).symm)]
        rfl
theorem x__law_is_told {K : PySem.W.Frag} (ρ0 : List Sl) (Q : D → List Sl → Prop) (h : W__law_is_told ρ0 Q) : XS K (t__law_is_told K) (ρ0 ++ List.replicate (N__law_is_told.length - ρ0.length) .unk) (bodyPost ρ0 Q) := by
  obtain ⟨ws, rfl, hz, hq⟩ := h
  show XS K (t__law_is_told K) [.dat (dStrs ws), .unk] _
  unfold t__law_is_told
  unfold toldR at hq
  cases ws with
  | nil =>
    repeat walk_at "dn"
    refine et_truL ?_
    repeat walk_at "dn"
    · intro _
      repeat walk_at "dn"
      exact hq
    · intro z
      exact (z rfl).elim
  | cons w r =>
    repeat walk_at "dn"
    refine et_truL ?_
    repeat walk_at "dn"
    · intro z
      cases z
    intro _
    repeat walk_at "dn"
    refine ev_dgetC (by decide) ?_
    repeat walk_at "dn"
    refine oj_ixL atI_zero ?_
    refine ⟨w, _, rfl, told_kvs w, ?_⟩
    dsimp only at hq
    have ln : ((w :: r).map D.str).length = (w :: r).length := by simp
    have eq : (((w :: r).map D.str).length : Int) = (((toldN w).getD 0 : Nat) : Int) ↔ toldN w = some (w :: r).length := by
      rw [ln]
      cases toldN w with
      | none =>
        simp only [Option.getD_none, List.length_cons]
        constructor
        · intro z; omega
        · intro z; cases z
      | some k =>
        simp only [Option.getD_some, Option.some.injEq]
        omega
    repeat walk_at "dn"
    · intro h1
      repeat walk_at "dn"
      rw [if_neg (fun z => h1 (eq.mpr z))] at hq
      exact hq
    · intro h1
      rw [if_pos (eq.mp h1)] at hq
      repeat walk_at "dn"
      refine all_nums (hz.drop 1) ?_
      repeat walk_at "dn"
      rw [cut1]
      refine ⟨rfl, rfl, ?_⟩
      repeat walk_at "dn"
      rw [Option.isSome_map] at hq
      exact hq
/-! ### texts split -/
theorem spl1 (s : Nat) : ∀ (l acc : List Nat), TL.spl [s] 0 acc l ≠ [] ∧ TL.joinL [s] (TL.spl [s] 0 acc l) = acc ++ l ∧ (s ∉ acc → ∀ p ∈ TL.spl [s] 0 acc l, s ∉ p) ∧ (TL.spl [s] 0 acc l).length ≤ l.length + 1
  | [], acc => by
    rw [TL.spl_nil]
    refine ⟨by simp, by simp [TL.joinL], fun h p hp => ?_, by simp⟩
    rw [List.mem_singleton.mp hp]; exact h
  | c :: r, acc => by
    by_cases e : c = s
    · have hp : TL.pre [s] (c :: r) = true := by unfold TL.pre; rw [e]; simp
      rw [TL.spl_hit hp]
      obtain ⟨h1, h2, h3, h4⟩ := spl1 s r []
      show acc :: TL.spl [s] 0 [] r ≠ [] ∧ TL.joinL [s] (acc :: TL.spl [s] 0 [] r) = acc ++ c :: r ∧ (s ∉ acc → ∀ p ∈ acc :: TL.spl [s] 0 [] r, s ∉ p) ∧ (acc :: TL.spl [s] 0 [] r).length ≤ (c :: r).length + 1
      refine ⟨by simp, ?_, fun h p hp => ?_, by simp; omega⟩
      · cases z : TL.spl [s] 0 [] r with
        | nil => exact (h1 z).elim
        | cons q qs =>
          rw [z] at h2
          show acc ++ ([s] ++ TL.joinL [s] (q :: qs)) = _
          rw [h2, e]
          rfl
      · rcases List.mem_cons.mp hp with h' | h'
        · rw [h']; exact h
        · exact h3 (by simp) p h'
    · have hp : TL.pre [s] (c :: r) = false := by
        unfold TL.pre
        simp [e]
      rw [TL.spl_miss hp]
      obtain ⟨h1, h2, h3, h4⟩ := spl1 s r (acc ++ [c])
      refine ⟨h1, by rw [h2]; simp, fun h => h3 fun z => ?_, by simp at h4 ⊢; omega⟩
      rcases List.mem_append.mp z with z | z
      · exact h z
      · exact e (List.mem_singleton.mp z).symm
theorem mem_joinL (S : List Nat) : ∀ (ps : List (List Nat)) (p : List Nat) (c : Nat), p ∈ ps → c ∈ p → c ∈ TL.joinL S ps
  | [q], p, c, h, hc => by
    rw [List.mem_singleton.mp h] at hc
    exact hc
  | q :: q2 :: r, p, c, h, hc => by
    show c ∈ q ++ (S ++ TL.joinL S (q2 :: r))
    rcases List.mem_cons.mp h with h | h
    · rw [h] at hc
      exact List.mem_append_left _ hc
    · exact List.mem_append_right _ (List.mem_append_right _ (mem_joinL S (q2 :: r) p c h hc))
structure SplitOk (x : Str) (s : Nat) (y : Str) (ps : List Str) : Prop where
  ne : ps ≠ []
  jn : Txt.join y ps = x
  fr : ∀ p ∈ ps, s ∉ tl p
  len : ps.length ≤ x.length + 1
  mem : ∀ p ∈ ps, ∀ c ∈ tl p, c ∈ tl x
  sz : ∀ p ∈ ps, p.length ≤ x.length
theorem split_ok {x y : Str} {s : Nat} (ey : tl y = [s]) (hk : y.cps.all (· < 256) = true) : SplitOk x s y (Txt.split x y) := by
  have e : (Txt.split x y).map tl = TL.spl [s] 0 [] (tl x) := by
    have := TL.split_spl x y (by rw [show TL.tl y = [s] from ey]; simp) (TL.kind_ok hk)
    rw [show TL.tl y = [s] from ey] at this
    exact this
  obtain ⟨h1, h2, h3, h4⟩ := spl1 s (tl x) []
  rw [← e] at h1 h2 h3 h4
  have ne : Txt.split x y ≠ [] := fun z => h1 (by rw [z]; rfl)
  have mem : ∀ p ∈ Txt.split x y, ∀ c ∈ tl p, c ∈ tl x := fun p hp c hc => by
    rw [List.nil_append] at h2
    rw [← h2]
    exact mem_joinL _ _ _ _ (List.mem_map_of_mem hp) hc
  refine ⟨ne, ?_, fun p hp => h3 (by simp) _ (List.mem_map_of_mem hp), ?_, mem, fun p hp => ?_⟩
  · rw [str_tl, join_tl, ey, h2]
    rfl
  · rw [List.length_map] at h4
    rw [len_tl]
    exact h4
  · have := joinL_len s ((Txt.split x y).map tl) h1
    rw [h2, List.nil_append] at this
    have l1 : 1 ≤ ((Txt.split x y).map tl).length := List.length_pos_iff.mpr h1
    have hm := sum_mem (List.mem_map_of_mem (f := List.length) (List.mem_map_of_mem (f := tl) hp))
    rw [len_tl, len_tl]
    omega
theorem split_sp (x : Str) : SplitOk x 32 sp (Txt.split x sp) := split_ok sp_tl (by decide +kernel)
theorem split_nl (x : Str) : SplitOk x 10 nl (Txt.split x nl) := split_ok nl_tl (by decide +kernel)
theorem SplitOk.asc {x y : Str} {s : Nat} {ps : List Str} (h : SplitOk x s y ps) (hz : Sm x) (ha : Asc x) : AscWs ps :=
  ⟨Nat.le_trans h.len (by unfold Sm at hz; omega), fun w hw => ⟨Nat.le_trans (h.sz w hw) hz, fun c hc => ha c (h.mem w hw c hc)⟩⟩
theorem SplitOk.sm {x y : Str} {s : Nat} {ps : List Str} (h : SplitOk x s y ps) (hz : Sm x) : SmWs ps :=
  ⟨Nat.le_trans h.len (by unfold Sm at hz; omega), fun w hw => Nat.le_trans (h.sz w hw) hz⟩
theorem firstR_key (ws : List Str) : firstR ws = mkFirst (nums ((ws.drop 1).take 2)) (toldR (ws.drop 3)) := by
  cases ws with
  | nil => rfl
  | cons a r =>
    cases r with
    | nil => rfl
    | cons b r =>
      cases r with
      | nil =>
        show none = _
        rw [show toldR (List.drop 3 [a, b]) = none from rfl, mkFirst_none]
      | cons c r => rfl
theorem secondR_key (ws : List Str) : secondR ws = mkSecond (nums ((ws.drop 1).take 1)) (toldR (ws.drop 2)) := by
  cases ws with
  | nil => rfl
  | cons a r =>
    cases r with
    | nil =>
      show none = _
      rw [show toldR (List.drop 2 [a]) = none from rfl, mkSecond_none]
    | cons b r => rfl
theorem nums_len {ws : List Str} {ns : List Int} (h : nums ws = some ns) : ns.length = ws.length := by
  have := congrArg List.length (nums_some h)
  simpa using this.symm
theorem firstR_some (ws : List Str) : (firstR ws).isSome = (decide (3 < ws.length) && ((nums ((ws.drop 1).take 2)).isSome && (toldR (ws.drop 3)).isSome)) := by
  rw [firstR_key]
  by_cases h : 3 < ws.length
  · rw [decide_eq_true h, Bool.true_and]
    cases h1 : nums ((ws.drop 1).take 2) with
    | none => rfl
    | some ns =>
      have hl := nums_len h1
      simp at hl
      obtain ⟨x, y, rfl⟩ : ∃ x y, ns = [x, y] := by
        match ns, (show ns.length = 2 by omega) with
        | [x, y], _ => exact ⟨x, y, rfl⟩
      cases toldR (ws.drop 3) <;> rfl
  · rw [decide_eq_false h, Bool.false_and, List.drop_eq_nil_of_le (by omega : ws.length ≤ 3), show toldR [] = none from rfl, mkFirst_none]
    rfl
theorem secondR_some (ws : List Str) : (secondR ws).isSome = (decide (2 < ws.length) && ((nums ((ws.drop 1).take 1)).isSome && (toldR (ws.drop 2)).isSome)) := by
  rw [secondR_key]
  by_cases h : 2 < ws.length
  · rw [decide_eq_true h, Bool.true_and]
    cases h1 : nums ((ws.drop 1).take 1) with
    | none => rfl
    | some ns =>
      have hl := nums_len h1
      simp at hl
      obtain ⟨x, rfl⟩ : ∃ x, ns = [x] := by
        match ns, (show ns.length = 1 by omega) with
        | [x], _ => exact ⟨x, rfl⟩
      cases toldR (ws.drop 2) <;> rfl
  · rw [decide_eq_false h, Bool.false_and, List.drop_eq_nil_of_le (by omega : ws.length ≤ 2), show toldR [] = none from rfl, mkSecond_none]
    rfl
theorem pairR_some {ws : List Str} (hh : ws.head? = some (Str.ofString "pair")) : (pairR ws).isSome = (decide (ws.length = 5 ∨ ws.length = 7) && (decide (ws[ws.length - 2]? = some (Str.ofString "at")) && (nums ((ws.drop 1).take (ws.length - 3) ++ ws.drop (ws.length - 1))).isSome)) := by
  unfold pairR
  by_cases h1 : ws.length = 5 ∨ ws.length = 7
  · by_cases h2 : ws[ws.length - 2]? = some (Str.ofString "at")
    · rw [if_pos ⟨hh, h1, h2⟩, decide_eq_true h1, decide_eq_true h2, Bool.true_and, Bool.true_and]
      cases h3 : nums ((ws.drop 1).take (ws.length - 3) ++ ws.drop (ws.length - 1)) with
      | none => rfl
      | some ns =>
        have hl := nums_len h3
        simp at hl
        cases hg : ns.getLast? with
        | none =>
          rw [List.getLast?_eq_none_iff] at hg
          rw [hg] at hl
          simp at hl
          omega
        | some z => simp [hg]
    · rw [if_neg (fun z => h2 z.2.2), decide_eq_false h2, Bool.false_and, Bool.and_false]
      rfl
  · rw [if_neg (fun z => h1 z.2.1), decide_eq_false h1, Bool.false_and]
    rfl
/-- the branches of the judge -/
theorem j_unit {m st : Int} {w : Str} {r : List Str} (h : w = "unit") : judge1 m st (w :: r) = (decide (m = 0) && (unitR (w :: r)).isSome, (match unitR (w :: r) with | some x => if m = 0 then x.1 else 0 | none => 0), 0) := if_pos (congrArg some h)
theorem j_pair {m st : Int} {w : Str} {r : List Str} (h1 : w ≠ "unit") (h : w = "pair") : judge1 m st (w :: r) = (decide (0 < m) && (pairR (w :: r)).isSome, m - 1, 1) :=
  (if_neg (fun z => h1 (Option.some.inj z))).trans (if_pos (congrArg some h))
theorem j_first {m st : Int} {w : Str} {r : List Str} (h1 : w ≠ "unit") (h2 : w ≠ "pair") (h : w = "first") : judge1 m st (w :: r) = (decide (st = 1) && (firstR (w :: r)).isSome, m, st) :=
  (if_neg (fun z => h1 (Option.some.inj z))).trans ((if_neg (fun z => h2 (Option.some.inj z))).trans (if_pos (congrArg some h)))
theorem j_second {m st : Int} {w : Str} {r : List Str} (h1 : w ≠ "unit") (h2 : w ≠ "pair") (h3 : w ≠ "first") (h : w = "second") : judge1 m st (w :: r) = (decide (0 < st) && (secondR (w :: r)).isSome, m, 2) :=
  (if_neg (fun z => h1 (Option.some.inj z))).trans ((if_neg (fun z => h2 (Option.some.inj z))).trans ((if_neg (fun z => h3 (Option.some.inj z))).trans (if_pos (congrArg some h))))
theorem j_none {m st : Int} {w : Str} {r : List Str} (h1 : w ≠ "unit") (h2 : w ≠ "pair") (h3 : w ≠ "first") (h4 : w ≠ "second") : judge1 m st (w :: r) = (false, m, st) :=
  (if_neg (fun z => h1 (Option.some.inj z))).trans ((if_neg (fun z => h2 (Option.some.inj z))).trans ((if_neg (fun z => h3 (Option.some.inj z))).trans (if_neg (fun z => h4 (Option.some.inj z)))))
abbrev wS (s : Str) (R : List Str) (m st i : Int) (ws : List Str) (g : Bool) : List Sl := [.dat (.str s), .dat (dStrs R), .dat (.int m), .dat (.int st), .dat (.int i), .dat (dStrs ws), .dat (.bl g)]
theorem unitR_cons {w : Str} {r : List Str} (h : w = "unit") : unitR (w :: r) = (match nums r with | some (n :: ns) => if 1 ≤ n then some (n, ns) else none | _ => none) := by
  show (match nums r with | some (n :: ns) => if w = "unit" ∧ 1 ≤ n then some (n, ns) else none | _ => none) = _
  split
  · rename_i n ns _
    by_cases c : 1 ≤ n
    · rw [if_pos ⟨h, c⟩, if_pos c]
    · rw [if_neg (fun z => c z.2), if_neg c]
  · rfl
theorem nums_cons {a : Str} {r : List Str} : nums (a :: r) = (match numW a with | none => none | some n => (nums r).map (n :: ·)) := by
  unfold nums
  rw [List.mapM_cons]
  cases numW a with
  | none => rfl
  | some n => cases r.mapM numW <;> rfl
theorem x__law_wrong_row {K : PySem.W.Frag} (ρ0 : List Sl) (Q : D → List Sl → Prop) (h : W__law_wrong_row ρ0 Q) : XS K (t__law_wrong_row K) (ρ0 ++ List.replicate (N__law_wrong_row.length - ρ0.length) .unk) (bodyPost ρ0 Q) := by
  obtain ⟨s, rfl, hz, ha, hq⟩ := h
  show XS K (t__law_wrong_row K) [.dat (.str s), .unk, .unk, .unk, .unk, .unk, .unk] _
  unfold t__law_wrong_row
  obtain ⟨R, hR, hRa⟩ : ∃ R : List Str, (if s.length = 0 then [] else Txt.split s nl) = R ∧ AscWs R := by
    refine ⟨_, rfl, ?_⟩
    split
    · exact ⟨by simp, fun w hw => by cases hw⟩
    · exact (split_nl s).asc hz ha
  have hrows : rowsOf s = R.map fun r => Txt.split r sp := by
    unfold rowsOf
    rw [← hR]
    split <;> rfl
  unfold wrong at hq
  rw [hrows, List.length_map] at hq
  refine xs_seqI (fun ρ' => ρ' = [.dat (.str s), .dat (dStrs R), .unk, .unk, .unk, .unk, .unk]) (xs_set ?_) ?_
  · repeat walk_at "dn"
    refine et_truS ?_
    repeat walk_at "dn"
    refine ⟨hz.le, ?_⟩
    repeat walk_at "dn"
    · intro h1
      rw [if_neg h1] at hR
      repeat walk_at "dn"
      refine oj_split (by decide +kernel) (by unfold Sm at hz; unfold sizeLine; omega) ?_
      rw [show Txt.split s (Str.ofString "\n") = R from hR]
      rfl
    · intro h1
      rw [if_pos h1] at hR
      repeat walk_at "dn"
      rw [← hR]
      rfl
  · rintro ρ' rfl
    repeat walk_at "dn"
    refine xs_set ?_
    repeat walk_at "dn"
    refine xs_set ?_
    repeat walk_at "dn"
    refine xs_for (gs := List.range 40) ?_
    repeat walk_at "dn"
    have hRl := hRa.1
    refine ⟨R.length, by rw [List.length_map], by omega, by omega, fun i ρ' => ∃ (m st : Int) (x4 x5 x6 : Sl), ρ' = [.dat (.str s), .dat (dStrs R), .dat (.int m), .dat (.int st), x4, x5, x6] ∧
      judge 0 0 (R.map fun r => Txt.split r sp) = judge m st ((R.map fun r => Txt.split r sp).drop i), ⟨_, _, _, _, _, rfl, rfl⟩, ?_, ?_⟩
    · rintro i d ρ' hd ⟨m, st, x4, x5, x6, rfl, hj⟩
      have hlt : i < R.length := by have := take_lt hd; rwa [rangeD_len, Int.toNat_natCast] at this
      obtain rfl : d = .int i := by
        rw [rangeD_at (by rw [Int.toNat_natCast]; exact hlt)] at hd
        rw [← Option.some.inj hd, Int.zero_add]
      have hRi := hRa.2 _ (List.getElem_mem hlt)
      have so := split_sp R[i]
      have hws := so.asc hRi.1 hRi.2
      have hdrop : (R.map fun r => Txt.split r sp).drop i = Txt.split R[i] sp :: (R.map fun r => Txt.split r sp).drop (i + 1) := by
        rw [List.drop_eq_getElem_cons (by rw [List.length_map]; exact hlt), List.getElem_map]
      rw [hdrop] at hj
      obtain ⟨w, r, hwr⟩ : ∃ w r, Txt.split R[i] sp = w :: r := by
        cases z : Txt.split R[i] sp with
        | nil => exact (so.ne z).elim
        | cons w r => exact ⟨w, r, rfl⟩
      repeat walk_at "dn"
      refine xs_set ?_
      repeat walk_at "dn"
      refine oj_ixL (d := .str R[i]) (atI_nat (j := i) (by rw [List.getElem?_map, List.getElem?_eq_getElem hlt]; rfl)) ?_
      repeat walk_at "dn"
      refine oj_split (by decide +kernel) (by have := hRi.1; unfold Sm at this; unfold sizeLine; omega) ?_
      rw [show Txt.split R[i] (Str.ofString " ") = w :: r from hwr]
      rw [hwr] at hj hws
      repeat walk_at "dn"
      refine xs_set (ev_bl ?_)
      refine xs_seq ?_
      show XS K _ (wS s R m st i (w :: r) false) _
      refine xs_cut (fun ρ' => ∃ (b : Bool) (m' st' : Int), ρ' = wS s R m' st' i (w :: r) b ∧ (b = true → judge1 m st (w :: r) = (true, m', st')) ∧ (b = false → (judge1 m st (w :: r)).1 = false)) ?_ ?_
      · have ix0 : atI ((w :: r).map D.str) 0 = some (.str w) := atI_zero
        have ln : ((w :: r).map D.str).length = (w :: r).length := by simp
        have fin : ∀ {g : Bool} {m' st' : Int}, judge1 m st (w :: r) = (g, m', st') → ∃ (b : Bool) (m2 st2 : Int), wS s R m' st' i (w :: r) g = wS s R m2 st2 i (w :: r) b ∧ (b = true → judge1 m st (w :: r) = (true, m2, st2)) ∧ (b = false → (judge1 m st (w :: r)).1 = false) := fun {g m' st'} e =>
          ⟨g, m', st', rfl, fun z => by rw [e, z], fun z => by rw [e, z]⟩
        refine xs_if ?_
        repeat walk_at "dn"
        refine oj_ixL ix0 ?_
        repeat walk_at "dn"
        · intro h1
          repeat walk_at "dn"
          have hU : (unitR (w :: r) = none ∧ (r ≠ [] → nums r = none)) ∨ ∃ a r' n ns, r = a :: r' ∧ nums r = some (n :: ns) ∧ numW a = some n ∧ unitR (w :: r) = if 1 ≤ n then some (n, ns) else none := by
            rw [unitR_cons h1]
            cases r with
            | nil => exact .inl ⟨rfl, fun z => (z rfl).elim⟩
            | cons a r' =>
              cases hn : nums (a :: r') with
              | none => exact .inl ⟨rfl, fun _ => rfl⟩
              | some ns =>
                rw [nums_cons] at hn
                cases ha : numW a with
                | none => rw [ha] at hn; cases hn
                | some n =>
                  rw [ha] at hn
                  cases hr : nums r' with
                  | none => rw [hr] at hn; cases hn
                  | some ns' =>
                    rw [hr] at hn
                    obtain rfl : n :: ns' = ns := Option.some.inj hn
                    exact .inr ⟨a, r', n, ns', rfl, rfl, ha, rfl⟩
          refine xs_cut (fun ρ' => ρ' = wS s R m st i (w :: r) (decide (m = 0) && (unitR (w :: r)).isSome)) (xs_set ?_) ?_
          · repeat walk_at "dn"
            · intro hm
              repeat walk_at "dn"
              · intro hl
                repeat walk_at "dn"
                rw [cut1]
                refine ⟨r, rfl, hws.drop 1, ?_⟩
                repeat walk_at "dn"
                refine br_b (fun h => ?_) fun h => ?_
                · rcases hU with ⟨hU, hN⟩ | ⟨a, r', n, ns, rfl, hn, hna, hU⟩
                  · exfalso
                    rw [hN (fun z => by rw [z] at hl; simp at hl)] at h
                    cases h
                  · obtain ⟨rfl, nok⟩ := numW_some hna
                    repeat walk_at "dn"
                    refine oj_ixL (d := .str (str n)) (atI_nat (j := 1) rfl) ?_
                    repeat walk_at "dn"
                    refine cj_intS (int_str nok) (Nat.le_trans (str_len nok) (by decide)) ?_
                    repeat walk_at "dn"
                    rw [hU, decide_eq_true hm, Bool.true_and]
                    by_cases c : 1 ≤ n
                    · rw [if_pos c, decide_eq_true (by omega : 0 < n)]; rfl
                    · rw [if_neg c, decide_eq_false (by omega : ¬ 0 < n)]; rfl
                · rcases hU with ⟨hU, hN⟩ | ⟨a, r', n, ns, rfl, hn, hna, hU⟩
                  · rw [hU, decide_eq_true hm]; rfl
                  · rw [hn] at h; cases h
              · intro hl
                rcases hU with ⟨hU, hN⟩ | ⟨a, r', n, ns, rfl, hn, hna, hU⟩
                · rw [hU, decide_eq_true hm]; rfl
                · exact (hl (by simp; omega)).elim
            · intro hm
              rw [decide_eq_false hm, Bool.false_and]
              rfl
          · rintro ρ' rfl
            repeat walk_at "dn"
            refine xs_set ?_
            repeat walk_at "dn"
            refine et_truB ?_
            repeat walk_at "dn"
            rcases hU with ⟨hU, hN⟩ | ⟨a, r', n, ns, rfl, hn, hna, hU⟩
            · rw [hU, show (decide (m = 0) && (none : Option (Int × List Int)).isSome) = false from Bool.and_false _]
              repeat walk_at "dn"
              refine xs_set ?_
              repeat walk_at "dn"
              refine fin ?_
              rw [j_unit h1, hU]
              rw [show (decide (m = 0) && (none : Option (Int × List Int)).isSome) = false from Bool.and_false _]
            · obtain ⟨rfl, nok⟩ := numW_some hna
              rw [hU]
              by_cases c : 1 ≤ n
              · by_cases hm : m = 0
                · rw [if_pos c, decide_eq_true hm, show (true && (some (n, ns)).isSome) = true from rfl]
                  repeat walk_at "dn"
                  refine oj_ixL (d := .str (str n)) (atI_nat (j := 1) rfl) ?_
                  repeat walk_at "dn"
                  refine cj_intS (int_str nok) (Nat.le_trans (str_len nok) (by decide)) ?_
                  repeat walk_at "dn"
                  refine xs_set ?_
                  repeat walk_at "dn"
                  refine fin ?_
                  rw [j_unit h1, hU, if_pos c, decide_eq_true hm]
                  show (true, (if m = 0 then n else 0), (0 : Int)) = _
                  rw [if_pos hm]
                · rw [decide_eq_false hm, Bool.false_and]
                  repeat walk_at "dn"
                  refine xs_set ?_
                  repeat walk_at "dn"
                  refine fin ?_
                  rw [j_unit h1, hU, if_pos c, decide_eq_false hm, Bool.false_and]
                  show (false, (if m = 0 then n else 0), (0 : Int)) = _
                  rw [if_neg hm]
              · rw [if_neg c, show (decide (m = 0) && (none : Option (Int × List Int)).isSome) = false from Bool.and_false _]
                repeat walk_at "dn"
                refine xs_set ?_
                repeat walk_at "dn"
                refine fin ?_
                rw [j_unit h1, hU, if_neg c, show (decide (m = 0) && (none : Option (Int × List Int)).isSome) = false from Bool.and_false _]
        · intro h1
          repeat walk_at "dn"
          refine oj_ixL ix0 ?_
          repeat walk_at "dn"
          · intro h2
            repeat walk_at "dn"
            refine xs_cut (fun ρ' => ρ' = wS s R m st i (w :: r) (decide (0 < m) && (pairR (w :: r)).isSome)) (xs_set ?_) ?_
            · rw [pairR_some (ws := w :: r) (congrArg some h2)]
              repeat walk_at "dn"
              · intro hm
                rw [decide_eq_true hm, Bool.true_and]
                repeat walk_at "dn"
                refine oj_in (u := .int ((w :: r).map D.str).length) rfl rfl rfl ?_
                have hin : inV (.int ((w :: r).map D.str).length) [.int 5, .int 7] = decide ((w :: r).length = 5 ∨ (w :: r).length = 7) := by
                  rw [ln]
                  unfold inV
                  show ((decide ((5 : Int) = ((w :: r).length : Nat)) || (decide ((7 : Int) = ((w :: r).length : Nat)) || false))) = _
                  by_cases c1 : (w :: r).length = 5
                  · rw [c1]; decide
                  · by_cases c2 : (w :: r).length = 7
                    · rw [c2]; decide
                    · rw [decide_eq_false (p := (5 : Int) = ((w :: r).length : Nat)) (by omega), decide_eq_false (p := (7 : Int) = ((w :: r).length : Nat)) (by omega), decide_eq_false (by omega)]
                      rfl
                rw [hin]
                repeat walk_at "dn"
                · intro hl
                  obtain ⟨x, hx⟩ : ∃ x, (w :: r)[(w :: r).length - 2]? = some x := ⟨_, List.getElem?_eq_getElem (by omega)⟩
                  rw [decide_eq_true hl, Bool.true_and, hx]
                  repeat walk_at "dn"
                  refine oj_ixL (d := .str x) (atI_map (f := D.str) (atI_neg (k := 2) (by decide) (by omega) hx)) ?_
                  repeat walk_at "dn"
                  · intro h3
                    rw [decide_eq_true (congrArg some h3), Bool.true_and]
                    repeat walk_at "dn"
                    rw [cutD_map, show cutL (w :: r) (some 1) (some (-2)) = _ from cutL_midneg (w :: r) 1 2 (by decide) (by omega), cutD_map, show cutL (w :: r) (some (-1)) none = _ from cutL_fneg (w :: r) 1 (by decide)]
                    refine oj_add_lst (by simp; simp at hl; unfold sizeLine; omega) ?_
                    repeat walk_at "dn"
                    rw [← List.map_append]
                    have hzz : AscWs (List.take ((w :: r).length - 2 - 1) (List.drop 1 (w :: r)) ++ List.drop ((w :: r).length - 1) (w :: r)) := ⟨by simp; simp at hl; omega, fun w' hw => by
                      rcases List.mem_append.mp hw with q | q
                      · exact ((hws.drop 1).take _).2 w' q
                      · exact (hws.drop _).2 w' q⟩
                    refine ⟨_, rfl, hzz, ?_⟩
                    rw [show (w :: r).length - 2 - 1 = (w :: r).length - 3 by omega]
                    rfl
                  · intro h3
                    rw [decide_eq_false (fun z => h3 (Option.some.inj z)), Bool.false_and]
                    rfl
                · intro hl
                  rw [decide_eq_false hl, Bool.false_and]
              · intro hm
                rw [decide_eq_false hm, Bool.false_and]
                rfl
            · rintro ρ' rfl
              repeat walk_at "dn"
              refine xs_set ?_
              repeat walk_at "dn"
              refine xs_set ?_
              repeat walk_at "dn"
              exact fin (j_pair h1 h2)
          · intro h2
            repeat walk_at "dn"
            refine oj_ixL ix0 ?_
            repeat walk_at "dn"
            · intro h3
              repeat walk_at "dn"
              refine xs_set ?_
              have go : ∀ g : Bool, g = (decide (st = 1) && (firstR (w :: r)).isSome) → ∃ (b : Bool) (m2 st2 : Int), wS s R m st i (w :: r) g = wS s R m2 st2 i (w :: r) b ∧ (b = true → judge1 m st (w :: r) = (true, m2, st2)) ∧ (b = false → (judge1 m st (w :: r)).1 = false) := fun g hg => fin (by rw [hg]; exact j_first h1 h2 h3)
              rw [firstR_some] at go
              repeat walk_at "dn"
              · intro hst
                rw [decide_eq_true hst, Bool.true_and] at go
                repeat walk_at "dn"
                · intro hl
                  rw [decide_eq_true (show 3 < (w :: r).length by rw [ln] at hl; omega), Bool.true_and] at go
                  repeat walk_at "dn"
                  rw [cut13]
                  refine ⟨_, rfl, (hws.drop 1).take 2, ?_⟩
                  repeat walk_at "dn"
                  refine br_b (fun h => ?_) fun h => ?_
                  · rw [h, Bool.true_and] at go
                    repeat walk_at "dn"
                    rw [cut3]
                    refine ⟨_, rfl, hws.drop 3, ?_⟩
                    exact go _ rfl
                  · rw [h, Bool.false_and] at go
                    exact go _ rfl
                · intro hl
                  rw [decide_eq_false (show ¬ 3 < (w :: r).length by rw [ln] at hl; omega), Bool.false_and] at go
                  exact go _ rfl
              · intro hst
                rw [decide_eq_false hst, Bool.false_and] at go
                exact go _ rfl
            · intro h3
              repeat walk_at "dn"
              refine oj_ixL ix0 ?_
              repeat walk_at "dn"
              · intro h4
                repeat walk_at "dn"
                refine xs_cut (fun ρ' => ρ' = wS s R m st i (w :: r) (decide (0 < st) && (secondR (w :: r)).isSome)) (xs_set ?_) ?_
                · rw [secondR_some]
                  repeat walk_at "dn"
                  · intro hst
                    rw [decide_eq_true hst, Bool.true_and]
                    repeat walk_at "dn"
                    · intro hl
                      obtain ⟨a, b, r', rfl⟩ : ∃ a b r', r = a :: b :: r' := by
                        match r, hl with
                        | a :: b :: r', _ => exact ⟨a, b, r', rfl⟩
                        | [_], hl => simp at hl
                        | [], hl => simp at hl
                      rw [decide_eq_true (show 2 < (w :: a :: b :: r').length by simp), Bool.true_and]
                      repeat walk_at "dn"
                      refine oj_ixL (d := .str a) (atI_nat (j := 1) rfl) ?_
                      repeat walk_at "dn"
                      refine ⟨a, rfl, (hws.2 a (by simp)).1, (hws.2 a (by simp)).2, ?_⟩
                      have e : (nums (((w :: a :: b :: r').drop 1).take 1)).isSome = (numW a).isSome := by
                        show (nums [a]).isSome = _
                        rw [nums_cons]
                        cases numW a <;> rfl
                      rw [e]
                      repeat walk_at "dn"
                      refine br_b (fun h => ?_) fun h => ?_
                      · rw [h, Bool.true_and]
                        repeat walk_at "dn"
                        rw [cut2]
                        refine ⟨_, rfl, hws.drop 2, ?_⟩
                        rfl
                      · rw [h, Bool.false_and]
                    · intro hl
                      rw [decide_eq_false (show ¬ 2 < (w :: r).length by rw [ln] at hl; omega), Bool.false_and]
                      rfl
                  · intro hst
                    rw [decide_eq_false hst, Bool.false_and]
                    rfl
                · rintro ρ' rfl
                  repeat walk_at "dn"
                  refine xs_set ?_
                  repeat walk_at "dn"
                  exact fin (j_second h1 h2 h3 h4)
              · intro h4
                repeat walk_at "dn"
                exact fin (j_none h1 h2 h3 h4)
      · rintro ρ' ⟨b, m', st', rfl, h1, h2⟩
        repeat walk_at "dn"
        refine et_truB ?_
        repeat walk_at "dn"
        cases b with
        | true =>
          repeat walk_at "dn"
          refine ⟨_, _, _, _, _, rfl, ?_⟩
          rw [hj]
          show (if (judge1 m st (w :: r)).1 = true then _ else _) = _
          rw [h1 rfl]
          rfl
        | false =>
          repeat walk_at "dn"
          have e : judge m st ((w :: r) :: (R.map fun r => Txt.split r sp).drop (i + 1)) = some ((w :: r) :: (R.map fun r => Txt.split r sp).drop (i + 1)) := by
            show (if (judge1 m st (w :: r)).1 = true then _ else _) = _
            rw [h2 rfl]
            rfl
          rw [hj, e, show place R.length (some ((w :: r) :: (R.map fun r => Txt.split r sp).drop (i + 1))) = (i : Int) + 1 by
            show (R.length : Int) - (((w :: r) :: (R.map fun r => Txt.split r sp).drop (i + 1)).length : Int) + 1 = _
            rw [List.length_cons, List.length_drop, List.length_map]
            omega] at hq
          exact hq
    · rintro ρ' ⟨m, st, x4, x5, x6, rfl, hj⟩
      rw [rangeD_len, Int.toNat_natCast, List.drop_eq_nil_of_le (by rw [List.length_map]; exact Nat.le_refl _)] at hj
      repeat walk_at "dn"
      · intro h1
        repeat walk_at "dn"
        rw [hj] at hq
        unfold judge at hq
        rw [if_pos h1, show place R.length (some []) = (R.length : Int) + 1 by show (R.length : Int) - ((0 : Nat) : Int) + 1 = _; omega] at hq
        rw [List.length_map]
        exact hq
      · intro h1
        repeat walk_at "dn"
        rw [hj] at hq
        unfold judge at hq
        rw [if_neg h1] at hq
        exact hq
/-! ### the readings of the methods, and their derivations -/
section
variable {P : Program} {w : World} {K : PySem.W.Frag} {mg : Str → Option Value} {base : Heap}
/-- what the top says of the error BadPaper, at C, whose __init__ stands at fB -/
structure Err (K : PySem.W.Frag) (mg : Str → Option Value) (C fB : Addr) : Prop where
  gC : mg "BadPaper" = some (.ref C)
  ox : OexC K C
  iC : PySem.W.findIn K (.ref C) "__init__" = some (some (.ref fB))
  tI : PySem.W.typeIn K (.ref fB) = some (.type "function")
  nr : PySem.W.findIn K (.ref C) "row" = some none
  fi : ∃ fd, FunD K "__init__" "BadLine.__init__" (defArgs s_BadLine___init__) (defBody s_BadLine___init__) (defScope s_BadLine___init__) [] [] fB fd
theorem sc_ini : FnScope ["self", "row"] ["self", "row"] (defScope s_BadLine___init__) := ⟨rfl, rfl, rfl, by decide +kernel, rfl, by decide +kernel, by decide +kernel⟩
theorem ok_ini {C fB : Addr} {fd : FuncData} (T : Err K mg C fB) (F : FunD K "__init__" "BadLine.__init__" (defArgs s_BadLine___init__) (defBody s_BadLine___init__) (defScope s_BadLine___init__) [] [] fB fd) : FnOk P w K mg base CX0 1 fB fd ["self", "row"] (spIni C) := by
  refine F.ok sc_ini (fun vs H Q E h => ?_) (fun cdv A outer s H vs Q E hr h => ⟨tOst K "row" (tVar 0) (tVar 1), ?_, ?_⟩)
  · obtain ⟨a, r, rfl, _⟩ := h
    rfl
  · exact pss_one (ps_ost (pv 0) (pv 1) rfl)
  · obtain ⟨a, r, rfl, ea, q⟩ := h
    exact ⟨_, rfl, _, rfl, a, C, rfl, T.ox, T.nr, .inl ⟨ea, fun dx n ne => q dx n ne⟩⟩
theorem bd_ini {C fB : Addr} {fd : FuncData} (F : FunD K "__init__" "BadLine.__init__" (defArgs s_BadLine___init__) (defBody s_BadLine___init__) (defScope s_BadLine___init__) [] [] fB fd) : L2.Binds K fd ["self", "row"] [] :=
  F.bindsN fun _ _ _ _ _ _ us hl => match us, hl with | [_, _], _ => rfl
/-- raise BadPaper(e) -/
theorem ps_raiseR {X : Cx} {C fB : Addr} {e : Expr} {te : TE} {E : XK} {p pos pos2 : Pos} (hc : X.calm = true) (eK : X.K = K) (emg : X.mg = mg) (T : Err K mg C fB) (hr : Room 2 X.A) (tk : Takes X (fun cls d _ H => E cls d H)) (he : PE X e te) (hg : Gl X "BadPaper" := by rfl)
    (hs : starEach (e :: []) X.env = (false, eval e X.env) :: starEach [] X.env := by rfl) (hpl : (backTo pos (starEach [] X.env)).any (·.1) = false := by rfl) :
    PS X (.Raise (some (.Call (.Name "BadPaper" p) [e] [] pos)) none pos2) (tRaiseR C E te) := by
  subst eK emg
  obtain ⟨fd, F⟩ := T.fi
  exact ps_raise hc tk (pmk_oex T.ox T.iC T.tI (ok_ini (P := X.prog) (w := X.w) (base := X.base) T F) hr (bd_ini (C := C) F) .nil pass0 hg T.gC (pa_cons (hs := hs) he pa_nil) (he := hs) (hpl := hpl))
/-- what the top says of the class RowReader, at R -/
structure Rdr (K : PySem.W.Frag) (mg : Str → Option Value) (R : Addr) : Prop where
  gR : mg "RowReader" = some (.ref R)
  cl : Cls K R
  n_rows : NoAttr K R "rows"
  n_at : NoAttr K R "at"
  i_ : ∃ f fd, Mk K R f ∧ FunD K "__init__" "RowReader.__init__" (defArgs s_RowReader___init__) (defBody s_RowReader___init__) (defScope s_RowReader___init__) [] [] f fd
  m_next : ∃ f fd, Meth K R "next_read" f ∧ FunD K "next_read" "RowReader.next_read" (defArgs s_RowReader_next_read) (defBody s_RowReader_next_read) (defScope s_RowReader_next_read) [] [] f fd
  m_all : ∃ f fd, Meth K R "all_told" f ∧ FunD K "all_told" "RowReader.all_told" (defArgs s_RowReader_all_told) (defBody s_RowReader_all_told) (defScope s_RowReader_all_told) [] [] f fd
  m_pair : ∃ f fd, Meth K R "read_pair" f ∧ FunD K "read_pair" "RowReader.read_pair" (defArgs s_RowReader_read_pair) (defBody s_RowReader_read_pair) (defScope s_RowReader_read_pair) [] [] f fd
  m_unit : ∃ f fd, Meth K R "read_unit" f ∧ FunD K "read_unit" "RowReader.read_unit" (defArgs s_RowReader_read_unit) (defBody s_RowReader_read_unit) (defScope s_RowReader_read_unit) [] [] f fd
/-- a method that may let an error out keeps its promise -/
structure MetX (P : Program) (w : World) (K : PySem.W.Frag) (mg : Str → Option Value) (base : Heap) (k : Nat) (R : Addr) (m : Str) (sp : Sp) : Prop where
  ex : ∃ (f : Addr) (fd : FuncData) (ps : List Str), Meth K R m f ∧ FnOk P w K mg base (L2.CX P w) k f fd ps sp ∧ L2.Binds K fd ps []
theorem pe_mx {X : Cx} {k : Nat} {R : Addr} {sp : Sp} {E : XK} {m : Str} {pos apos : Pos} {e o : Expr} {es : List Expr} {ta : TE} {t : TA} {pl : Sem Bool} (M : MetX X.prog X.w X.K X.mg X.base k R m sp) (c : Cls X.K R) (hr : Room k X.A) (tk : Takes X (fun cls d _ H => E cls d H)) (he : PE X o ta) (ha : PA X (e :: es) t)
    (hst : starEach (e :: es) X.env = (false, eval e X.env) :: starEach es X.env := by rfl) (hpl : (backTo pos (starEach es X.env)).any (·.1) = false := by rfl)
    (ht : eval (.Call (.Attribute o m apos) (e :: es) [] pos) X.env = (do
      let ov ← eval o X.env
      standAt apos.atName
      let (f, first) ← holding [ov] (getMethod ov m pl)
      callWith pos f first (backTo pos (starEach (e :: es) X.env)) (backToKw pos (keywordEach [] X.env))) := by rfl) :
    PE X (.Call (.Attribute o m apos) (e :: es) [] pos) (tMeth R m sp [] E ta t) := by
  obtain ⟨f, fd, ps, hm, F, b⟩ := M.ex
  exact pe_meth he c hm F hr b .nil (passes_call tk fun _ _ _ _ h => h) ha hst hpl ht
theorem pe_mx0 {X : Cx} {k : Nat} {R : Addr} {sp : Sp} {E : XK} {m : Str} {pos apos : Pos} {o : Expr} {ta : TE} {pl : Sem Bool} (M : MetX X.prog X.w X.K X.mg X.base k R m sp) (c : Cls X.K R) (hr : Room k X.A) (tk : Takes X (fun cls d _ H => E cls d H)) (he : PE X o ta)
    (ht : eval (.Call (.Attribute o m apos) [] [] pos) X.env = (do
      let ov ← eval o X.env
      standAt apos.atName
      let (f, first) ← holding [ov] (getMethod ov m pl)
      callWith pos f first (backTo pos (starEach [] X.env)) (backToKw pos (keywordEach [] X.env))) := by rfl) :
    PE X (.Call (.Attribute o m apos) [] [] pos) (tMeth R m sp [] E ta tNil) := by
  obtain ⟨f, fd, ps, hm, F, b⟩ := M.ex
  exact pe_meth0 he c hm F hr b .nil (passes_call tk fun _ _ _ _ h => h) ht
/-! __init__ -/
theorem sc_rinit : FnScope ["self", "rows"] ["self", "rows"] (defScope s_RowReader___init__) := ⟨rfl, rfl, rfl, by decide +kernel, rfl, by decide +kernel, by decide +kernel⟩
def t_rinit (K : PySem.W.Frag) : TS := tSeq (sFld K (tVar 0) (tVar 1) "rows") (sFld K (tVar 0) (tC (.int 0)) "at")
theorem d_rinit (f : Addr) (cdv : Value) (A : Around) (outer : List Env) (s : Shared) (H : Hp) (E : XK) : PSs (cxOf CX0 P w K mg base ["self", "rows"] "RowReader.__init__" (defScope s_RowReader___init__) f cdv A outer s H E).nox (defBody s_RowReader___init__) (t_rinit K) :=
  pss_cons (ps_fld (pv 0) (pv 1) rfl) (pss_one (ps_fld (pv 0) pe_int rfl))
/-! next_read -/
theorem sc_next : FnScope ["self", "read", "found"] ["self", "read"] (defScope s_RowReader_next_read) := ⟨rfl, rfl, rfl, by decide +kernel, rfl, by decide +kernel, by decide +kernel⟩
def t_next (K : PySem.W.Frag) (C f : Addr) (sp : Sp) (E : XK) : TS :=
  tSeq (tIfS (tTest (tOp (rEqU K) (tFld K (tVar 0) "at") (tCB (cLenU K) (tCons (tFld K (tVar 0) "rows") tNil)))) (tRaiseR C E (tOp (rAddU K) (tFld K (tVar 0) "at") (tC (.int 1)))) tNext)
  (tSeq (tAsg (tCallL 1 f sp [] E0 (tCons (tM1 rSplit (tOp (rIx K) (tFld K (tVar 0) "rows") (tFld K (tVar 0) "at")) (tC (.str " "))) tNil)) (gName 2))
  (tSeq (tIfS (tTest (tOp rIsU (tVar 2) (tC .non))) (tRaiseR C E (tOp (rAddU K) (tFld K (tVar 0) "at") (tC (.int 1)))) tNext)
  (tSeq (sFldAug K (tVar 0) (tC (.int 1)) L2.rAdd "at") (tRet (tVar 2)))))
theorem d_next (X0 : Ctx K w mg) {C fB g : Addr} {sp : Sp} (T : Err K mg C fB) (G : C8.CalAt P w K mg base 5 g sp) (f : Addr) (cdv : Value) (A : Around) (outer : List Env) (s : Shared) (H : Hp) (E : XK) (hr : Room 5 (A.deeper (envOfC "RowReader.next_read" (defScope s_RowReader_next_read) s.heap.objs.size f cdv))) :
    PSs (cxOf (L2.CX P w) P w K mg base ["self", "read", "found"] "RowReader.next_read" (defScope s_RowReader_next_read) f cdv A outer s H E) (defBody s_RowReader_next_read) (t_next K C g sp E) := by
  have hu : (A.deeper (envOfC "RowReader.next_read" (defScope s_RowReader_next_read) s.heap.objs.size f cdv)).units + 64 < cLine := hr.units
  obtain ⟨fd, ps, F, kp, b⟩ := G.ex
  exact pss_cons (ps_if (pt_cmpR (op_eqU hu) (pe_fld (pv 0) rfl) (pe_callB call_lenU (by rfl) X0.b_len PySem.boot_len (pa_cons (pe_fld (pv 0) rfl) (pa_nil))) (nomark _)) (pss_one (ps_raiseR rfl rfl rfl T (hr.mono (by decide)) (takes_of rfl rfl rfl rfl) (by exact (pe_op op_addU (pe_fld (pv 0) rfl) pe_int)))) pss_nil)
    (pss_cons (ps_set (i := 2) sc_next.nd rfl (Or.inl rfl) (pe_callL (i := 1) F hr rfl (Or.inl rfl) kp b .nil pass0 (pa_cons (pe_m1 PySem.F.slot_str_split PySem.F.type_str_split mt_split (pe_ix ix_seq (pe_fld (pv 0) rfl) (pe_fld (pv 0) rfl) (fun _ _ => rfl)) pe_str) pa_nil)))
    (pss_cons (ps_if (pt_cmpR op_isU (pv 2) pe_non (by rfl)) (pss_one (ps_raiseR rfl rfl rfl T (hr.mono (by decide)) (takes_of rfl rfl rfl rfl) (by exact (pe_op op_addU (pe_fld (pv 0) rfl) pe_int)))) pss_nil)
    (pss_cons (ps_fldaug (pv 0) pe_int in_add) (pss_one (ps_ret (pv 2))))))
/-! all_told -/
theorem sc_all : FnScope ["self", "word", "read", "found"] ["self", "word", "read"] (defScope s_RowReader_all_told) := ⟨rfl, rfl, rfl, by decide +kernel, rfl, by decide +kernel, by decide +kernel⟩
def t_all (K : PySem.W.Frag) (R : Addr) (sp : Sp) (E : XK) : TS :=
  tSeq (tAsg (tLst tNil) (gName 3))
  (tSeq (tWhile (tAnd (tTest (tOp rLtU (tFld K (tVar 0) "at") (tCB (cLenU K) (tCons (tFld K (tVar 0) "rows") tNil)))) (tTest (tOp (rEqU K) (tOp (rIx K) (tM1 rSplit (tOp (rIx K) (tFld K (tVar 0) "rows") (tFld K (tVar 0) "at")) (tC (.str " "))) (tC (.int 0))) (tVar 1))))
    (tDrop (tBM K "list" rAppend (tVar 3) (tCons (tMeth R "next_read" sp [] E (tVar 0) (tCons (tVar 2) tNil)) tNil))))
  (tRet (tCB (cTupU K) (tCons (tVar 3) tNil))))
theorem d_all (X0 : Ctx K w mg) {R : Addr} {sp : Sp} (T : Rdr K mg R) (M : MetX P w K mg base 6 R "next_read" sp) (f : Addr) (cdv : Value) (A : Around) (outer : List Env) (s : Shared) (H : Hp) (E : XK) (hr : Room 6 (A.deeper (envOfC "RowReader.all_told" (defScope s_RowReader_all_told) s.heap.objs.size f cdv))) :
    PSs (cxOf (L2.CX P w) P w K mg base ["self", "word", "read", "found"] "RowReader.all_told" (defScope s_RowReader_all_told) f cdv A outer s H E) (defBody s_RowReader_all_told) (t_all K R sp E) := by
  have hu : (A.deeper (envOfC "RowReader.all_told" (defScope s_RowReader_all_told) s.heap.objs.size f cdv)).units + 64 < cLine := hr.units
  exact pss_cons (ps_set (i := 3) sc_all.nd rfl (Or.inl rfl) (pe_lst pa_nil))
    (pss_cons (ps_while (passes_of rfl) ((pw_and (pt_cmpR op_ltU (pe_fld (pv 0) rfl) (pe_callB call_lenU (by rfl) X0.b_len PySem.boot_len (pa_cons (pe_fld (pv 0) rfl) (pa_nil))) (nomark _)) (pw_and1 (pt_cmpR (op_eqU hu) (pe_ix ix_seq (pe_m1 PySem.F.slot_str_split PySem.F.type_str_split mt_split (pe_ix ix_seq (pe_fld (pv 0) rfl) (pe_fld (pv 0) rfl) (fun _ _ => rfl)) pe_str) pe_int (fun _ _ => rfl)) (pv 1) (nomark _)))).pt)
      (pss_one (ps_expr (pe_bm PySem.F.plainAttrs_list PySem.F.slot_list_append PySem.F.type_list_append mt_append (pv 3) (pa_cons (pe_mx M T.cl hr (takes_of rfl rfl rfl rfl) (pv 0) (by exact (pa_cons (pv 2) pa_nil))) pa_nil)))))
    (pss_one (ps_ret (pe_callTy call_tupU (by rfl) X0.b_tuple PyProof.Rows.boot_tuple (pa_cons (pv 3) (pa_nil))))))
/-! read_pair -/
/-- a def handed on, by its name -/
def Nm (P : Program) (w : World) (K : PySem.W.Frag) (mg : Str → Option Value) (base : Heap) (x : Str) (f : Addr) (sp : Sp) : Prop := mg x = some (.ref f) ∧ C8.CalAt P w K mg base 5 f sp
theorem nm_of {k : Nat} {x : Str} {sp : Sp} (hk : k ≤ 5) (c : C8.Cal P w K mg base k x sp []) : ∃ f, Nm P w K mg base x f sp := by
  obtain ⟨f, fd, ps, ds, F, m, kp, b, v⟩ := c.ex
  cases v
  exact ⟨f, m, ⟨fd, ps, F.mono hk, kp, b⟩⟩
theorem sc_rpair : FnScope ["self", "stack", "place", "firsts"] ["self"] (defScope s_RowReader_read_pair) := ⟨rfl, rfl, rfl, by decide +kernel, rfl, by decide +kernel, by decide +kernel⟩
def t_rpair (K : PySem.W.Frag) (R f1 f2 f3 : Addr) (sp1 sp2 sp3 : Sp) (E : XK) : TS :=
  tSeq (tAsg (tMeth R "next_read" sp1 [] E (tVar 0) (tCons (tC (.ref f1)) tNil)) (gTup K 2 (gCons (gName 1) (gCons (gName 2) gNil))))
  (tSeq (tAsg (tMeth R "all_told" sp2 [] E (tVar 0) (tCons (tC (.str "first")) (tCons (tC (.ref f2)) tNil))) (gName 3))
  (tRet (tTup (tCons (tVar 1) (tCons (tVar 2) (tCons (tVar 3) (tCons (tMeth R "all_told" sp3 [] E (tVar 0) (tCons (tC (.str "second")) (tCons (tC (.ref f3)) tNil))) tNil)))))))
theorem d_rpair {R f1 f2 f3 : Addr} {p1 p2 p3 sp1 sp2 sp3 : Sp} (T : Rdr K mg R) (n1 : Nm P w K mg base "read_pair_row" f1 p1) (n2 : Nm P w K mg base "read_first_row" f2 p2) (n3 : Nm P w K mg base "read_second_row" f3 p3)
    (M1 : MetX P w K mg base 6 R "next_read" sp1) (M2 : MetX P w K mg base 7 R "all_told" sp2) (M3 : MetX P w K mg base 7 R "all_told" sp3) (f : Addr) (cdv : Value) (A : Around) (outer : List Env) (s : Shared) (H : Hp) (E : XK) (hr : Room 7 (A.deeper (envOfC "RowReader.read_pair" (defScope s_RowReader_read_pair) s.heap.objs.size f cdv))) :
    PSs (cxOf (L2.CX P w) P w K mg base ["self", "stack", "place", "firsts"] "RowReader.read_pair" (defScope s_RowReader_read_pair) f cdv A outer s H E) (defBody s_RowReader_read_pair) (t_rpair K R f1 f2 f3 sp1 sp2 sp3 E) := by
  exact pss_cons (ps_asg (pe_mx M1 T.cl (hr.mono (by decide)) (takes_of rfl rfl rfl rfl) (pv 0) (by exact (pa_cons (C8.pe_gc (by rfl) ⟨_, n1.1, rfl⟩) pa_nil))) (pg_tup rfl (pgs_cons (pg_name (i := 1) sc_rpair.nd rfl (Or.inl rfl)) (pgs_cons (pg_name (i := 2) sc_rpair.nd rfl (Or.inl rfl)) pgs_nil))))
    (pss_cons (ps_set (i := 3) sc_rpair.nd rfl (Or.inl rfl) (pe_mx M2 T.cl hr (takes_of rfl rfl rfl rfl) (pv 0) (by exact (pa_cons pe_str (pa_cons (C8.pe_gc (by rfl) ⟨_, n2.1, rfl⟩) pa_nil)))))
    (pss_one (ps_ret (pe_tup (pa_cons (pv 1) (pa_cons (pv 2) (pa_cons (pv 3) (pa_cons (pe_mx M3 T.cl hr (takes_of rfl rfl rfl rfl) (pv 0) (by exact (pa_cons pe_str (pa_cons (C8.pe_gc (by rfl) ⟨_, n3.1, rfl⟩) pa_nil)))) pa_nil))))))))
/-! read_unit -/
theorem sc_runit : FnScope ["self", "count", "goes", "pairs", "_"] ["self"] (defScope s_RowReader_read_unit) := ⟨rfl, rfl, rfl, by decide +kernel, rfl, by decide +kernel, by decide +kernel⟩
def t_runit (K : PySem.W.Frag) (R f1 : Addr) (sp1 sp2 : Sp) (E : XK) : TS :=
  tSeq (tAsg (tMeth R "next_read" sp1 [] E (tVar 0) (tCons (tC (.ref f1)) tNil)) (gTup K 2 (gCons (gName 1) (gCons (gName 2) gNil))))
  (tSeq (tAsg (tLst tNil) (gName 3))
  (tSeq (tFor (iRng1 (tCons (tVar 1) tNil)) (gName 4) (tDrop (tBM K "list" rAppend (tVar 3) (tCons (tMeth R "read_pair" sp2 [] E (tVar 0) tNil) tNil))))
  (tRet (tTup (tCons (tVar 2) (tCons (tCB (cTupU K) (tCons (tVar 3) tNil)) tNil))))))
theorem d_runit (X0 : Ctx K w mg) {R f1 : Addr} {p1 sp1 sp2 : Sp} (T : Rdr K mg R) (n1 : Nm P w K mg base "read_unit_row" f1 p1) (M1 : MetX P w K mg base 6 R "next_read" sp1) (M2 : MetX P w K mg base 8 R "read_pair" sp2)
    (f : Addr) (cdv : Value) (A : Around) (outer : List Env) (s : Shared) (H : Hp) (E : XK) (hr : Room 8 (A.deeper (envOfC "RowReader.read_unit" (defScope s_RowReader_read_unit) s.heap.objs.size f cdv))) :
    PSs (cxOf (L2.CX P w) P w K mg base ["self", "count", "goes", "pairs", "_"] "RowReader.read_unit" (defScope s_RowReader_read_unit) f cdv A outer s H E) (defBody s_RowReader_read_unit) (t_runit K R f1 sp1 sp2 E) := by
  exact pss_cons (ps_asg (pe_mx M1 T.cl (hr.mono (by decide)) (takes_of rfl rfl rfl rfl) (pv 0) (by exact (pa_cons (C8.pe_gc (by rfl) ⟨_, n1.1, rfl⟩) pa_nil))) (pg_tup rfl (pgs_cons (pg_name (i := 1) sc_runit.nd rfl (Or.inl rfl)) (pgs_cons (pg_name (i := 2) sc_runit.nd rfl (Or.inl rfl)) pgs_nil))))
    (pss_cons (ps_set (i := 3) sc_runit.nd rfl (Or.inl rfl) (pe_lst pa_nil))
    (pss_cons (ps_for (passes_of rfl) rfl (pi_range1 (by rfl) X0.b_range (pa_cons (pv 1) pa_nil)) (pg_name (i := 4) sc_runit.nd rfl (Or.inl rfl)) (pss_one (ps_expr (pe_bm PySem.F.plainAttrs_list PySem.F.slot_list_append PySem.F.type_list_append mt_append (pv 3) (pa_cons (pe_mx0 M2 T.cl hr (takes_of rfl rfl rfl rfl) (pv 0)) pa_nil)))))
    (pss_one (ps_ret (pe_tup (pa_cons (pv 2) (pa_cons (pe_callTy call_tupU (by rfl) X0.b_tuple PyProof.Rows.boot_tuple (pa_cons (pv 3) (pa_nil))) pa_nil)))))))
/-! read_likeness -/
theorem sc_like : FnScope ["text", "reader", "parts"] ["text"] (defScope s_read_likeness) := ⟨rfl, rfl, rfl, by decide +kernel, rfl, by decide +kernel, by decide +kernel⟩
def t_like (K : PySem.W.Frag) (R : Addr) (sp0 sp1 : Sp) (E : XK) : TS :=
  tSeq (tIfS (tTest (tOp (rEqU K) (tVar 0) (tC (.str "")))) (tRet (tTup tNil)) tNext)
  (tSeq (tAsg (tMake R sp0 [] E0 (tCons (tM1 rSplit (tVar 0) (tC (.str "\n"))) tNil)) (gName 1))
  (tSeq (tAsg (tLst tNil) (gName 2))
  (tSeq (tWhile (tTest (tOp rLtU (tFld K (tVar 1) "at") (tCB (cLenU K) (tCons (tFld K (tVar 1) "rows") tNil)))) (tDrop (tBM K "list" rAppend (tVar 2) (tCons (tMeth R "read_unit" sp1 [] E (tVar 1) tNil) tNil))))
  (tRet (tCB (cTupU K) (tCons (tVar 2) tNil))))))
theorem d_like (X0 : Ctx K w mg) {R fI : Addr} {fdI : FuncData} {sp0 sp1 : Sp} (T : Rdr K mg R) (MI : Mk K R fI) (FI : FnOk P w K mg base CX0 1 fI fdI ["self", "rows"] sp0) (bI : L2.Binds K fdI ["self", "rows"] []) (M1 : MetX P w K mg base 9 R "read_unit" sp1)
    (f : Addr) (cdv : Value) (A : Around) (outer : List Env) (s : Shared) (H : Hp) (E : XK) (hr : Room 9 (A.deeper (envOfC "read_likeness" (defScope s_read_likeness) s.heap.objs.size f cdv))) :
    PSs (cxOf (L2.CX P w) P w K mg base ["text", "reader", "parts"] "read_likeness" (defScope s_read_likeness) f cdv A outer s H E) (defBody s_read_likeness) (t_like K R sp0 sp1 E) := by
  have hu : (A.deeper (envOfC "read_likeness" (defScope s_read_likeness) s.heap.objs.size f cdv)).units + 64 < cLine := hr.units
  exact pss_cons (ps_if (pt_cmpR (op_eqU hu) (pv 0) pe_str (nomark _)) (pss_one (ps_ret (pe_tup pa_nil))) pss_nil)
    (pss_cons (ps_set (i := 1) sc_like.nd rfl (Or.inl rfl) (pe_make MI FI (hr.mono (by decide)) (by rfl) T.gR bI .nil pass0 (by exact (pa_cons (pe_m1 PySem.F.slot_str_split PySem.F.type_str_split mt_split (pv 0) pe_str) pa_nil))))
    (pss_cons (ps_set (i := 2) sc_like.nd rfl (Or.inl rfl) (pe_lst pa_nil))
    (pss_cons (ps_while (passes_of rfl) (pt_cmpR op_ltU (pe_fld (pv 1) rfl) (pe_callB call_lenU (by rfl) X0.b_len PySem.boot_len (pa_cons (pe_fld (pv 1) rfl) (pa_nil))) (nomark _)) (pss_one (ps_expr (pe_bm PySem.F.plainAttrs_list PySem.F.slot_list_append PySem.F.type_list_append mt_append (pv 2) (pa_cons (pe_mx0 M1 T.cl hr (takes_of rfl rfl rfl rfl) (pv 1)) pa_nil)))))
    (pss_one (ps_ret (pe_callTy call_tupU (by rfl) X0.b_tuple PyProof.Rows.boot_tuple (pa_cons (pv 2) (pa_nil))))))))
/-! _law_row_told -/
/-- what the top says of the classes that the handler asks for -/
structure Hnd (K : PySem.W.Frag) (mg : Str → Option Value) (C BT BL : Addr) : Prop where
  te : PySem.W.exmOne K (.ref C) (.ref C) = some true
  ex : ExcC K C
  gT : mg "BadText" = some (.ref BT)
  gL : mg "BadLine" = some (.ref BL)
  kT : PySem.W.kitOne K (.ref C) (.ref BT) = some false
  kL : PySem.W.kitOne K (.ref C) (.ref BL) = some true
  xf : XfC K C
/-- a def that may let an error out, by its name -/
structure CalX (P : Program) (w : World) (K : PySem.W.Frag) (mg : Str → Option Value) (base : Heap) (k : Nat) (x : Str) (sp : Sp) : Prop where
  ex : ∃ (f : Addr) (fd : FuncData) (ps : List Str), FnOk P w K mg base (L2.CX P w) k f fd ps sp ∧ mg x = some (.ref f) ∧ PySem.W.keepIn K (.ref f) = true ∧ L2.Binds K fd ps []
def rIsG (K : PySem.W.Frag) (C a : Addr) (cls : Value) (d : Option Addr) : List V → Hp → VK → Prop := fun xs H Q => cls = .ref C ∧ ∃ dd, d = some dd ∧ rIsD K C a dd xs H Q
theorem call_isG {X : Cx} {a C : Addr} {oe : Obj} {cls : Value} {d : Option Addr} {pn : List (Addr × Obj)} (T : ExcC X.K C) (hz : Zc cls d oe) (hf : ∃ vs, oe.data = .fields vs) : CallR (X.suite a ((a, oe) :: pn)) (.builtin "isinstance") (rIsG X.K C a cls d) := by
  intro pins s σ H xs us Q I r ⟨e1, dd, e2, h⟩
  subst e1 e2
  exact call_isD T hz hf pins s σ H xs us Q I r h
theorem sc_rtold : FnScope ["text", "e"] ["text"] (defScope s__law_row_told) := ⟨rfl, rfl, rfl, by decide +kernel, rfl, by decide +kernel, by decide +kernel⟩
def t_rsuite (K : PySem.W.Frag) (C BT BL : Addr) : Addr → Value → Option Addr → TS := fun a cls d =>
  tSeq (tIfS (tOr (tB (tCB (rIsG K C a cls d) (tCons (tVar 1) (tCons (tC (.ref BT)) tNil)))) (tNot (tB (tCB (rIsG K C a cls d) (tCons (tVar 1) (tCons (tC (.ref BL)) tNil)))))) (tRet (tTup (tCons (tUn (rU fun i => .int (-i)) (tC (.int 1))) (tCons (tC .non) tNil)))) tNext)
  (tRet (tTup (tCons (tXf a cls d C "row" (tVar 1)) (tCons (tC .non) tNil))))
def t_rtold (K : PySem.W.Frag) (C BT BL : Addr) (sp : Sp) : TS := fun D σ H =>
  tRet (tTup (tCons (tC (.int 0)) (tCons (tCallS sp (WE (wAs K (.ref C) 1 (t_rsuite K C BT BL) (fun _ _ _ _ => False) D)) (tCons (tVar 0) tNil)) tNil))) D σ H
theorem d_rtold (X0 : Ctx K w mg) {C fB BT BL : Addr} {sp : Sp} (T : Err K mg C fB) (N : Hnd K mg C BT BL) (c : CalX P w K mg base 10 "read_likeness" sp)
    (f : Addr) (cdv : Value) (A : Around) (outer : List Env) (s : Shared) (H : Hp) (E : XK) (hr : Room 10 (A.deeper (envOfC "_law_row_told" (defScope s__law_row_told) s.heap.objs.size f cdv))) :
    PSs (cxOf CX0 P w K mg base ["text", "e"] "_law_row_told" (defScope s__law_row_told) f cdv A outer s H E).nox (defBody s__law_row_told) (t_rtold K C BT BL sp) := by
  obtain ⟨fl, fd, ps, F, m, kp, b⟩ := c.ex
  exact pss_one (ps_try_as (i := 1) (tb := fun W => tRet (tTup (tCons (tC (.int 0)) (tCons (tCallS sp (WE W) (tCons (tVar 0) tNil)) tNil)))) (ts := t_rsuite K C BT BL) (Wout := fun _ _ _ _ => False) rfl rfl sc_rtold.nd rfl rfl ⟨rfl, by decide, Or.inl T.gC⟩ takes0
    (fun W pn xe tk _ => pss_one (ps_ret (pe_tup (pa_cons pe_int (pa_cons (pe_callS F hr rfl m kp b (fun σ => passAt tk σ) (by exact (pa_cons (pv 0) pa_nil))) pa_nil)))))
    (fun a oe cls d pn hz hf => pss_cons (ps_if ((pw_or (pt_val (pe_callB (call_isG N.ex hz hf) (by rfl) X0.b_isinstance PyProof.Rows.boot_isinstance (by exact (pa_cons (pv 1) (pa_cons (C8.pe_gc (by rfl) ⟨_, N.gT, rfl⟩) pa_nil))))) (pw_or1 (pt_not (pt_val (pe_callB (call_isG N.ex hz hf) (by rfl) X0.b_isinstance PyProof.Rows.boot_isinstance (by exact (pa_cons (pv 1) (pa_cons (C8.pe_gc (by rfl) ⟨_, N.gL, rfl⟩) pa_nil)))))))).pt)
        (pss_one (ps_ret (pe_tup (pa_cons (pe_un un_neg pe_int) (pa_cons pe_non pa_nil))))) pss_nil)
      (pss_one (ps_ret (pe_tup (pa_cons (pe_xf N.xf T.nr hz hf (pv 1)) (pa_cons pe_non pa_nil)))))))
end
/-! ### the reader's promises -/
abbrev Wd (rows : List Str) : List (List Str) := rows.map fun r => Txt.split r sp
abbrev rdr (p R : Addr) (rows : List Str) (at_ : Int) : Sl := .obj p R [("rows", dStrs rows), ("at", .int at_)]
abbrev stR (p R : Addr) (rows : List Str) (r : List (List Str)) : Sl := rdr p R rows ((rows.length : Int) - r.length)
abbrev rowNo (rows : List Str) (e : List (List Str)) : Int := (rows.length : Int) - e.length + 1
abbrev WX3 := List Sl → (D → List Sl → Prop) → (Int → Prop) → Prop
def W_rinit (R : Addr) : WP := fun ρ P => ∃ p rows, ρ = [.obj p R [], .dat (dStrs rows)] ∧ P .non [rdr p R rows 0, .unk]
def outc {α : Type} (rows : List Str) (X : Int → Prop) (P : α → List (List Str) → Prop) : Sum (List (List Str)) (α × List (List Str)) → Prop
  | .inl e => X (rowNo rows e)
  | .inr (a, q) => P a q
def W_next {α : Type} (R f : Addr) (g : List Str → Option α) (h : α → List D) : WX3 := fun ρ P X => ∃ p rows r, ρ = [stR p R rows r, .dat (.raw (.ref f))] ∧ SmWs rows ∧ r <:+ Wd rows ∧ outc rows X (fun a q => P (.tup (h a)) [stR p R rows q, .unk]) (oneRd g r)
def W_all {α : Type} (R f : Addr) (g : List Str → Option α) (h : α → List D) : WX3 := fun ρ P X => ∃ p rows r w, ρ = [stR p R rows r, .dat (.str w), .dat (.raw (.ref f))] ∧ SmWs rows ∧ r <:+ Wd rows ∧ outc rows X (fun as q => P (.tup (as.map fun a => .tup (h a))) [stR p R rows q, .unk, .unk]) (allRd w g r)
def W_rpair (R : Addr) : WX3 := fun ρ P X => ∃ p rows r, ρ = [stR p R rows r] ∧ SmWs rows ∧ r <:+ Wd rows ∧ outc rows X (fun a q => P (dPair a) [stR p R rows q]) (pairRd r)
def W_runit (R : Addr) : WX3 := fun ρ P X => ∃ p rows r, ρ = [stR p R rows r] ∧ SmWs rows ∧ r <:+ Wd rows ∧ outc rows X (fun a q => P (dUnit a) [stR p R rows q]) (unitRd r)
def W_like : WX3 := fun ρ P X => ∃ s, ρ = [.dat (.str s)] ∧ Sm s ∧ match readT s with
  | .inl e => X (place (rowsOf s).length (some e))
  | .inr p => P (dPaper p) [.unk]
theorem lk_rows {a b : D} : List.lookup ("rows" : Str) [(("rows" : Str), a), (("at" : Str), b)] = some a := rfl
theorem lk_at {a b : D} : List.lookup ("at" : Str) [(("rows" : Str), a), (("at" : Str), b)] = some b := rfl
theorem put_at {a b c : D} : putD ("at" : Str) c [(("rows" : Str), a), (("at" : Str), b)] = [(("rows" : Str), a), (("at" : Str), c)] := rfl
/-- a reading def in a slot, called -/
theorem ev_callL {K : PySem.W.Frag} {ρ : List Sl} {ta : TA} {i : Nat} {f : Addr} {P : D → List Sl → Prop} {W : WP} {E : XK} (hi : ρ[i]? = some (.dat (.raw (.ref f)))) (h : EV K (tCall (spW K W) [] E ta) ρ P) : EV K (tCallL i f (spW K W) [] E ta) ρ P := fun B H σ Q e k => by
  obtain ⟨v, q, r⟩ := e.ok i _ hi
  cases r
  exact ⟨e.at q, h B H σ Q e k⟩
theorem suf_at {rows : List Str} {w : List Str} {r : List (List Str)} (h : (w :: r) <:+ Wd rows) : ∃ (i : Nat) (x : Str), (rows.length : Int) - (w :: r).length = i ∧ rows[i]? = some x ∧ Txt.split x sp = w ∧ i < rows.length := by
  have hl := h.length_le
  rw [List.length_map] at hl
  have e := List.suffix_iff_eq_drop.mp h
  rw [List.length_map] at e
  have hlt : rows.length - (w :: r).length < rows.length := by simp at hl ⊢; omega
  refine ⟨rows.length - (w :: r).length, rows[rows.length - (w :: r).length], by omega, List.getElem?_eq_getElem hlt, ?_, hlt⟩
  have e2 : (Wd rows)[rows.length - (w :: r).length]? = some w := by
    rw [List.drop_eq_getElem_cons (by rw [List.length_map]; exact hlt)] at e
    rw [List.getElem?_eq_getElem (by rw [List.length_map]; exact hlt)]
    exact congrArg some (List.cons.inj e).1.symm
  rw [List.getElem?_map, List.getElem?_eq_getElem hlt] at e2
  exact Option.some.inj e2
section
variable {K : PySem.W.Frag} {mg : Str → Option Value} {C R : Addr} {E : XK}
theorem x_rinit (T : Rdr K mg R) (ρ0 : List Sl) (Q : D → List Sl → Prop) (h : W_rinit R ρ0 Q) : XS K (t_rinit K) (ρ0 ++ List.replicate ((["self", "rows"] : List Str).length - ρ0.length) .unk) (bodyPost ρ0 Q) := by
  obtain ⟨p, rows, rfl, hq⟩ := h
  show XS K (t_rinit K) [.obj p R [], .dat (dStrs rows)] _
  unfold t_rinit
  refine xs_seq (xs_fld rfl T.cl T.n_rows (ev_var rfl ⟨_, rfl, by decide, ?_⟩))
  refine xs_fld rfl T.cl T.n_at (ev_int ⟨_, rfl, by simp [putD], ?_⟩)
  refine body_nx (by simp [kept, Sl.ad]) ?_
  exact hq
theorem x_next {α : Type} {f : Addr} {g : List Str → Option α} {h : α → List D} {W : WP} (T : Rdr K mg R) (hW : ∀ (ws : List Str) (P : D → List Sl → Prop), ws ≠ [] → SmWs ws → P (dOpt (fun a => .tup (h a)) (g ws)) [.unk] → W [.dat (dStrs ws)] P) (ρ0 : List Sl) (Q : D → List Sl → Prop) (X : Int → Prop) (hh : W_next R f g h ρ0 Q X) :
    XSG K C E X (t_next K C f (spW K W) E) (ρ0 ++ List.replicate ((["self", "read", "found"] : List Str).length - ρ0.length) .unk) (bodyPost ρ0 Q) := by
  obtain ⟨p, rows, r, rfl, hz, hs, ho⟩ := hh
  show XSG K C E X (t_next K C f (spW K W) E) [stR p R rows r, .dat (.raw (.ref f)), .unk] _
  unfold t_next
  refine xsg_seq (xsg_if ?_)
  repeat walk_at "dn"
  refine ev_fld rfl T.cl T.n_at lk_at ?_
  repeat walk_at "dn"
  refine ev_fld rfl T.cl T.n_rows lk_rows ?_
  repeat walk_at "dn"
  · intro h1
    have hr : r = [] := by
      rw [List.length_map] at h1
      exact List.length_eq_zero_iff.mp (by omega)
    subst hr
    refine xsg_raise ?_
    repeat walk_at "dn"
    refine ev_fld rfl T.cl T.n_at lk_at ?_
    repeat walk_at "dn"
    exact ho
  · intro h1
    cases r with
    | nil => exact (h1 (by simp)).elim
    | cons w r =>
      obtain ⟨i, x, hi, hx, hsp, hlt⟩ := suf_at hs
      have hxz : Sm x := hz.2 x (List.mem_of_getElem? hx)
      refine xsg_next ?_
      refine xsg_seq (XS.g (xs_set (ev_callL rfl ?_)))
      repeat walk_at "dn"
      refine ev_fld rfl T.cl T.n_rows lk_rows ?_
      refine ev_fld rfl T.cl T.n_at lk_at ?_
      rw [hi]
      refine oj_ixL (d := .str x) (atI_nat (j := i) (by rw [List.getElem?_map, hx]; rfl)) ?_
      repeat walk_at "dn"
      refine oj_split (by decide +kernel) (by unfold Sm at hxz; unfold sizeLine; omega) ?_
      rw [show Txt.split x (Str.ofString " ") = w from hsp]
      repeat walk_at "dn"
      have so := split_sp x
      rw [hsp] at so
      refine hW w _ so.ne (so.sm hxz) ?_
      unfold oneRd at ho
      dsimp only at ho
      cases hg : g w with
      | none =>
        rw [hg] at ho
        dsimp only [dOpt]
        refine xsg_seq (xsg_if ?_)
        repeat walk_at "dn"
        refine xsg_raise ?_
        repeat walk_at "dn"
        refine ev_fld rfl T.cl T.n_at lk_at ?_
        repeat walk_at "dn"
        exact ho
      | some a =>
        rw [hg] at ho
        dsimp only [dOpt]
        refine xsg_seq (xsg_if ?_)
        repeat walk_at "dn"
        refine xsg_next ?_
        refine xsg_seq (XS.g (xs_fldaug rfl T.cl T.n_at lk_at (by show 2 < 1000; decide) ?_))
        refine XS.g ?_
        rw [put_at]
        repeat walk_at "dn"
        have e : (rows.length : Int) - (w :: r).length + 1 = (rows.length : Int) - r.length := by simp; omega
        rw [e]
        exact ho
end
theorem suf_tail {α : Type} {a : α} {l m : List α} (h : (a :: l) <:+ m) : l <:+ m := (List.suffix_cons a l).trans h
theorem one_suf {α : Type} {g : List Str → Option α} {r q : List (List Str)} {a : α} (h : oneRd g r = .inr (a, q)) : q <:+ r := by
  cases r with
  | nil => cases h
  | cons w r =>
    unfold oneRd at h
    dsimp only at h
    cases hg : g w with
    | none => rw [hg] at h; cases h
    | some b =>
      rw [hg] at h
      injection h with h
      injection h with _ h
      rw [← h]
      exact List.suffix_cons w r
theorem all_cons {α : Type} {w : Str} {g : List Str → Option α} {c : Str} {cs : List Str} {r : List (List Str)} : allRd w g ((c :: cs) :: r) = if c = w then (match g (c :: cs) with
      | none => .inl ((c :: cs) :: r)
      | some a => match allRd w g r with
        | .inl e => .inl e
        | .inr (as, q) => .inr (a :: as, q)) else .inr ([], (c :: cs) :: r) := by
  show (if some c = some w then _ else _) = _
  by_cases h : c = w
  · rw [if_pos h, if_pos (congrArg some h)]
    try rfl
  · rw [if_neg h, if_neg (fun z => h (Option.some.inj z))]
theorem all_suf {α : Type} {w : Str} {g : List Str → Option α} : ∀ {r q : List (List Str)} {as : List α}, allRd w g r = .inr (as, q) → q <:+ r
  | [], q, as, h => by
    injection h with h
    injection h with _ h
    rw [← h]
    exact List.suffix_refl _
  | x :: r, q, as, h => by
    unfold allRd at h
    split at h
    · cases hg : g x with
      | none => rw [hg] at h; cases h
      | some a =>
        rw [hg] at h
        dsimp only at h
        cases hr : allRd w g r with
        | inl e => rw [hr] at h; cases h
        | inr z =>
          obtain ⟨bs, q'⟩ := z
          rw [hr] at h
          injection h with h
          injection h with _ h
          rw [← h]
          exact (all_suf hr).trans (List.suffix_cons x r)
    · injection h with h
      injection h with _ h
      rw [← h]
      exact List.suffix_refl _
theorem suf_len {r : List (List Str)} {rows : List Str} (h : r <:+ Wd rows) : r.length ≤ rows.length := by
  have := h.length_le
  rwa [List.length_map] at this
section
variable {K : PySem.W.Frag} {mg : Str → Option Value} {C R : Addr} {E : XK}
theorem x_all {α : Type} {f : Addr} {g : List Str → Option α} {h : α → List D} (T : Rdr K mg R) (ρ0 : List Sl) (Q : D → List Sl → Prop) (X : Int → Prop) (hh : W_all R f g h ρ0 Q X) :
    XSG K C E X (t_all K R (spX K C (W_next R f g h)) E) (ρ0 ++ List.replicate ((["self", "word", "read", "found"] : List Str).length - ρ0.length) .unk) (bodyPost ρ0 Q) := by
  obtain ⟨p, rows, r, w, rfl, hz, hs, ho⟩ := hh
  show XSG K C E X (t_all K R (spX K C (W_next R f g h)) E) [stR p R rows r, .dat (.str w), .dat (.raw (.ref f)), .unk] _
  unfold t_all
  refine xsg_seq (XS.g (xs_setO ?_))
  repeat walk_at "dn"
  intro fp
  repeat walk_at "dn"
  have hzl := hz.1
  refine xsg_seq (xsg_cut (fun ρ' => ∃ (as : List α) (q : List (List Str)), ρ' = [stR p R rows q, .dat (.str w), .dat (.raw (.ref f)), .own fp (as.map fun a => .tup (h a))] ∧ Q (.tup (as.map fun a => .tup (h a))) [stR p R rows q, .unk, .unk]) ?_ ?_)
  · refine xsg_while (fun m ρ' => ∃ (as : List α) (q : List (List Str)), ρ' = [stR p R rows q, .dat (.str w), .dat (.raw (.ref f)), .own fp (as.map fun a => .tup (h a))] ∧ q <:+ Wd rows ∧ m = q.length ∧ as.length + q.length ≤ 100001 ∧
      outc rows X (fun bs q => Q (.tup ((as ++ bs).map fun a => .tup (h a))) [stR p R rows q, .unk, .unk]) (allRd w g q)) r.length ⟨[], r, rfl, hs, rfl, by have := suf_len hs; simp; omega, ho⟩ ?_
    rintro m ρ' ⟨as, q, rfl, hq, rfl, hl, ho⟩
    repeat walk_at "dn"
    refine ev_fld rfl T.cl T.n_at lk_at ?_
    repeat walk_at "dn"
    refine ev_fld rfl T.cl T.n_rows lk_rows ?_
    repeat walk_at "dn"
    · intro h1
      cases q with
      | nil => rw [List.length_map] at h1; simp at h1
      | cons w0 q =>
        obtain ⟨i, x, hi, hx, hsp, hlt⟩ := suf_at hq
        have hxz : Sm x := hz.2 x (List.mem_of_getElem? hx)
        have so := split_sp x
        rw [hsp] at so
        repeat walk_at "dn"
        refine ev_fld rfl T.cl T.n_rows lk_rows ?_
        refine ev_fld rfl T.cl T.n_at lk_at ?_
        rw [hi]
        refine oj_ixL (d := .str x) (atI_nat (j := i) (by rw [List.getElem?_map, hx]; rfl)) ?_
        repeat walk_at "dn"
        refine oj_split (by decide +kernel) (by unfold Sm at hxz; unfold sizeLine; omega) ?_
        rw [show Txt.split x (Str.ofString " ") = w0 from hsp]
        cases w0 with
        | nil => exact (so.ne rfl).elim
        | cons c cs =>
          repeat walk_at "dn"
          refine oj_ixL (d := .str c) atI_zero ?_
          rw [all_cons] at ho
          repeat walk_at "dn"
          · intro h2
            rw [if_pos h2] at ho
            refine xsg_app rfl ?_
            refine evg_meth rfl rfl ?_
            repeat walk_at "dn"
            refine ⟨[.raw (.ref f)], _, rfl, rfl, p, rows, (c :: cs) :: q, by show [rdr p R rows _, _] = [rdr p R rows ((rows.length : Int) - ((c :: cs) :: q).length), _]; rw [hi], hz, hq, ?_⟩
            unfold oneRd
            dsimp only
            cases hg : g (c :: cs) with
            | none =>
              rw [hg] at ho
              exact ho
            | some a =>
              rw [hg] at ho
              simp only [List.length_cons] at hl
              refine ⟨_, rfl, by rw [List.length_map]; exact sz_lt (by omega), q.length, by simp, as ++ [a], q, ?_, suf_tail hq, rfl, by simp; omega, ?_⟩
              · rw [setHd_cons]
                simp
              · dsimp only at ho
                cases hr : allRd w g q with
                | inl e => rw [hr] at ho; exact ho
                | inr z =>
                  obtain ⟨bs, q'⟩ := z
                  rw [hr] at ho
                  show Q _ _
                  rw [List.append_assoc]
                  exact ho
          · intro h2
            rw [if_neg h2] at ho
            refine ⟨as, (c :: cs) :: q, by first | rfl | (show [rdr p R rows _, _, _, _] = [rdr p R rows ((rows.length : Int) - ((c :: cs) :: q).length), _, _, _]; rw [hi]), ?_⟩
            have ho' : Q (.tup ((as ++ []).map fun a => .tup (h a))) [stR p R rows ((c :: cs) :: q), .unk, .unk] := ho
            rw [List.append_nil] at ho'
            exact ho'
    · intro h1
      repeat walk_at "dn"
      rw [List.length_map] at h1
      have hq0 : q = [] := List.length_eq_zero_iff.mp (by omega)
      subst hq0
      refine ⟨as, [], rfl, ?_⟩
      have ho' : Q (.tup ((as ++ []).map fun a => .tup (h a))) [stR p R rows [], .unk, .unk] := ho
      rw [List.append_nil] at ho'
      exact ho'
  · rintro ρ' ⟨as, q, rfl, hq⟩
    refine XS.g ?_
    repeat walk_at "dn"
    exact hq
end
abbrev hPairR (x : List (Int × Int) × Int) : List D := [dStack x.1, .int x.2]
abbrev hFirst (f : (Int × Int) × Told) : List D := [dPt2 f.1, dTold f.2]
abbrev hSecond (f : Int × Told) : List D := [.int f.1, dTold f.2]
abbrev hUnitR (x : Int × List Int) : List D := [.int x.1, dInts x.2]
theorem pair_suf {r q : List (List Str)} {a : Pair} (h : pairRd r = .inr (a, q)) : q <:+ r := by
  unfold pairRd at h
  cases h1 : oneRd pairR r with
  | inl e => rw [h1] at h; cases h
  | inr z1 =>
    obtain ⟨a1, r1⟩ := z1
    rw [h1] at h
    dsimp only at h
    cases h2 : allRd "first" firstR r1 with
    | inl e => rw [h2] at h; cases h
    | inr z2 =>
      obtain ⟨a2, r2⟩ := z2
      rw [h2] at h
      dsimp only at h
      cases h3 : allRd "second" secondR r2 with
      | inl e => rw [h3] at h; cases h
      | inr z3 =>
        obtain ⟨a3, r3⟩ := z3
        rw [h3] at h
        injection h with h
        injection h with _ h
        rw [← h]
        exact (all_suf h3).trans ((all_suf h2).trans (one_suf h1))
theorem pairs_suf : ∀ {n : Nat} {r q : List (List Str)} {as : List Pair}, pairsRd n r = .inr (as, q) → q <:+ r
  | 0, r, q, as, h => by
    injection h with h
    injection h with _ h
    rw [← h]
    exact List.suffix_refl _
  | n + 1, r, q, as, h => by
    unfold pairsRd at h
    cases h1 : pairRd r with
    | inl e => rw [h1] at h; cases h
    | inr z1 =>
      obtain ⟨a1, r1⟩ := z1
      rw [h1] at h
      dsimp only at h
      cases h2 : pairsRd n r1 with
      | inl e => rw [h2] at h; cases h
      | inr z2 =>
        obtain ⟨a2, r2⟩ := z2
        rw [h2] at h
        injection h with h
        injection h with _ h
        rw [← h]
        exact (pairs_suf h2).trans (pair_suf h1)
theorem one_lt {α : Type} {g : List Str → Option α} {r q : List (List Str)} {a : α} (h : oneRd g r = .inr (a, q)) : q.length < r.length := by
  cases r with
  | nil => cases h
  | cons w r =>
    unfold oneRd at h
    dsimp only at h
    cases hg : g w with
    | none => rw [hg] at h; cases h
    | some b =>
      rw [hg] at h
      injection h with h
      injection h with _ h
      rw [← h]
      simp
theorem unit_suf {r q : List (List Str)} {a : Uni} (h : unitRd r = .inr (a, q)) : q <:+ r ∧ q.length < r.length := by
  unfold unitRd at h
  cases h1 : oneRd unitR r with
  | inl e => rw [h1] at h; cases h
  | inr z1 =>
    obtain ⟨a1, r1⟩ := z1
    rw [h1] at h
    dsimp only at h
    cases h2 : pairsRd a1.1.toNat r1 with
    | inl e => rw [h2] at h; cases h
    | inr z2 =>
      obtain ⟨a2, r2⟩ := z2
      rw [h2] at h
      injection h with h
      injection h with _ h
      rw [← h]
      exact ⟨(pairs_suf h2).trans (one_suf h1), Nat.lt_of_le_of_lt (pairs_suf h2).length_le (one_lt h1)⟩
section
variable {K : PySem.W.Frag} {mg : Str → Option Value} {C R : Addr} {E : XK}
theorem x_rpair {f1 f2 f3 : Addr} (ρ0 : List Sl) (Q : D → List Sl → Prop) (X : Int → Prop) (hh : W_rpair R ρ0 Q X) :
    XSG K C E X (t_rpair K R f1 f2 f3 (spX K C (W_next R f1 pairR hPairR)) (spX K C (W_all R f2 firstR hFirst)) (spX K C (W_all R f3 secondR hSecond)) E) (ρ0 ++ List.replicate ((["self", "stack", "place", "firsts"] : List Str).length - ρ0.length) .unk) (bodyPost ρ0 Q) := by
  obtain ⟨p, rows, r, rfl, hz, hs, ho⟩ := hh
  show XSG K C E X _ [stR p R rows r, .unk, .unk, .unk] _
  unfold t_rpair
  unfold pairRd at ho
  refine xsg_seq (xsg_asgG (gs := List.range 40) (evg_meth rfl rfl (ea_cons (ev_c (d := .raw (.ref f1)) (fun B => .raw _) (ea_nil ⟨[.raw (.ref f1)], _, rfl, rfl, p, rows, r, rfl, hz, hs, ?_⟩)))))
  cases h1 : oneRd pairR r with
  | inl e => rw [h1] at ho; exact ho
  | inr z1 =>
    obtain ⟨a1, r1⟩ := z1
    rw [h1] at ho
    dsimp only at ho
    have s1 := (one_suf h1).trans hs
    show GJ K _ _ _ (setHd _ 0 _) _
    repeat walk_at "dn"
    refine xsg_seq (xsg_set (evg_meth rfl rfl (ea_cons (ev_str (ea_cons (ev_c (d := .raw (.ref f2)) (fun B => .raw _) (ea_nil ⟨[.str "first", .raw (.ref f2)], _, rfl, rfl, p, rows, r1, "first", rfl, hz, s1, ?_⟩)))))))
    cases h2 : allRd "first" firstR r1 with
    | inl e => rw [h2] at ho; exact ho
    | inr z2 =>
      obtain ⟨a2, r2⟩ := z2
      rw [h2] at ho
      dsimp only at ho
      have s2 := (all_suf h2).trans s1
      show XSG K C E X _ _ _
      refine xsg_ret (evg_tup ?_)
      refine eag_cons (EV.g (ev_var rfl ?_))
      refine eag_cons (EV.g (ev_var rfl ?_))
      refine eag_cons (EV.g (ev_var rfl ?_))
      refine eag_cons (evg_meth (p := p) (CR := R) (fs0 := [("rows", dStrs rows), ("at", .int ((rows.length : Int) - r2.length))]) rfl rfl ?_)
      refine ea_cons (ev_str (ea_cons (ev_c (d := .raw (.ref f3)) (fun B => .raw _) (ea_nil ⟨[.str "second", .raw (.ref f3)], _, rfl, rfl, p, rows, r2, "second", rfl, hz, s2, ?_⟩))))
      cases h3 : allRd "second" secondR r2 with
      | inl e => rw [h3] at ho; exact ho
      | inr z3 =>
        obtain ⟨a3, r3⟩ := z3
        rw [h3] at ho
        dsimp only at ho
        refine eag_nil ⟨by show 4 ≤ sizeLine; decide, ?_⟩
        repeat walk_at "dn"
        exact ho
end
theorem unitR_ok {ws : List Str} {x : Int × List Int} (h : unitR ws = some x) : 1 ≤ x.1 ∧ NumOk x.1 ∧ (∀ n ∈ x.2, NumOk n) ∧ ws = ("unit" : Str) :: str x.1 :: x.2.map str := by
  cases ws with
  | nil => cases h
  | cons w r =>
    unfold unitR at h
    dsimp only at h
    cases hn : nums r with
    | none => rw [hn] at h; cases h
    | some ns =>
      rw [hn] at h
      cases ns with
      | nil => cases h
      | cons n ns =>
        dsimp only at h
        split at h
        · rename_i hc
          obtain rfl := Option.some.inj h
          have hs := nums_some hn
          have all : ∀ (r : List Str) (ns : List Int), r.map numW = ns.map some → r = ns.map str ∧ ∀ n ∈ ns, NumOk n := fun r => by
            induction r with
            | nil =>
              intro ns e
              cases ns with
              | nil => exact ⟨rfl, fun n hn => by cases hn⟩
              | cons a b => cases e
            | cons a b ih =>
              intro ns e
              cases ns with
              | nil => cases e
              | cons n ns =>
                rw [List.map_cons, List.map_cons] at e
                injection e with e1 e2
                obtain ⟨q1, q2⟩ := numW_some e1
                obtain ⟨q3, q4⟩ := ih ns e2
                exact ⟨by rw [q1, q3]; rfl, fun m hm => by
                  rcases List.mem_cons.mp hm with rfl | hm
                  · exact q2
                  · exact q4 m hm⟩
          obtain ⟨e1, e2⟩ := all r (n :: ns) hs
          exact ⟨hc.2, e2 n List.mem_cons_self, fun m hm => e2 m (List.mem_cons_of_mem _ hm), by rw [e1, hc.1]; rfl⟩
        · cases h
theorem one_mem {α : Type} {g : List Str → Option α} {r q : List (List Str)} {a : α} (h : oneRd g r = .inr (a, q)) : ∃ w, r = w :: q ∧ g w = some a := by
  cases r with
  | nil => cases h
  | cons w r =>
    unfold oneRd at h
    dsimp only at h
    cases hg : g w with
    | none => rw [hg] at h; cases h
    | some b =>
      rw [hg] at h
      injection h with h
      injection h with h1 h
      rw [← h, ← h1]
      exact ⟨w, rfl, hg⟩
theorem pairs_more {n : Nat} {r : List (List Str)} : pairsRd (n + 1) r = (match pairRd r with
    | .inl e => .inl e
    | .inr (p, r1) => match pairsRd n r1 with
      | .inl e => .inl e
      | .inr (ps, r2) => .inr (p :: ps, r2)) := rfl
section
variable {K : PySem.W.Frag} {mg : Str → Option Value} {C R : Addr} {E : XK}
theorem x_runit {f1 : Addr} (ρ0 : List Sl) (Q : D → List Sl → Prop) (X : Int → Prop) (hh : W_runit R ρ0 Q X) :
    XSG K C E X (t_runit K R f1 (spX K C (W_next R f1 unitR hUnitR)) (spX K C (W_rpair R)) E) (ρ0 ++ List.replicate ((["self", "count", "goes", "pairs", "_"] : List Str).length - ρ0.length) .unk) (bodyPost ρ0 Q) := by
  obtain ⟨p, rows, r, rfl, hz, hs, ho⟩ := hh
  show XSG K C E X _ [stR p R rows r, .unk, .unk, .unk, .unk] _
  unfold t_runit
  unfold unitRd at ho
  refine xsg_seq (xsg_asgG (gs := List.range 40) (evg_meth rfl rfl (ea_cons (ev_c (d := .raw (.ref f1)) (fun B => .raw _) (ea_nil ⟨[.raw (.ref f1)], _, rfl, rfl, p, rows, r, rfl, hz, hs, ?_⟩)))))
  cases h1 : oneRd unitR r with
  | inl e => rw [h1] at ho; exact ho
  | inr z1 =>
    obtain ⟨a1, r1⟩ := z1
    rw [h1] at ho
    dsimp only at ho
    have s1 := (one_suf h1).trans hs
    have l1 := suf_len s1
    have hzl := hz.1
    obtain ⟨w0, _, hw0⟩ := one_mem h1
    obtain ⟨c1, c2, _, _⟩ := unitR_ok hw0
    unfold NumOk at c2
    show GJ K _ _ _ (setHd _ 0 _) _
    repeat walk_at "dn"
    refine xsg_seq (XS.g (xs_setO ?_))
    repeat walk_at "dn"
    intro fp
    repeat walk_at "dn"
    refine xsg_seq (xsg_cut (fun ρ' => ∃ (ps : List Pair) (q : List (List Str)) (x : Sl), ρ' = [stR p R rows q, .dat (.int a1.1), .dat (dInts a1.2), .own fp (ps.map dPair), x] ∧ Q (dUnit ⟨a1.2, ps⟩) [stR p R rows q]) ?_ ?_)
    · refine xsg_for (gs := List.range 40) ?_
      repeat walk_at "dn"
      refine ⟨a1.1, rfl, by omega, by omega, fun i ρ' => ∃ (ps : List Pair) (q : List (List Str)) (x : Sl), ρ' = [stR p R rows q, .dat (.int a1.1), .dat (dInts a1.2), .own fp (ps.map dPair), x] ∧ q <:+ Wd rows ∧ ps.length + q.length ≤ 100001 ∧
        outc rows X (fun bs q2 => Q (dUnit ⟨a1.2, ps ++ bs⟩) [stR p R rows q2]) (pairsRd (a1.1.toNat - i) q), ⟨[], r1, _, rfl, s1, by simp; omega, ?_⟩, ?_, ?_⟩
      · rw [Nat.sub_zero]
        cases h2 : pairsRd a1.1.toNat r1 with
        | inl e => rw [h2] at ho; exact ho
        | inr z2 =>
          obtain ⟨a2, r2⟩ := z2
          rw [h2] at ho
          exact ho
      · rintro i d ρ' hd ⟨ps, q, x, rfl, hq, hl, ho⟩
        have hlt : i < a1.1.toNat := by have := take_lt hd; rwa [rangeD_len] at this
        rw [show a1.1.toNat - i = (a1.1.toNat - (i + 1)) + 1 by omega, pairs_more] at ho
        repeat walk_at "dn"
        refine xsg_app rfl (evg_meth rfl rfl ?_)
        repeat walk_at "dn"
        refine ⟨[], _, rfl, rfl, p, rows, q, rfl, hz, hq, ?_⟩
        cases h2 : pairRd q with
        | inl e => rw [h2] at ho; exact ho
        | inr z2 =>
          obtain ⟨a2, r2⟩ := z2
          rw [h2] at ho
          dsimp only at ho
          have s2 := (pair_suf h2)
          have lt2 : r2.length < q.length := by
            unfold pairRd at h2
            cases g1 : oneRd pairR q with
            | inl e => rw [g1] at h2; cases h2
            | inr y1 =>
              obtain ⟨b1, q1⟩ := y1
              rw [g1] at h2
              dsimp only at h2
              cases g2 : allRd "first" firstR q1 with
              | inl e => rw [g2] at h2; cases h2
              | inr y2 =>
                obtain ⟨b2, q2⟩ := y2
                rw [g2] at h2
                dsimp only at h2
                cases g3 : allRd "second" secondR q2 with
                | inl e => rw [g3] at h2; cases h2
                | inr y3 =>
                  obtain ⟨b3, q3⟩ := y3
                  rw [g3] at h2
                  injection h2 with h2
                  injection h2 with _ h2
                  rw [← h2]
                  exact Nat.lt_of_le_of_lt (all_suf g3).length_le (Nat.lt_of_le_of_lt (all_suf g2).length_le (one_lt g1))
          refine ⟨_, rfl, by rw [List.length_map]; exact sz_lt (by omega), ps ++ [a2], r2, .dat d, ?_, s2.trans hq, by simp; omega, ?_⟩
          · rw [setHd_cons]
            simp
          · cases h3 : pairsRd (a1.1.toNat - (i + 1)) r2 with
            | inl e => rw [h3] at ho; exact ho
            | inr z3 =>
              obtain ⟨a3, r3⟩ := z3
              rw [h3] at ho
              show Q _ _
              rw [List.append_assoc]
              exact ho
      · rintro ρ' ⟨ps, q, x, rfl, hq, hl, ho⟩
        rw [rangeD_len, Nat.sub_self] at ho
        refine ⟨ps, q, x, rfl, ?_⟩
        have ho' : Q (dUnit ⟨a1.2, ps ++ []⟩) [stR p R rows q] := ho
        rw [List.append_nil] at ho'
        exact ho'
    · rintro ρ' ⟨ps, q, x, rfl, ho⟩
      refine XS.g ?_
      repeat walk_at "dn"
      exact ho
theorem len0 {s : Str} : s.length = 0 ↔ s = "" := by
  constructor
  · intro h
    rw [str_tl, show tl s = [] from List.length_eq_zero_iff.mp (by rw [← len_tl]; exact h)]
    decide +kernel
  · intro h
    rw [h]
    decide +kernel
theorem x_like (T : Rdr K mg R) (ρ0 : List Sl) (Q : D → List Sl → Prop) (X : Int → Prop) (hh : W_like ρ0 Q X) :
    XSG K C E X (t_like K R (spW K (W_rinit R)) (spX K C (W_runit R)) E) (ρ0 ++ List.replicate ((["text", "reader", "parts"] : List Str).length - ρ0.length) .unk) (bodyPost ρ0 Q) := by
  obtain ⟨s, rfl, hz, ho⟩ := hh
  show XSG K C E X _ [.dat (.str s), .unk, .unk] _
  unfold t_like
  refine xsg_seq (xsg_if ?_)
  unfold readT at ho
  repeat walk_at "dn"
  · intro h1
    refine XS.g ?_
    have : rowsOf s = [] := by unfold rowsOf; rw [if_pos (len0.mpr h1)]
    rw [this] at ho
    repeat walk_at "dn"
    exact ho
  · intro h1
    have hn : ¬ s.length = 0 := fun z => h1 (len0.mp z)
    obtain ⟨rows, hrows⟩ : ∃ rows, Txt.split s nl = rows := ⟨_, rfl⟩
    have hR : rowsOf s = Wd rows := by unfold rowsOf; rw [if_neg hn, hrows]
    have so := split_nl s
    rw [hrows] at so
    have hrz := so.sm hz
    have hrl := hrz.1
    rw [hR] at ho
    have hwl : (Wd rows).length = rows.length := List.length_map ..
    refine xsg_next ?_
    refine xsg_seq (XS.g (xs_make ?_))
    repeat walk_at "dn"
    refine oj_split (by decide +kernel) (by unfold Sm at hz; unfold sizeLine; omega) ?_
    rw [show Txt.split s (Str.ofString "\n") = rows from hrows]
    repeat walk_at "dn"
    refine fun x => ⟨x, rows, rfl, rfl, _, _, rfl, ?_⟩
    refine xsg_seq (XS.g (xs_setO ?_))
    repeat walk_at "dn"
    intro fp
    repeat walk_at "dn"
    refine xsg_seq (xsg_cut (fun ρ' => ∃ (us : Paper) (z : Sl), ρ' = [.dat (.str s), z, .own fp (us.map dUnit)] ∧ Q (dPaper us) [.unk]) ?_ ?_)
    · have like : ∀ (us : Paper) (q : List (List Str)) (n : Nat), Prop := fun us q n => match paperRd n q with
        | .inl e => X (rowNo rows e)
        | .inr vs => Q (dPaper (us ++ vs)) [.unk]
      refine xsg_while (fun m ρ' => ∃ (us : Paper) (q : List (List Str)) (n : Nat), ρ' = [.dat (.str s), stR x R rows q, .own fp (us.map dUnit)] ∧ q <:+ Wd rows ∧ m = q.length ∧ q.length < n ∧ us.length + q.length ≤ 100001 ∧
        (match paperRd n q with
        | .inl e => X (rowNo rows e)
        | .inr vs => Q (dPaper (us ++ vs)) [.unk])) rows.length ⟨[], Wd rows, (Wd rows).length + 1, ?_, List.suffix_refl _, hwl.symm, by omega, by simp; omega, ?_⟩ ?_
      · show [_, rdr x R rows 0, _] = [_, rdr x R rows ((rows.length : Int) - (Wd rows).length), _]
        rw [hwl, Int.sub_self]
        rfl
      · cases h2 : paperRd ((Wd rows).length + 1) (Wd rows) with
        | inl e =>
          rw [h2] at ho
          dsimp only at ho ⊢
          unfold place at ho
          dsimp only at ho
          rw [hwl] at ho
          exact ho
        | inr vs => rw [h2] at ho; exact ho
      · rintro m ρ' ⟨us, q, n, rfl, hq, rfl, hlt, hl, ho⟩
        repeat walk_at "dn"
        refine ev_fld rfl T.cl T.n_at lk_at ?_
        repeat walk_at "dn"
        refine ev_fld rfl T.cl T.n_rows lk_rows ?_
        repeat walk_at "dn"
        · intro h2
          cases q with
          | nil => rw [List.length_map] at h2; simp at h2
          | cons w0 q =>
            obtain ⟨n, rfl⟩ : ∃ k, n = k + 1 := ⟨n - 1, by simp at hlt; omega⟩
            have e1 : paperRd (n + 1) (w0 :: q) = (match unitRd (w0 :: q) with
              | .inl e => .inl e
              | .inr (u, r1) => match paperRd n r1 with
                | .inl e => .inl e
                | .inr us => .inr (u :: us)) := rfl
            rw [e1] at ho
            refine xsg_app rfl (evg_meth rfl rfl ?_)
            repeat walk_at "dn"
            refine ⟨[], _, rfl, rfl, x, rows, w0 :: q, rfl, hrz, hq, ?_⟩
            cases h3 : unitRd (w0 :: q) with
            | inl e => rw [h3] at ho; exact ho
            | inr z =>
              obtain ⟨u, r1⟩ := z
              rw [h3] at ho
              dsimp only at ho
              obtain ⟨s1, l1⟩ := unit_suf h3
              simp only [List.length_cons] at l1 hlt hl
              refine ⟨_, rfl, by rw [List.length_map]; exact sz_lt (by omega), r1.length, by simp; omega, us ++ [u], r1, n, ?_, s1.trans hq, rfl, by omega, by simp; omega, ?_⟩
              · rw [setHd_cons]
                simp
              · cases h4 : paperRd n r1 with
                | inl e => rw [h4] at ho; exact ho
                | inr vs =>
                  rw [h4] at ho
                  dsimp only
                  rw [List.append_assoc]
                  exact ho
        · intro h2
          rw [List.length_map] at h2
          have hq0 : q = [] := List.length_eq_zero_iff.mp (by omega)
          subst hq0
          refine ⟨us, _, rfl, ?_⟩
          have e1 : paperRd n [] = .inr [] := by cases n <;> rfl
          rw [e1] at ho
          dsimp only at ho
          rw [List.append_nil] at ho
          exact ho
    · rintro ρ' ⟨us, z, rfl, ho⟩
      refine XS.g ?_
      repeat walk_at "dn"
      exact ho
end
section
variable {P : Program} {w : World} {K : PySem.W.Frag} {mg : Str → Option Value} {base : Heap}
/-- a pair of data, new -/
theorem tup2 {B H : Hp} {σ : L2.St} {ρ : List Sl} {v u : V} {a b : D} (e : Envs K B H σ ρ) (ra : Rep K B v a) (rb : Rep K B u b) (p : Addr) (hp : H p = none) : ∃ B', Stp ρ B H ρ B' (upd H p (.tup [v, u])) ∧ Envs K B' (upd H p (.tup [v, u])) σ ρ ∧ Rep K B' (.ref p) (.tup [a, b]) := by
  have pu := Pur.new (o := .tup [v, u]) e.ex hp
  exact ⟨_, pu.stp, e.pur pu, .tup (SqT.of upd_same) (.cons (ra.up pu.ex) (.cons (rb.up pu.ex) .nil))⟩
theorem x_rtold {C BT BL : Addr} (N : Hnd K mg C BT BL) (ρ0 : List Sl) (Q : D → List Sl → Prop) (h : W__law_row_told ρ0 Q) : XS K (t_rtold K C BT BL (spX K C W_like)) (ρ0 ++ List.replicate ((["text", "e"] : List Str).length - ρ0.length) .unk) (bodyPost ρ0 Q) := by
  obtain ⟨s, rfl, hz, hq⟩ := h
  show XS K (t_rtold K C BT BL (spX K C W_like)) [.dat (.str s), .unk] _
  intro B H σ D' e k1 k2 k3 k4
  have len : σ.length = 2 := by have := e.len; simpa using this.symm
  obtain ⟨u0, q0, r0⟩ := e.ok 0 _ rfl
  cases r0
  have at0 : σ[0]? = some (some (.str s)) := e.at q0
  have no : NoOwn [Sl.dat (.str s), .unk] := fun p ⟨i, t, h1, h2⟩ => by
    match i, h1 with
    | 0, h1 => simp at h1; subst h1; cases h2
    | 1, h1 => simp at h1; subst h1; cases h2
  have no1 : NoOwn [Sl.dat (.str s)] := fun p ⟨i, t, h1, h2⟩ => by
    match i, h1 with
    | 0, h1 => simp at h1; subst h1; cases h2
  have fin : ∀ {B1 H1 : Hp} {v u : V} {a b : D}, Stp [] B H [] B1 H1 → Evl.Ex B1 H1 → Rep K B1 v a → Rep K B1 u b → Q (.tup [a, b]) [.unk] → ∀ p, H1 p = none → D'.rt (.ref p) (upd H1 p (.tup [v, u])) := fun {B1 H1 v u a b} st x ra rb q p hp => by
    have e1 : Envs K B1 H1 σ [.dat (.str s), .unk] := e.later no st.ex x
    obtain ⟨B2, st2, e2, r2⟩ := tup2 e1 ra rb p hp
    exact k2 (.ref p) σ B2 _ (.tup [a, b]) [.dat (.str s), .unk] ⟨by simp [kept, Sl.ad], q⟩ ((st.unnil (ρ := [.dat (.str s), .unk]) no).trans x st2) e2 r2
  show ∃ v, σ[0]? = some (some v) ∧ _
  refine ⟨.str s, at0, ?_⟩
  have ea : Envs K B H ([V.str s].map some) [.dat (.str s)] := ⟨e.ex, rfl, fun i t h1 => by
    match i, h1 with
    | 0, h1 => simp at h1; subst h1; exact ⟨.str s, rfl, .str s⟩, fun i j t u p h1 _ h3 _ => (no1 p ⟨i, t, h1, h3⟩).elim⟩
  refine ⟨B, [.dat (.str s)], fun d ρ' => ∃ p, readT s = .inr p ∧ d = dPaper p, fun r => ∃ er, readT s = .inl er ∧ r = place (rowsOf s).length (some er), ea, ⟨s, rfl, hz, ?_⟩, ?_, ?_⟩
  · cases hr : readT s with
    | inl er => exact ⟨er, rfl, rfl⟩
    | inr p => exact ⟨p, rfl, rfl⟩
  · rintro v B1 H1 d ρ' ⟨p, hp, rfl⟩ st _ e1 r1
    refine ⟨by show 2 ≤ sizeLine; decide, fun q hq' => fin (st.nil no1) e1.ex (.int 0) r1 ?_ q hq'⟩
    unfold dRes at hq
    rw [hp] at hq
    exact hq
  · rintro r d B1 H1 ⟨er, hr, rfl⟩ st x hd
    unfold dRes at hq
    rw [hr] at hq
    refine ⟨true, N.te, fun _ a na => ?_, fun z => nomatch z⟩
    have v1 : (σ.set 1 (some (.ref a)))[1]? = some (some (.ref a)) := by rw [List.getElem?_set_self (by omega)]
    refine ⟨_, v1, ⟨rfl, d, rfl, .ref BT, .ref BT, false, _, rfl, fun u r => r, N.kT, hd, ?_⟩⟩
    refine ⟨false, rfl, ?_⟩
    show ∃ v, _ ∧ _
    refine ⟨_, v1, ⟨rfl, d, rfl, .ref BL, .ref BL, true, _, rfl, fun u r => r, N.kL, hd, ?_⟩⟩
    refine ⟨true, rfl, ?_⟩
    show ∃ v, _ ∧ _
    refine ⟨_, v1, rfl, rfl, d, _, .int (place (rowsOf s).length (some er)), rfl, hd, rfl, ?_⟩
    refine ⟨by show 2 ≤ sizeLine; decide, fun q hq' => fin (st.nil no1) x (.int _) .non hq q hq'⟩
end
/-! ### _law_spoilt_row -/
abbrev N__law_spoilt_row : List Str := ["pool", "row", "words", "at", "kind"]
theorem sc__law_spoilt_row : FnScope N__law_spoilt_row ["pool", "row"] (defScope s__law_spoilt_row) := ⟨rfl, rfl, rfl, by decide +kernel, rfl, by decide +kernel, by decide +kernel⟩
def t__law_spoilt_row (K : PySem.W.Frag) : TS :=
    tSeq (tAsg (tM1 rSplit (tVar 1) (tC (.str " "))) (gName 2))
    (tSeq (tAsg (tCall (spW K W__law_take) [] E0 (tCons (tVar 0) (tCons (tCB (cLenU K) (tCons (tVar 2) (tNil))) (tNil)))) (gName 3))
    (tSeq (tAsg (tCall (spW K W__law_take) [] E0 (tCons (tVar 0) (tCons (tC (.int 11)) (tNil)))) (gName 4))
    (tSeq (tIfS (tTest (tOp (rEqU K) (tVar 4) (tC (.int 0)))) (tRet (tIf (tTru K (tCall (spW K W__law_take) [] E0 (tCons (tVar 0) (tCons (tC (.int 2)) (tNil))))) (tOp (rAddU K) (tVar 1) (tC (.str " "))) (tOp (rAddU K) (tC (.str " ")) (tVar 1)))) (tNext))
    (tSeq (tIfS (tTest (tOp (rEqU K) (tVar 4) (tC (.int 1)))) (tRet (tM1 (rJoin K) (tC (.str " ")) (tOp (rAddU K) (tOp (rAddU K) (tSl (rSlU K) (tVar 2) (tNoPart) (tPart (tVar 3))) (tLst (tCons (tC (.str "")) (tNil)))) (tSl (rSlU K) (tVar 2) (tPart (tVar 3)) (tNoPart))))) (tNext))
    (tSeq (tIfS (tTest (tOp (rEqU K) (tVar 4) (tC (.int 2)))) (tRet (tM1 (rJoin K) (tC (.str " ")) (tOp (rAddU K) (tSl (rSlU K) (tVar 2) (tNoPart) (tPart (tVar 3))) (tSl (rSlU K) (tVar 2) (tPart (tOp (rAddU K) (tVar 3) (tC (.int 1)))) (tNoPart))))) (tNext))
    (tSeq (tIfS (tTest (tOp (rEqU K) (tVar 4) (tC (.int 3)))) (tRet (tM1 (rJoin K) (tC (.str " ")) (tOp (rAddU K) (tOp (rAddU K) (tSl (rSlU K) (tVar 2) (tNoPart) (tPart (tVar 3))) (tLst (tCons (tOp (rIx K) (tVar 2) (tVar 3)) (tCons (tOp (rIx K) (tVar 2) (tVar 3)) (tNil))))) (tSl (rSlU K) (tVar 2) (tPart (tOp (rAddU K) (tVar 3) (tC (.int 1)))) (tNoPart))))) (tNext))
    (tSeq (tIfS (tTest (tOp (rEqU K) (tVar 4) (tC (.int 4)))) (tRet (tM1 (rJoin K) (tC (.str " ")) (tOp (rAddU K) (tOp (rAddU K) (tSl (rSlU K) (tVar 2) (tNoPart) (tPart (tVar 3))) (tLst (tCons (tOp (rAddU K) (tC (.str "0")) (tOp (rIx K) (tVar 2) (tVar 3))) (tNil)))) (tSl (rSlU K) (tVar 2) (tPart (tOp (rAddU K) (tVar 3) (tC (.int 1)))) (tNoPart))))) (tNext))
    (tSeq (tIfS (tTest (tOp (rEqU K) (tVar 4) (tC (.int 5)))) (tRet (tM1 (rJoin K) (tC (.str " ")) (tOp (rAddU K) (tOp (rAddU K) (tSl (rSlU K) (tVar 2) (tNoPart) (tPart (tVar 3))) (tLst (tCons (tSl (rSlU K) (tC (.str "1234567890123")) (tNoPart) (tPart (tOp (rAddU K) (tC (.int 12)) (tCall (spW K W__law_take) [] E0 (tCons (tVar 0) (tCons (tC (.int 2)) (tNil))))))) (tNil)))) (tSl (rSlU K) (tVar 2) (tPart (tOp (rAddU K) (tVar 3) (tC (.int 1)))) (tNoPart))))) (tNext))
    (tSeq (tIfS (tTest (tOp (rEqU K) (tVar 4) (tC (.int 6)))) (tRet (tM1 (rJoin K) (tC (.str " ")) (tOp (rAddU K) (tSl (rSlU K) (tVar 2) (tNoPart) (tPart (tUn (rU fun i => .int (-i)) (tC (.int 1))))) (tLst (tCons (tOp (rIx K) (tLst (tCons (tC (.str "-0")) (tCons (tC (.str "+1")) (tCons (tC (.str "1_0")) (tCons (tC (.str "")) (tCons (tC (.str "x")) (tNil))))))) (tCall (spW K W__law_take) [] E0 (tCons (tVar 0) (tCons (tC (.int 5)) (tNil))))) (tNil)))))) (tNext))
    (tSeq (tIfS (tTest (tOp (rEqU K) (tVar 4) (tC (.int 7)))) (tRet (tOp (rAddU K) (tM0 rUpper (tSl (rSlU K) (tVar 1) (tNoPart) (tPart (tC (.int 1))))) (tSl (rSlU K) (tVar 1) (tPart (tC (.int 1))) (tNoPart)))) (tNext))
    (tSeq (tIfS (tTest (tOp (rEqU K) (tVar 4) (tC (.int 8)))) (tRet (tIf (tTru K (tCall (spW K W__law_take) [] E0 (tCons (tVar 0) (tCons (tC (.int 2)) (tNil))))) (tRepl1 (tVar 1) " " "  ") (CwR.tReplC (tVar 1) " " "\t"))) (tNext))
    (tSeq (tIfS (tTest (tOp (rEqU K) (tVar 4) (tC (.int 9)))) (tRet (tOp (rIx K) (tLst (tCons (tC (.str "unit 1")) (tCons (tC (.str "pair 0 0 at 0")) (tCons (tC (.str "first 0 0 num 0")) (tCons (tC (.str "second 0 len 0 -1")) (tCons (tC (.str "pair 0 0 1 at 0")) (tCons (tC (.str "unit 0")) (tCons (tC (.str "unit")) (tCons (tC (.str "second 0 spot 0 0")) (tCons (tC (.str "first 0 num 0")) (tNil))))))))))) (tCall (spW K W__law_take) [] E0 (tCons (tVar 0) (tCons (tC (.int 9)) (tNil)))))) (tNext))
    (tSeq (tIfS (tAnd (tTest (tOp (rEqU K) (tOp (rIx K) (tVar 2) (tC (.int 0))) (tC (.str "unit")))) (tAnd (tTest (tOp rGtU (tCB (cLenU K) (tCons (tVar 2) (tNil))) (tC (.int 1)))) (tAnd (tTru K (tM0 rIsdigit (tOp (rIx K) (tVar 2) (tC (.int 1))))) (tTest (tOp rLtU (tCB (cLenU K) (tCons (tOp (rIx K) (tVar 2) (tC (.int 1))) (tNil))) (tC (.int 13))))))) (tRet (tM1 (rJoin K) (tC (.str " ")) (tOp (rAddU K) (tLst (tCons (tC (.str "unit")) (tCons (tCB cStrU (tCons (tOp (rAddU K) (tCB cIntU (tCons (tOp (rIx K) (tVar 2) (tC (.int 1))) (tNil))) (tOp (rIx K) (tLst (tCons (tC (.int 1)) (tCons (tUn (rU fun i => .int (-i)) (tC (.int 1))) (tNil)))) (tCall (spW K W__law_take) [] E0 (tCons (tVar 0) (tCons (tC (.int 2)) (tNil)))))) (tNil))) (tNil)))) (tSl (rSlU K) (tVar 2) (tPart (tC (.int 2))) (tNoPart))))) (tNext))
    (tRet (tOp (rAddU K) (tM1 (rJoin K) (tC (.str " ")) (tSl (rSlU K) (tVar 2) (tNoPart) (tPart (tUn (rU fun i => .int (-i)) (tC (.int 1)))))) (tOp (rIx K) (tVar 2) (tUn (rU fun i => .int (-i)) (tC (.int 1)))))))))))))))))))
theorem d__law_spoilt_row {P : Program} {w : World} {K : PySem.W.Frag} {mg : Str → Option Value} {base : Heap} (C : Ctx K w mg) (c__law_take : C8.Cal P w K mg base 1 "_law_take" (spW K W__law_take) []) (f : Addr) (cdv : Value) (A : Around) (outer : List Env) (s : Shared) (H : Hp) (E : XK) (hr : Room 1 (A.deeper (envOfC "_law_spoilt_row" (defScope s__law_spoilt_row) s.heap.objs.size f cdv))) : PSs (cxOf CX0 P w K mg base N__law_spoilt_row "_law_spoilt_row" (defScope s__law_spoilt_row) f cdv A outer s H E).nox (defBody s__law_spoilt_row) (t__law_spoilt_row K) := by
  have hu : (A.deeper (envOfC "_law_spoilt_row" (defScope s__law_spoilt_row) s.heap.objs.size f cdv)).units + 64 < cLine := hr.units
  have hv : (A.deeper (envOfC "_law_spoilt_row" (defScope s__law_spoilt_row) s.heap.objs.size f cdv)).units + (64 + 1) < cLine := by have := hr.un; omega
  have hu1 := Nat.lt_of_le_of_lt (Nat.add_le_add_left (by decide : 1 ≤ 64) _) hu
  exact pss_splitT (i := 2) sc__law_spoilt_row.nd rfl (Or.inl rfl) (pv 1)
    (psst_cons (PST.of (ps_set (i := 3) sc__law_spoilt_row.nd rfl (Or.inl rfl) (C8.pe_c c__law_take hr (by decide) (by rfl) (pa_cons (pv 0) (pa_cons (pe_callB call_lenU (by rfl) C.b_len PySem.boot_len (pa_cons (pv 2) (pa_nil))) (pa_nil))))))
    (psst_cons (PST.of (ps_set (i := 4) sc__law_spoilt_row.nd rfl (Or.inl rfl) (C8.pe_c c__law_take hr (by decide) (by rfl) (pa_cons (pv 0) (pa_cons (pe_int) (pa_nil))))))
    (psst_cons (PST.of (ps_if (pt_cmpR (op_eqU hu) (pv 4) (pe_int) (nomark _)) (pss_one (ps_ret (pe_ifExp (pt_truth (C8.pe_c c__law_take hr (by decide) (by rfl) (pa_cons (pv 0) (pa_cons (pe_int) (pa_nil)))) (by intro _; rfl)) (pe_op op_addU (pv 1) (pe_str)) (pe_op op_addU (pe_str) (pv 1))))) (pss_nil)))
    (psst_cons (PST.of (ps_if (pt_cmpR (op_eqU hu) (pv 4) (pe_int) (nomark _)) (pss_one (ps_ret (pe_m1 PySem.F.slot_str_join PySem.F.type_str_join mt_join (pe_str) (pe_op op_addU (pe_op op_addU (pe_slice sl_U (pv 2) (po_none) (po_some (pv 3))) (pe_lst (pa_cons (pe_str) (pa_nil)))) (pe_slice sl_U (pv 2) (po_some (pv 3)) (po_none)))))) (pss_nil)))
    (psst_cons (PST.of (ps_if (pt_cmpR (op_eqU hu) (pv 4) (pe_int) (nomark _)) (pss_one (ps_ret (pe_m1 PySem.F.slot_str_join PySem.F.type_str_join mt_join (pe_str) (pe_op op_addU (pe_slice sl_U (pv 2) (po_none) (po_some (pv 3))) (pe_slice sl_U (pv 2) (po_some (pe_op op_addU (pv 3) (pe_int))) (po_none)))))) (pss_nil)))
    (psst_cons (PST.of (ps_if (pt_cmpR (op_eqU hu) (pv 4) (pe_int) (nomark _)) (pss_one (ps_ret (pe_m1 PySem.F.slot_str_join PySem.F.type_str_join mt_join (pe_str) (pe_op op_addU (pe_op op_addU (pe_slice sl_U (pv 2) (po_none) (po_some (pv 3))) (pe_lst (pa_cons (pe_ix ix_seq (pv 2) (pv 3) (fun _ _ => rfl)) (pa_cons (pe_ix ix_seq (pv 2) (pv 3) (fun _ _ => rfl)) (pa_nil))))) (pe_slice sl_U (pv 2) (po_some (pe_op op_addU (pv 3) (pe_int))) (po_none)))))) (pss_nil)))
    (psst_cons (PST.of (ps_if (pt_cmpR (op_eqU hu) (pv 4) (pe_int) (nomark _)) (pss_one (ps_ret (pe_m1 PySem.F.slot_str_join PySem.F.type_str_join mt_join (pe_str) (pe_op op_addU (pe_op op_addU (pe_slice sl_U (pv 2) (po_none) (po_some (pv 3))) (pe_lst (pa_cons (pe_op op_addU (pe_str) (pe_ix ix_seq (pv 2) (pv 3) (fun _ _ => rfl))) (pa_nil)))) (pe_slice sl_U (pv 2) (po_some (pe_op op_addU (pv 3) (pe_int))) (po_none)))))) (pss_nil)))
    (psst_cons (PST.of (ps_if (pt_cmpR (op_eqU hu) (pv 4) (pe_int) (nomark _)) (pss_one (ps_ret (pe_m1 PySem.F.slot_str_join PySem.F.type_str_join mt_join (pe_str) (pe_op op_addU (pe_op op_addU (pe_slice sl_U (pv 2) (po_none) (po_some (pv 3))) (pe_lst (pa_cons (pe_slice sl_U (pe_str) (po_none) (po_some (pe_op op_addU (pe_int) (C8.pe_c c__law_take hr (by decide) (by rfl) (pa_cons (pv 0) (pa_cons (pe_int) (pa_nil))))))) (pa_nil)))) (pe_slice sl_U (pv 2) (po_some (pe_op op_addU (pv 3) (pe_int))) (po_none)))))) (pss_nil)))
    (psst_cons (PST.of (ps_if (pt_cmpR (op_eqU hu) (pv 4) (pe_int) (nomark _)) (pss_one (ps_ret (pe_m1 PySem.F.slot_str_join PySem.F.type_str_join mt_join (pe_str) (pe_op op_addU (pe_slice sl_U (pv 2) (po_none) (po_some (pe_un un_neg (pe_int)))) (pe_lst (pa_cons (pe_ix ix_seq (pe_lst (pa_cons (pe_str) (pa_cons (pe_str) (pa_cons (pe_str) (pa_cons (pe_str) (pa_cons (pe_str) (pa_nil))))))) (C8.pe_c c__law_take hr (by decide) (by rfl) (pa_cons (pv 0) (pa_cons (pe_int) (pa_nil)))) (fun _ _ => rfl)) (pa_nil))))))) (pss_nil)))
    (psst_cons (PST.of (ps_if (pt_cmpR (op_eqU hu) (pv 4) (pe_int) (nomark _)) (pss_one (ps_ret (pe_op op_addU (pe_m0 PySem.F.slot_str_upper PySem.F.type_str_upper mt_upper (pe_slice sl_U (pv 1) (po_none) (po_some (pe_int)))) (pe_slice sl_U (pv 1) (po_some (pe_int)) (po_none))))) (pss_nil)))
    (psst_cons (CwR.pst_if (pt_cmpR (op_eqU hu) (pv 4) (pe_int) (nomark _)) (CwR.psst_one (CwR.pst_ret (pet_if (pt_truth (C8.pe_c c__law_take hr (by decide) (by rfl) (pa_cons (pv 0) (pa_cons (pe_int) (pa_nil)))) (by intro _; rfl)) (pet_repl1 (pv 1)) (CwR.pet_replC (pv 1))))) (PSsT.of pss_nil))
    (psst_cons (PST.of (ps_if (pt_cmpR (op_eqU hu) (pv 4) (pe_int) (nomark _)) (pss_one (ps_ret (pe_ix ix_seq (pe_lst (pa_cons (pe_str) (pa_cons (pe_str) (pa_cons (pe_str) (pa_cons (pe_str) (pa_cons (pe_str) (pa_cons (pe_str) (pa_cons (pe_str) (pa_cons (pe_str) (pa_cons (pe_str) (pa_nil))))))))))) (C8.pe_c c__law_take hr (by decide) (by rfl) (pa_cons (pv 0) (pa_cons (pe_int) (pa_nil)))) (fun _ _ => rfl)))) (pss_nil)))
    (psst_cons (PST.of (ps_if ((pw_and (pt_cmpR (op_eqU hu) (pe_ix ix_seq (pv 2) (pe_int) (fun _ _ => rfl)) (pe_str) (nomark _)) (pw_and (pt_cmpR op_gtU (pe_callB call_lenU (by rfl) C.b_len PySem.boot_len (pa_cons (pv 2) (pa_nil))) (pe_int) (nomark _)) (pw_and (pt_truth (pe_m0 PySem.F.slot_str_isdigit PySem.F.type_str_isdigit mt_isdigit (pe_ix ix_seq (pv 2) (pe_int) (fun _ _ => rfl))) (by intro _; rfl)) (pw_and1 (pt_cmpR op_ltU (pe_callB call_lenU (by rfl) C.b_len PySem.boot_len (pa_cons (pe_ix ix_seq (pv 2) (pe_int) (fun _ _ => rfl)) (pa_nil))) (pe_int) (nomark _)))))).pt) (pss_one (ps_ret (pe_m1 PySem.F.slot_str_join PySem.F.type_str_join mt_join (pe_str) (pe_op op_addU (pe_lst (pa_cons (pe_str) (pa_cons (pe_callTy call_strU (by rfl) C.b_str PyProof.Rows.boot_str (pa_cons (pe_op op_addU (pe_callTy call_intU (by rfl) C.b_int PyProof.Rows.boot_int (pa_cons (pe_ix ix_seq (pv 2) (pe_int) (fun _ _ => rfl)) (pa_nil))) (pe_ix ix_seq (pe_lst (pa_cons (pe_int) (pa_cons (pe_un un_neg (pe_int)) (pa_nil)))) (C8.pe_c c__law_take hr (by decide) (by rfl) (pa_cons (pv 0) (pa_cons (pe_int) (pa_nil)))) (fun _ _ => rfl))) (pa_nil))) (pa_nil)))) (pe_slice sl_U (pv 2) (po_some (pe_int)) (po_none)))))) (pss_nil)))
    (PSsT.of (pss_one (ps_ret (pe_op op_addU (pe_m1 PySem.F.slot_str_join PySem.F.type_str_join mt_join (pe_str) (pe_slice sl_U (pv 2) (po_none) (po_some (pe_un un_neg (pe_int))))) (pe_ix ix_seq (pv 2) (pe_un un_neg (pe_int)) (fun _ _ => rfl)))))))))))))))))))
theorem mk__law_spoilt_row {P : Program} {w : World} {K : PySem.W.Frag} {mg : Str → Option Value} {base : Heap} (C : Ctx K w mg) (c__law_take : C8.Cal P w K mg base 1 "_law_take" (spW K W__law_take) []) (len : ∀ ρ0 Q, W__law_spoilt_row ρ0 Q → ρ0.length = 2) (hx : ∀ ρ0 Q, W__law_spoilt_row ρ0 Q → XS K (t__law_spoilt_row K) (ρ0 ++ List.replicate (N__law_spoilt_row.length - ρ0.length) .unk) (bodyPost ρ0 Q)) : C8.Cal P w K mg base 2 "_law_spoilt_row" (spW K W__law_spoilt_row) [] :=
  fnC C.f__law_spoilt_row sc__law_spoilt_row len (fun _ _ _ _ _ _ us hl => match us, hl with | [_, _], _ => rfl) (fun f cdv A outer s H E hr => d__law_spoilt_row C c__law_take f cdv A outer s H E hr) hx
/-! ### texts of plain signs, and how long -/
def meas (ys : List Str) : Nat := (ys.map (·.length)).sum + ys.length
theorem meas_app (a b : List Str) : meas (a ++ b) = meas a + meas b := by
  unfold meas
  rw [List.map_append, List.sum_append, List.length_append]
  omega
theorem meas_cons (x : Str) (b : List Str) : meas (x :: b) = x.length + 1 + meas b := by
  unfold meas
  rw [List.map_cons, List.sum_cons, List.length_cons]
  omega
theorem meas_nil : meas [] = 0 := rfl
theorem meas_td (n : Nat) (a : List Str) : meas (a.take n) + meas (a.drop n) = meas a := by
  rw [← meas_app, List.take_append_drop]
theorem meas_mem {x : Str} {a : List Str} (h : x ∈ a) : x.length + 1 ≤ meas a := by
  induction a with
  | nil => cases h
  | cons y r ih =>
    rw [meas_cons]
    rcases List.mem_cons.mp h with rfl | h
    · omega
    · have := ih h; omega
def AscL (ys : List Str) : Prop := ∀ y ∈ ys, Asc y
theorem AscL.app {a b : List Str} (h : AscL a) (g : AscL b) : AscL (a ++ b) := fun y hy => (List.mem_append.mp hy).elim (h y) (g y)
theorem AscL.cons {x : Str} {b : List Str} (h : Asc x) (g : AscL b) : AscL (x :: b) := fun y hy => (List.mem_cons.mp hy).elim (fun e => e ▸ h) (g y)
theorem AscL.nil : AscL [] := fun y hy => by cases hy
theorem AscL.take {a : List Str} (h : AscL a) (n : Nat) : AscL (a.take n) := fun y hy => h y (List.mem_of_mem_take hy)
theorem AscL.drop {a : List Str} (h : AscL a) (n : Nat) : AscL (a.drop n) := fun y hy => h y (List.mem_of_mem_drop hy)
theorem asc_lit {l : List Nat} {s : Str} (e : tl s = l) (h : l.all (· < 128) = true) : Asc s := fun c hc => by
  rw [e] at hc
  simpa using List.all_eq_true.mp h c hc
theorem asc_join {s : Str} {ys : List Str} (hs : Asc s) (h : AscL ys) : Asc (Txt.join s ys) := fun c hc => by
  rw [join_tl] at hc
  rcases joinL_mem _ _ _ hc with q | ⟨p, hp, q⟩
  · exact hs c q
  · obtain ⟨y, hy, rfl⟩ := List.mem_map.mp hp
    exact h y hy c q
theorem asc_sp : Asc sp := asc_lit sp_tl (by decide)
theorem asc_nl : Asc nl := asc_lit nl_tl (by decide)
theorem asc_app {a b : Str} (h : Asc a) (g : Asc b) : Asc (a ++ b) := fun c hc => by
  rw [show tl (a ++ b) = tl a ++ tl b from TL.tl_append a b] at hc
  exact (List.mem_append.mp hc).elim (h c) (g c)
theorem len_app (a b : Str) : (a ++ b).length = a.length + b.length := by
  rw [len_tl, len_tl a, len_tl b, show tl (a ++ b) = tl a ++ tl b from TL.tl_append a b, List.length_append]
theorem row_meas {ys : List Str} {m : Nat} (h : meas ys ≤ m + 1) : (row ys).length ≤ m := by
  cases ys with
  | nil => exact Nat.le_trans (show (row []).length ≤ 0 by decide +kernel) (Nat.zero_le _)
  | cons y r =>
    have e := row_len (ys := y :: r) (by simp)
    unfold meas at h
    unfold row
    omega
theorem nl_meas {ys : List Str} {m : Nat} (h : meas ys ≤ m + 1) : (Txt.join nl ys).length ≤ m := by
  cases ys with
  | nil => exact Nat.le_trans (show (Txt.join nl []).length ≤ 0 by decide +kernel) (Nat.zero_le _)
  | cons y r =>
    have e := nl_len (ys := y :: r) (by simp)
    unfold meas at h
    omega
theorem size_meas {ys : List Str} (h : meas ys ≤ 200000) : (ys.map (·.length)).sum + ys.length * sp.length ≤ 16777216 := by
  unfold meas at h
  rw [show sp.length = 1 by decide +kernel]
  omega
theorem size_measN {ys : List Str} (h : meas ys ≤ 200000) : (ys.map (·.length)).sum + ys.length * nl.length ≤ 16777216 := by
  unfold meas at h
  rw [show nl.length = 1 by decide +kernel]
  omega
theorem SplitOk.meas_sp {x : Str} {ps : List Str} (h : SplitOk x 32 sp ps) : meas ps = x.length + 1 := by
  have := row_len h.ne
  rw [h.jn] at this
  unfold meas
  omega
theorem SplitOk.meas_nl {x : Str} {ps : List Str} (h : SplitOk x 10 nl ps) : meas ps = x.length + 1 := by
  have := nl_len h.ne
  rw [h.jn] at this
  unfold meas
  omega
theorem SplitOk.ascL {x y : Str} {s : Nat} {ps : List Str} (h : SplitOk x s y ps) (ha : Asc x) : AscL ps := fun p hp c hc => ha c (h.mem p hp c hc)
theorem upper_asc : ∀ c, c < 128 → (Unicode.upperOf c).all (· < 128) = true := by
  have h : (List.range 128).all (fun c => (Unicode.upperOf c).all (· < 128)) = true := by decide +kernel
  intro c hc
  exact List.all_eq_true.mp h c (List.mem_range.mpr hc)
theorem upper_ok {x : Str} (h : Asc x) : Asc (Txt.upper x) := fun c hc => by
  have hc' : c ∈ (x.cps.mapIdx fun i d => (Unicode.upperOf d).toArray).flatten := by
    rw [← Array.mem_toList_iff]
    exact hc
  rw [Array.mem_flatten] at hc'
  obtain ⟨a, ha, hm⟩ := hc'
  rw [Array.mem_mapIdx] at ha
  obtain ⟨i, hi, rfl⟩ := ha
  have hx : x.cps[i] < 128 := h _ (by rw [Array.mem_toList_iff]; exact Array.getElem_mem hi)
  have := List.all_eq_true.mp (upper_asc _ hx) c (by simpa using hm)
  simpa using this
theorem replS_mem (y z : List Nat) : ∀ (l : List Nat) (k : Nat) (c : Nat), c ∈ StrLaws.replS y z k l → c ∈ z ∨ c ∈ l
  | [], k, c, h => by cases k <;> cases h
  | d :: r, k + 1, c, h => (replS_mem y z r k c h).imp id fun q => List.mem_cons_of_mem _ q
  | d :: r, 0, c, h => by
    unfold StrLaws.replS at h
    split at h
    · rcases List.mem_append.mp h with h | h
      · exact .inl h
      · exact (replS_mem y z r _ c h).imp id fun q => List.mem_cons_of_mem _ q
    · rcases List.mem_cons.mp h with h | h
      · exact .inr (by rw [h]; exact List.mem_cons_self)
      · exact (replS_mem y z r _ c h).imp id fun q => List.mem_cons_of_mem _ q
theorem replace_asc {x y z : Str} (hy : 1 ≤ y.length) (hx : Asc x) (hz : Asc z) : Asc (Txt.replace x y z) := fun c hc => by
  rw [show tl (Txt.replace x y z) = _ from StrLaws.replace_list hy] at hc
  exact (replS_mem _ _ _ _ c hc).elim (hz c) (hx c)
theorem parts_mem (x : Str) (w : Nat) : ∀ (cuts : List Nat) (a : Nat) (p : Str) (c : Nat), p ∈ StrLaws.partsFrom x w a cuts → c ∈ tl p → c ∈ tl x
  | [], a, p, c, h, hc => by
    rw [List.mem_singleton.mp h] at hc
    rw [show tl (Builtin.Str.strSub x a x.length) = _ from TL.tl_strSub x a x.length] at hc
    exact List.mem_of_mem_drop (List.mem_of_mem_take hc)
  | d :: r, a, p, c, h, hc => by
    rcases List.mem_cons.mp h with h | h
    · rw [h, show tl (Builtin.Str.strSub x a d) = _ from TL.tl_strSub x a d] at hc
      exact List.mem_of_mem_drop (List.mem_of_mem_take hc)
    · exact parts_mem x w r _ p c h hc
theorem glue_mem (z : List Nat) : ∀ (r : List Str) (c : Nat), c ∈ StrLaws.glueL z r → c ∈ z ∨ ∃ p ∈ r, c ∈ tl p
  | [], c, h => by cases h
  | p :: r, c, h => by
    unfold StrLaws.glueL at h
    simp only [List.mem_append] at h
    rcases h with h | h | h
    all_goals first
      | exact .inl h
      | exact .inr ⟨p, List.mem_cons_self, h⟩
      | exact (glue_mem z r c h).imp id fun ⟨q, h1, h2⟩ => ⟨q, List.mem_cons_of_mem _ h1, h2⟩
theorem repl1_asc {x y z : Str} (hx : Asc x) (hz : Asc z) : Asc (repl1 x y z) := fun c hc => by
  unfold repl1 at hc
  split at hc
  · exact hx c hc
  · rw [StrLaws.partsBetween_eq] at hc
    obtain ⟨p, r, e⟩ := StrLaws.partsFrom_ne x y.length 0 (Builtin.Str.occurrences x y 0 x.length 1)
    have pm := parts_mem x y.length (Builtin.Str.occurrences x y 0 x.length 1) 0
    rw [e] at hc pm
    rw [show tl (Builtin.Str.glued z (p :: r)) = _ from StrLaws.glued_list z p r] at hc
    rcases List.mem_append.mp (show c ∈ tl p ++ StrLaws.glueL z.cps.toList r from hc) with h | h
    · exact hx c (pm p c List.mem_cons_self h)
    · rcases glue_mem _ _ _ h with h | ⟨q, h1, h2⟩
      · exact hz c h
      · exact hx c (pm q c (List.mem_cons_of_mem _ h1) h2)
theorem ix_strs (xs : List Str) {r : Int} (h0 : 0 ≤ r) (h1 : r < xs.length) : ∃ x ∈ xs, atI (xs.map D.str) r = some (.str x) := by
  obtain ⟨k, rfl⟩ := Int.eq_ofNat_of_zero_le h0
  have hk : k < xs.length := by omega
  exact ⟨xs[k], List.getElem_mem hk, atI_nat (j := k) (by rw [List.getElem?_map, List.getElem?_eq_getElem hk]; rfl)⟩
theorem str_len14 {n : Int} (h : n.natAbs < 10 ^ 13) : (str n).length ≤ 14 := by
  rw [len_tl]
  rcases Int.lt_or_le n 0 with z | z
  · obtain ⟨m, rfl⟩ : ∃ m : Nat, n = -(m : Int) := ⟨n.natAbs, by omega⟩
    rw [str_neg (by omega), List.length_cons]
    have := TL.numL_len (n := m) (k := 13) (by decide) (by omega)
    omega
  · obtain ⟨m, rfl⟩ := Int.eq_ofNat_of_zero_le z
    rw [str_nat]
    have := TL.numL_len (n := m) (k := 13) (by decide) (by omega)
    omega
theorem digits_lt : ∀ (l : List Nat), NumText.AllDigits l → NumText.digitsVal l < 10 ^ l.length := fun l => by
  induction h : l.length generalizing l with
  | zero =>
    intro _
    rw [List.length_eq_zero_iff.mp h]
    decide
  | succ k ih =>
    intro hd
    obtain ⟨l', c, rfl⟩ : ∃ l' c, l = l' ++ [c] := by
      rcases List.eq_nil_or_concat l with z | ⟨l', c, z⟩
      · rw [z] at h; simp at h
      · exact ⟨l', c, by rw [z, List.concat_eq_append]⟩
    have hl' : l'.length = k := by simpa using h
    have := ih l' hl' fun d hd' => hd d (by simp [hd'])
    have hc := hd c (by simp)
    rw [NumText.digitsVal_snoc, Nat.pow_succ]
    omega
theorem str_asc (n : Int) : Asc (str n) := fun c hc => by
  rcases str_mem hc with h | h <;> omega
theorem asc_ws {xs : List Str} (h : xs.all (fun s => s.cps.toList.all (· < 128)) = true) : AscL xs := fun x hx c hc => by
  have := List.all_eq_true.mp (List.all_eq_true.mp h x hx) c hc
  simpa using this
theorem len_ws {xs : List Str} {k : Nat} (h : xs.all (fun s => decide (s.length ≤ k)) = true) {x : Str} (hx : x ∈ xs) : x.length ≤ k := by
  simpa using List.all_eq_true.mp h x hx
theorem x__law_spoilt_row {K : PySem.W.Frag} (ρ0 : List Sl) (Q : D → List Sl → Prop) (h : W__law_spoilt_row ρ0 Q) : XS K (t__law_spoilt_row K) (ρ0 ++ List.replicate (N__law_spoilt_row.length - ρ0.length) .unk) (bodyPost ρ0 Q) := by
  obtain ⟨p, ds, s, n, rfl, hi, ⟨hn, ha⟩, hn3, hq⟩ := h
  show XS K (t__law_spoilt_row K) [.own p ds, .dat (.str s), .unk, .unk, .unk] _
  unfold t__law_spoilt_row
  have hz : Sm s := by unfold Sm; omega
  obtain ⟨ws, hws⟩ : ∃ ws, Txt.split s sp = ws := ⟨_, rfl⟩
  have so := split_sp s
  rw [hws] at so
  have wm := so.meas_sp
  have wa := so.ascL ha
  have wl := so.len
  have wne := so.ne
  have wl1 : 1 ≤ ws.length := List.length_pos_iff.mpr wne
  -- the ways out
  have out : ∀ (t : Str) (ds' : List D) (x y z : Sl), t.length ≤ 3 * n + 100 → Asc t → PoolI ds' → (bodyPost [.own p ds, .dat (.str s)] Q).rt (.str t) [.own p ds', .dat (.str s), x, y, z] := fun t ds' x y z h1 h2 h3 => by
    refine body_rt (by simp [kept, Sl.ad]) ?_
    exact hq t ds' ⟨h1, h2⟩ h3
  have outR : ∀ (ys : List Str) (ds' : List D) (x y z : Sl), meas ys ≤ 3 * n + 100 → AscL ys → PoolI ds' → OJ K (fun v w H Q => rJoin K v [w] H Q) (.str (Str.ofString " ")) (.lst (ys.map .str)) fun d => (bodyPost [.own p ds, .dat (.str s)] Q).rt d [.own p ds', .dat (.str s), x, y, z] := fun ys ds' x y z h1 h2 h3 =>
    oj_join (ys := ys) rfl (size_meas (by omega)) (out _ _ _ _ _ (row_meas (by omega)) (asc_join asc_sp h2) h3)
  repeat walk_at "dn"
  refine xs_set ?_
  repeat walk_at "dn"
  refine oj_split (by decide +kernel) (by unfold sizeLine; omega) ?_
  rw [show Txt.split s (Str.ofString " ") = ws from hws]
  repeat walk_at "dn"
  refine xs_set ?_
  repeat walk_at "dn"
  refine ⟨p, ds, _, rfl, hi, by rw [List.length_map]; omega, by rw [List.length_map]; omega, fun at_ ds1 a0 a1 hi1 => ?_⟩
  rw [List.length_map] at a1
  obtain ⟨k, rfl⟩ := Int.eq_ofNat_of_zero_le a0
  have hk : k < ws.length := by omega
  repeat walk_at "dn"
  refine xs_set ?_
  repeat walk_at "dn"
  refine ⟨p, ds1, 11, rfl, hi1, by decide, by decide, fun kind ds2 k0 k1 hi2 => ?_⟩
  have hwk := List.getElem_mem hk
  have hwkm := meas_mem hwk
  have td := meas_td k ws
  have td1 := meas_td (k + 1) ws
  have tdk : meas (ws.drop k) = ws[k].length + 1 + meas (ws.drop (k + 1)) := by rw [List.drop_eq_getElem_cons hk, meas_cons]
  have ix : atI (ws.map D.str) (k : Int) = some (.str ws[k]) := atI_nat (j := k) (by rw [List.getElem?_map, List.getElem?_eq_getElem hk]; rfl)
  have cto : cutD (ws.map D.str) none (some (k : Int)) = (ws.take k).map .str := cut_to ws D.str k
  have cfr : cutD (ws.map D.str) (some (k : Int)) none = (ws.drop k).map .str := cut_from ws D.str k
  have cf1 : cutD (ws.map D.str) (some ((k : Int) + 1)) none = (ws.drop (k + 1)).map .str := cut_from ws D.str (k + 1)
  have ltd : (ws.take k).length + (ws.drop k).length = ws.length := by rw [← List.length_append, List.take_append_drop]
  have ltd1 : (ws.drop (k + 1)).length ≤ ws.length := by rw [List.length_drop]; omega
  have ltk : (ws.take k).length ≤ ws.length := by rw [List.length_take]; omega
  have hsz : ∀ {m : Nat}, m ≤ 100000 → m ≤ sizeLine := fun h => Nat.le_trans h (by decide)
  repeat walk_at "dn"
  · -- kind 0
    intro _
    repeat walk_at "dn"
    refine et_truI ?_
    repeat walk_at "dn"
    refine ⟨p, ds2, 2, rfl, hi2, by decide, by decide, fun r ds3 r0 r1 hi3 => ?_⟩
    repeat walk_at "dn"
    · intro _
      repeat walk_at "dn"
      refine oj_add_str (by rw [show (Str.ofString " ").length = 1 by decide +kernel]; exact hsz (by omega)) ?_
      exact out _ _ _ _ _ (by rw [len_app, show (Str.ofString " ").length = 1 by decide +kernel]; omega) (asc_app ha asc_sp) hi3
    · intro _
      repeat walk_at "dn"
      refine oj_add_str (by rw [show (Str.ofString " ").length = 1 by decide +kernel]; exact hsz (by omega)) ?_
      exact out _ _ _ _ _ (by rw [len_app, show (Str.ofString " ").length = 1 by decide +kernel]; omega) (asc_app asc_sp ha) hi3
  intro _
  repeat walk_at "dn"
  · -- kind 1
    intro _
    repeat walk_at "dn"
    rw [cto]
    refine oj_add_lst (by simp only [List.length_map, List.length_cons, List.length_nil]; exact hsz (by omega)) ?_
    repeat walk_at "dn"
    rw [cfr]
    refine oj_add_lst (by simp only [List.length_append, List.length_map, List.length_cons, List.length_nil]; exact hsz (by omega)) ?_
    have e : (ws.take k).map D.str ++ [D.str (Str.ofString "")] ++ (ws.drop k).map D.str = (ws.take k ++ [Str.ofString ""] ++ ws.drop k).map D.str := by rw [List.map_append, List.map_append]; rfl
    rw [e]
    refine outR _ _ _ _ _ ?_ ((wa.take k).app (asc_ws (by decide +kernel)) |>.app (wa.drop k)) hi2
    rw [meas_app, meas_app, show meas [Str.ofString ""] = 1 by decide +kernel]
    omega
  intro _
  repeat walk_at "dn"
  · -- kind 2
    intro _
    repeat walk_at "dn"
    rw [cto]
    rw [cf1]
    refine oj_add_lst (by simp only [List.length_map]; exact hsz (by omega)) ?_
    rw [← List.map_append]
    refine outR _ _ _ _ _ ?_ ((wa.take k).app (wa.drop (k + 1))) hi2
    rw [meas_app]
    omega
  intro _
  repeat walk_at "dn"
  · -- kind 3
    intro _
    repeat walk_at "dn"
    rw [cto]
    refine oj_ixL ix ?_
    repeat walk_at "dn"
    refine oj_ixL ix ?_
    repeat walk_at "dn"
    refine oj_add_lst (by simp only [List.length_append, List.length_map, List.length_cons, List.length_nil]; exact hsz (by omega)) ?_
    repeat walk_at "dn"
    rw [cf1]
    refine oj_add_lst (by simp only [List.length_append, List.length_map, List.length_cons, List.length_nil]; exact hsz (by omega)) ?_
    have e : (ws.take k).map D.str ++ [D.str ws[k], D.str ws[k]] ++ (ws.drop (k + 1)).map D.str = (ws.take k ++ [ws[k], ws[k]] ++ ws.drop (k + 1)).map D.str := by rw [List.map_append, List.map_append]; rfl
    rw [e]
    refine outR _ _ _ _ _ ?_ ((wa.take k).app (AscL.cons (wa _ hwk) (AscL.cons (wa _ hwk) AscL.nil)) |>.app (wa.drop (k + 1))) hi2
    rw [meas_app, meas_app, meas_cons, meas_cons, meas_nil]
    omega
  intro _
  repeat walk_at "dn"
  · -- kind 4
    intro _
    repeat walk_at "dn"
    rw [cto]
    refine oj_ixL ix ?_
    refine oj_add_str (by rw [show (Str.ofString "0").length = 1 by decide +kernel]; exact hsz (by omega)) ?_
    repeat walk_at "dn"
    refine oj_add_lst (by simp only [List.length_append, List.length_map, List.length_cons, List.length_nil]; exact hsz (by omega)) ?_
    repeat walk_at "dn"
    rw [cf1]
    refine oj_add_lst (by simp only [List.length_append, List.length_map, List.length_cons, List.length_nil]; exact hsz (by omega)) ?_
    have e : (ws.take k).map D.str ++ [D.str (Str.ofString "0" ++ ws[k])] ++ (ws.drop (k + 1)).map D.str = (ws.take k ++ [Str.ofString "0" ++ ws[k]] ++ ws.drop (k + 1)).map D.str := by rw [List.map_append, List.map_append]; rfl
    rw [e]
    refine outR _ _ _ _ _ ?_ ((wa.take k).app (AscL.cons (asc_app (asc_ws (xs := [Str.ofString "0"]) (by decide +kernel) _ List.mem_cons_self) (wa _ hwk)) AscL.nil) |>.app (wa.drop (k + 1))) hi2
    rw [meas_app, meas_app, meas_cons, meas_nil, len_app, show (Str.ofString "0").length = 1 by decide +kernel]
    omega
  intro _
  repeat walk_at "dn"
  · -- kind 5
    intro _
    repeat walk_at "dn"
    rw [cto]
    repeat walk_at "dn"
    refine ⟨p, ds2, 2, rfl, hi2, by decide, by decide, fun r ds3 r0 r1 hi3 => ?_⟩
    repeat walk_at "dn"
    refine sj_str (by decide +kernel) ?_
    have cl := cutS_length (Str.ofString "1234567890123") none (some (12 + r))
    rw [show (Str.ofString "1234567890123").length = 13 by decide +kernel] at cl
    have ca : Asc (cutS (Str.ofString "1234567890123") none (some (12 + r))) := Asc.cut (asc_ws (xs := [Str.ofString "1234567890123"]) (by decide +kernel) _ List.mem_cons_self) _ _
    repeat walk_at "dn"
    refine oj_add_lst (by simp only [List.length_append, List.length_map, List.length_cons, List.length_nil]; exact hsz (by omega)) ?_
    repeat walk_at "dn"
    rw [cf1]
    refine oj_add_lst (by simp only [List.length_append, List.length_map, List.length_cons, List.length_nil]; exact hsz (by omega)) ?_
    have e : (ws.take k).map D.str ++ [D.str (cutS (Str.ofString "1234567890123") none (some (12 + r)))] ++ (ws.drop (k + 1)).map D.str = (ws.take k ++ [cutS (Str.ofString "1234567890123") none (some (12 + r))] ++ ws.drop (k + 1)).map D.str := by rw [List.map_append, List.map_append]; rfl
    rw [e]
    refine outR _ _ _ _ _ ?_ ((wa.take k).app (AscL.cons ca AscL.nil) |>.app (wa.drop (k + 1))) hi3
    rw [meas_app, meas_app, meas_cons, meas_nil]
    omega
  intro _
  have cin : cutD (ws.map D.str) none (some (-1)) = (ws.take (ws.length - 1)).map .str := by rw [cutD_map, show cutL ws none (some (-1)) = _ from cutL_neg ws 1 (by decide)]
  have tdl := meas_td (ws.length - 1) ws
  have ltl : (ws.take (ws.length - 1)).length ≤ ws.length := by rw [List.length_take]; omega
  repeat walk_at "dn"
  · -- kind 6
    intro _
    repeat walk_at "dn"
    rw [cin]
    repeat walk_at "dn"
    refine ⟨[_, _, _, _, _], rfl, by show 5 ≤ sizeLine; decide, ?_⟩
    repeat walk_at "dn"
    refine ⟨p, ds2, 5, rfl, hi2, by decide, by decide, fun r ds3 r0 r1 hi3 => ?_⟩
    repeat walk_at "dn"
    obtain ⟨x, hx, hix⟩ := ix_strs ["-0", "+1", "1_0", "", "x"] r0 r1
    refine oj_ixL hix ?_
    repeat walk_at "dn"
    refine oj_add_lst (by simp only [List.length_append, List.length_map, List.length_cons, List.length_nil]; exact hsz (by omega)) ?_
    have e : (ws.take (ws.length - 1)).map D.str ++ [D.str x] = (ws.take (ws.length - 1) ++ [x]).map D.str := by rw [List.map_append]; rfl
    rw [e]
    have xl := len_ws (k := 3) (by decide +kernel) hx
    refine outR _ _ _ _ _ ?_ ((wa.take _).app (AscL.cons (asc_ws (by decide +kernel) _ hx) AscL.nil)) hi3
    rw [meas_app, meas_cons, meas_nil]
    omega
  intro _
  repeat walk_at "dn"
  · -- kind 7
    intro _
    repeat walk_at "dn"
    have e1 : tl (cutS s none (some 1)) = (tl s).take 1 := (cutS_tl s _ _).trans (cutL_to _ 1)
    have l1 : (cutS s none (some 1)).length ≤ 1 := by rw [len_tl, e1, List.length_take]; omega
    have l2 := cutS_length s (some 1) none
    refine uj_upper (by omega) ?_
    have l3 := PyProof.Rows.len_upper (cutS s none (some 1))
    repeat walk_at "dn"
    refine oj_add_str (hsz (by omega)) ?_
    exact out _ _ _ _ _ (by rw [len_app]; omega) (asc_app (upper_ok (ha.cut _ _)) (ha.cut _ _)) hi2
  intro _
  repeat walk_at "dn"
  · -- kind 8
    intro _
    repeat walk_at "dn"
    refine et_truI ?_
    repeat walk_at "dn"
    refine ⟨p, ds2, 2, rfl, hi2, by decide, by decide, fun r ds3 r0 r1 hi3 => ?_⟩
    repeat walk_at "dn"
    · intro _
      refine ev_repl1 (ev_var rfl ⟨s, rfl, by rw [show (Str.ofString "  ").length = 2 by decide +kernel]; omega, ?_⟩)
      have := repl1_len s (Str.ofString " ") (Str.ofString "  ")
      rw [show (Str.ofString "  ").length = 2 by decide +kernel] at this
      exact out _ _ _ _ _ (by omega) (repl1_asc ha (asc_ws (xs := [Str.ofString "  "]) (by decide +kernel) _ List.mem_cons_self)) hi3
    · intro _
      refine ev_replC (ev_var rfl ⟨s, rfl, by rw [show (Str.ofString "\t").length = 1 by decide +kernel]; omega, ?_⟩)
      have := TK.replace_len s (Str.ofString " ") (Str.ofString "\t")
      rw [show (Str.ofString "\t").length = 1 by decide +kernel] at this
      exact out _ _ _ _ _ (by omega) (replace_asc (by decide +kernel) ha (asc_ws (xs := [Str.ofString "\t"]) (by decide +kernel) _ List.mem_cons_self)) hi3
  intro _
  repeat walk_at "dn"
  · -- kind 9
    intro _
    repeat walk_at "dn"
    refine ⟨[_, _, _, _, _, _, _, _, _], rfl, by show 9 ≤ sizeLine; decide, ?_⟩
    repeat walk_at "dn"
    refine ⟨p, ds2, 9, rfl, hi2, by decide, by decide, fun r ds3 r0 r1 hi3 => ?_⟩
    repeat walk_at "dn"
    obtain ⟨x, hx, hix⟩ := ix_strs ["unit 1", "pair 0 0 at 0", "first 0 0 num 0", "second 0 len 0 -1", "pair 0 0 1 at 0", "unit 0", "unit", "second 0 spot 0 0", "first 0 num 0"] r0 r1
    refine oj_ixL hix ?_
    have xl := len_ws (k := 20) (by decide +kernel) hx
    exact out _ _ _ _ _ (by omega) (asc_ws (by decide +kernel) _ hx) hi3
  intro _
  -- kind 10
  obtain ⟨w, r, rfl⟩ : ∃ w r, ws = w :: r := by
    cases ws with
    | nil => exact (wne rfl).elim
    | cons w r => exact ⟨w, r, rfl⟩
  have last : OJ K (fun v w H Q => rJoin K v [w] H Q) (.str (Str.ofString " ")) (.lst (cutD ((w :: r).map .str) none (some (-1)))) fun d => EV K (tOp (rIx K) (tVar 2) (tUn (rU fun i => .int (-i)) (tC (.int 1)))) [.own p ds2, .dat (.str s), .dat (.lst ((w :: r).map .str)), .dat (.int k), .dat (.int kind)] fun y ρ2 => OJ K (rAddU K) d y fun d => (bodyPost [.own p ds, .dat (.str s)] Q).rt d ρ2 := by
    rw [cin]
    refine oj_join (ys := (w :: r).take ((w :: r).length - 1)) rfl (size_meas (by omega)) ?_
    repeat walk_at "dn"
    have hl : (w :: r).length - 1 < (w :: r).length := by simp
    refine oj_ixL (d := .str (w :: r)[(w :: r).length - 1]) (atI_map (f := D.str) (atI_neg (k := 1) (by decide) wl1 (List.getElem?_eq_getElem hl))) ?_
    have m1 := meas_mem (List.getElem_mem hl)
    have m2 := row_meas (ys := (w :: r).take ((w :: r).length - 1)) (m := s.length) (by omega)
    refine oj_add_str (by unfold row at m2; exact hsz (by show (Txt.join sp _).length + _ ≤ _; omega)) ?_
    refine out _ _ _ _ _ ?_ (asc_app (asc_join asc_sp (wa.take _)) (wa _ (List.getElem_mem hl))) hi2
    rw [len_app]
    unfold row at m2
    show (Txt.join sp _).length + _ ≤ _
    omega
  repeat walk_at "dn"
  refine oj_ixL atI_zero ?_
  repeat walk_at "dn"
  · intro _
    repeat walk_at "dn"
    · intro hlen
      obtain ⟨a, r', rfl⟩ : ∃ a r', r = a :: r' := by
        cases r with
        | nil => simp at hlen
        | cons a r' => exact ⟨a, r', rfl⟩
      have am : a ∈ w :: a :: r' := by simp
      have aa := wa a am
      have amm := meas_mem am
      repeat walk_at "dn"
      refine et_truB ?_
      repeat walk_at "dn"
      refine oj_ixL (d := .str a) (atI_nat (j := 1) rfl) ?_
      repeat walk_at "dn"
      refine br_b (fun hd => ?_) fun hd => ?_
      · obtain ⟨d1, d2⟩ := (isdigit_iff aa).mp hd
        repeat walk_at "dn"
        refine oj_ixL (d := .str a) (atI_nat (j := 1) rfl) ?_
        repeat walk_at "dn"
        refine cj_lenS (s := a) (hsz (by omega)) ?_
        repeat walk_at "dn"
        · intro hl
          have hal : (tl a).length ≤ 12 := by rw [← len_tl]; omega
          repeat walk_at "dn"
          refine oj_ixL (d := .str a) (atI_nat (j := 1) rfl) ?_
          repeat walk_at "dn"
          refine cj_intS (intText_digits d2 (fun z => by rw [show tl a = [] from z] at d1; simp at d1) (by omega)) (by omega) ?_
          repeat walk_at "dn"
          refine ⟨p, ds2, 2, rfl, hi2, by decide, by decide, fun r0 ds3 r00 r01 hi3 => ?_⟩
          have dv : NumText.digitsVal (tl a) < 10 ^ 12 := Nat.lt_of_lt_of_le (digits_lt (tl a) d2) (Nat.pow_le_pow_right (by decide) hal)
          obtain ⟨v, hv, hix⟩ : ∃ v : Int, (v = 1 ∨ v = -1) ∧ atI [D.int 1, D.int (-1)] r0 = some (.int v) := by
            have : r0 = 0 ∨ r0 = 1 := by omega
            rcases this with rfl | rfl
            · exact ⟨1, .inl rfl, rfl⟩
            · exact ⟨-1, .inr rfl, rfl⟩
          repeat walk_at "dn"
          refine oj_ixL hix ?_
          have nb : (((NumText.digitsVal (tl a) : Nat) : Int) + v).natAbs < 10 ^ 13 := by rcases hv with rfl | rfl <;> omega
          repeat walk_at "dn"
          refine cj_str (by
            by_cases z : (((NumText.digitsVal (tl a) : Nat) : Int) + v).natAbs = 0
            · rw [show ((NumText.digitsVal a.cps.toList : Nat) : Int) = ((NumText.digitsVal (tl a) : Nat) : Int) from rfl, z]; decide
            · have : (((NumText.digitsVal (tl a) : Nat) : Int) + v).natAbs.log2 < 44 := (Nat.log2_lt z).mpr (by omega)
              show (((NumText.digitsVal (tl a) : Nat) : Int) + v).natAbs.log2 < 1920
              omega) ?_
          repeat walk_at "dn"
          rw [cut2]
          have sl := str_len14 nb
          refine oj_add_lst (by simp only [List.length_map, List.length_cons, List.length_nil, List.length_drop] at wl ⊢; exact hsz (by omega)) ?_
          have e : [D.str (Str.ofString "unit"), D.str (Str.ofString (toString (((NumText.digitsVal a.cps.toList : Nat) : Int) + v)))] ++ ((w :: a :: r').drop 2).map D.str = (Str.ofString "unit" :: str (((NumText.digitsVal (tl a) : Nat) : Int) + v) :: r').map D.str := rfl
          rw [e]
          have m3 : meas (w :: a :: r') = meas (w :: a :: r') := rfl
          rw [meas_cons, meas_cons] at wm
          refine outR _ _ _ _ _ ?_ (AscL.cons (asc_ws (xs := [Str.ofString "unit"]) (by decide +kernel) _ List.mem_cons_self) (AscL.cons (str_asc _) fun y hy => wa y (by simp [hy]))) hi3
          rw [meas_cons, meas_cons, show (Str.ofString "unit").length = 4 by decide +kernel]
          omega
        · intro _
          repeat walk_at "dn"
          exact last
      · repeat walk_at "dn"
        exact last
    · intro _
      repeat walk_at "dn"
      exact last
  · intro _
    repeat walk_at "dn"
    exact last
theorem oj_mono {K : PySem.W.Frag} {r : R2} {x y : D} {P Q : D → Prop} (h : OJ K r x y P) (m : ∀ d, P d → Q d) : OJ K r x y Q := fun B H v w R e r1 r2 k => h B H v w R e r1 r2 fun u B' H' d hp => k u B' H' d (m d hp)
theorem sum_ind (c k : Nat) : ∀ n, ((List.range n).map fun i => if i = k then c else 0).sum ≤ c := fun n => by
  have gen : ∀ m, ((List.range m).map fun i => if i = k then c else 0).sum = if k < m then c else 0 := fun m => by
    induction m with
    | zero => rfl
    | succ m ih =>
      rw [List.range_succ, List.map_append, List.sum_append, ih]
      simp only [List.map_cons, List.map_nil, List.sum_cons, List.sum_nil]
      by_cases h1 : k < m
      · rw [show (if k < m then c else 0) = c from if_pos h1, show (if k < m + 1 then c else 0) = c from if_pos (by omega), show (if m = k then c else 0) = 0 from if_neg (by omega)]
        omega
      · rw [show (if k < m then c else 0) = 0 from if_neg h1]
        by_cases h2 : m = k
        · rw [show (if m = k then c else 0) = c from if_pos h2, show (if k < m + 1 then c else 0) = c from if_pos (by omega)]
          omega
        · rw [show (if m = k then c else 0) = 0 from if_neg h2, show (if k < m + 1 then c else 0) = 0 from if_neg (by omega)]; rfl
  rw [gen n]
  split <;> omega
theorem sum_le3 {f a b c : Nat → Nat} (h : ∀ i, f i ≤ a i + b i + c i) : ∀ (l : List Nat), (l.map f).sum ≤ (l.map a).sum + (l.map b).sum + (l.map c).sum
  | [] => by simp
  | x :: l => by
    simp only [List.map_cons, List.sum_cons]
    have := sum_le3 h l
    have := h x
    omega
theorem range_len (R : List Str) : ((List.range R.length).map fun i => (R.getD i "").length).sum = (R.map (·.length)).sum := by
  congr 1
  refine List.ext_getElem (by simp) fun i h1 h2 => ?_
  simp at h1
  simp [List.getD, h1]
/-- two rows in each other's place -/
def swapR (R : List Str) (k o : Nat) : List Str := (List.range R.length).map fun i => if i = k then R.getD o "" else if i = o then R.getD k "" else R.getD i ""
theorem swap_meas (R : List Str) (k o : Nat) : meas (swapR R k o) ≤ meas R + (R.getD o "").length + (R.getD k "").length := by
  unfold meas swapR
  rw [List.map_map, List.length_map, List.length_range]
  have h := sum_le3 (f := fun i => (if i = k then R.getD o "" else if i = o then R.getD k "" else R.getD i "").length) (a := fun i => (R.getD i "").length) (b := fun i => if i = k then (R.getD o "").length else 0) (c := fun i => if i = o then (R.getD k "").length else 0)
    (fun i => by
      by_cases h1 : i = k
      · simp only [if_pos h1]; omega
      · simp only [if_neg h1]
        by_cases h2 : i = o
        · simp only [if_pos h2]; omega
        · simp only [if_neg h2]; omega) (List.range R.length)
  rw [range_len] at h
  have h2 := sum_ind (R.getD o "").length k R.length
  have h3 := sum_ind (R.getD k "").length o R.length
  show ((List.range R.length).map fun i => (if i = k then R.getD o "" else if i = o then R.getD k "" else R.getD i "").length).sum + _ ≤ _
  omega
theorem x__law_spoilt {K : PySem.W.Frag} (ρ0 : List Sl) (Q : D → List Sl → Prop) (h : W__law_spoilt ρ0 Q) : XS K (t__law_spoilt K) (ρ0 ++ List.replicate (N__law_spoilt.length - ρ0.length) .unk) (bodyPost ρ0 Q) := by
  obtain ⟨p, ds, s, n, rfl, hi, ⟨hn, ha⟩, hn3, hq⟩ := h
  show XS K (t__law_spoilt K) [.own p ds, .dat (.str s), .unk, .unk, .unk, .unk, .unk] _
  unfold t__law_spoilt
  obtain ⟨R, hR⟩ : ∃ R, Txt.split s nl = R := ⟨_, rfl⟩
  have so := split_nl s
  rw [hR] at so
  have wm := so.meas_nl
  have wa := so.ascL ha
  have wl := so.len
  have wl1 : 1 ≤ R.length := List.length_pos_iff.mpr so.ne
  have hsz : ∀ {m : Nat}, m ≤ 200000 → m ≤ sizeLine := fun h => Nat.le_trans h (by decide)
  repeat walk_at "dn"
  refine xs_setO (ef_split ?_)
  repeat walk_at "dn"
  refine ⟨by decide +kernel, by unfold sizeLine; omega, ?_⟩
  rw [show Txt.split s (Str.ofString "\n") = R from hR]
  intro q
  repeat walk_at "dn"
  refine xs_set ?_
  repeat walk_at "dn"
  refine ⟨p, ds, _, rfl, hi, by rw [List.length_map]; omega, by rw [List.length_map]; omega, fun at_ ds1 a0 a1 hi1 => ?_⟩
  rw [List.length_map] at a1
  obtain ⟨k, rfl⟩ := Int.eq_ofNat_of_zero_le a0
  have hk : k < R.length := by omega
  repeat walk_at "dn"
  refine xs_set ?_
  repeat walk_at "dn"
  refine ⟨p, ds1, 8, rfl, hi1, by decide, by decide, fun kind ds2 k0 k1 hi2 => ?_⟩
  have hwk := List.getElem_mem hk
  have hwkm := meas_mem hwk
  have td := meas_td k R
  have td1 := meas_td (k + 1) R
  have tdk : meas (R.drop k) = R[k].length + 1 + meas (R.drop (k + 1)) := by rw [List.drop_eq_getElem_cons hk, meas_cons]
  have ixg : ∀ {j : Nat} (hj : j < R.length), atI (R.map D.str) (j : Int) = some (.str R[j]) := fun {j} hj => atI_nat (j := j) (by rw [List.getElem?_map, List.getElem?_eq_getElem hj]; rfl)
  have ix := ixg hk
  have cto : cutD (R.map D.str) none (some (k : Int)) = (R.take k).map .str := cut_to R D.str k
  have cfr : cutD (R.map D.str) (some (k : Int)) none = (R.drop k).map .str := cut_from R D.str k
  have cf1 : cutD (R.map D.str) (some ((k : Int) + 1)) none = (R.drop (k + 1)).map .str := cut_from R D.str (k + 1)
  have ltd : (R.take k).length + (R.drop k).length = R.length := by rw [← List.length_append, List.take_append_drop]
  have ltd1 : (R.drop (k + 1)).length ≤ R.length := by rw [List.length_drop]; omega
  have ltk : (R.take k).length ≤ R.length := by rw [List.length_take]; omega
  refine xs_seq ?_
  refine xs_cut (fun ρ' => ∃ (ds' : List D) (R' : List Str) (z2 x y z w : Sl), ρ' = [.own p ds', .dat (.str s), z2, x, y, z, w] ∧ (z2 = .dat (dStrs R') ∨ z2 = .own q (R'.map .str)) ∧ meas R' ≤ 4 * n + 201 ∧ AscL R' ∧ PoolI ds') ?_ ?_
  · have done : ∀ (ds' : List D) (R' : List Str) (l : List D) (x y z w : Sl), l = R'.map .str → meas R' ≤ 4 * n + 201 → AscL R' → PoolI ds' → ∃ (ds'' : List D) (R'' : List Str) (z2' x' y' z' w' : Sl), [Sl.own p ds', .dat (.str s), .dat (.lst l), x, y, z, w] = [.own p ds'', .dat (.str s), z2', x', y', z', w'] ∧ (z2' = .dat (dStrs R'') ∨ z2' = .own q (R''.map .str)) ∧ meas R'' ≤ 4 * n + 201 ∧ AscL R'' ∧ PoolI ds'' := fun ds' R' l x y z w h1 h2 h3 h4 =>
      ⟨ds', R', _, x, y, z, w, rfl, .inl (by rw [h1]), h2, h3, h4⟩
    repeat walk_at "dn"
    · -- 0
      intro _
      refine xs_set ?_
      repeat walk_at "dn"
      rw [cto, cf1]
      refine oj_add_lst (by simp only [List.length_append, List.length_map, List.length_cons, List.length_nil]; exact hsz (by omega)) ?_
      rw [← List.map_append]
      exact done _ _ _ _ _ _ _ rfl (by rw [meas_app]; omega) ((wa.take k).app (wa.drop (k + 1))) hi2
    intro _
    repeat walk_at "dn"
    · -- 1
      intro _
      refine xs_set ?_
      repeat walk_at "dn"
      rw [cto]
      refine oj_ixL ix ?_
      repeat walk_at "dn"
      refine oj_add_lst (by simp only [List.length_append, List.length_map, List.length_cons, List.length_nil]; exact hsz (by omega)) ?_
      repeat walk_at "dn"
      rw [cfr]
      refine oj_add_lst (by simp only [List.length_append, List.length_map, List.length_cons, List.length_nil]; exact hsz (by omega)) ?_
      have e : (R.take k).map D.str ++ [D.str R[k]] ++ (R.drop k).map D.str = (R.take k ++ [R[k]] ++ R.drop k).map D.str := by rw [List.map_append, List.map_append]; rfl
      exact done _ _ _ _ _ _ _ e (by rw [meas_app, meas_app, meas_cons, meas_nil]; omega) ((wa.take k).app (AscL.cons (wa _ hwk) AscL.nil) |>.app (wa.drop k)) hi2
    intro _
    repeat walk_at "dn"
    · -- 2
      intro _
      repeat walk_at "dn"
      refine xs_set ?_
      repeat walk_at "dn"
      refine ⟨p, ds2, _, rfl, hi2, by rw [List.length_map]; omega, by rw [List.length_map]; omega, fun o ds3 o0 o1 hi3 => ?_⟩
      rw [List.length_map] at o1
      obtain ⟨o, rfl⟩ := Int.eq_ofNat_of_zero_le o0
      have ho : o < R.length := by omega
      have hom := meas_mem (List.getElem_mem ho)
      repeat walk_at "dn"
      refine xs_set (ef_map (gs := [6]) (by decide) ?_).ev
      repeat walk_at "dn"
      refine ⟨_, rfl, by rw [List.length_map]; omega, by rw [List.length_map]; omega, Nat, List.range R.length, fun i => .int i, fun i => .str (if i = k then R.getD o "" else if i = o then R.getD k "" else R.getD i ""), ?_, by rw [List.length_range]; exact hsz (by omega), ?_, fun i hi => ?_, ?_⟩
      · rw [List.length_map, Int.toNat_natCast]
        unfold rangeD
        exact List.map_congr_left fun i _ => by rw [Int.zero_add]
      · intro j hj z hz
        rw [List.mem_singleton.mp hj] at hz
        cases hz
        rfl
      · have hi' : i < R.length := List.mem_range.mp hi
        have gd : ∀ {j : Nat} (hj : j < R.length), R.getD j "" = R[j] := fun {j} hj => by simp [List.getD, hj]
        refine gj_name (by decide) ?_
        repeat walk_at "dn"
        · intro c1
          have c1' : i = k := by omega
          repeat walk_at "dn"
          refine ⟨_, _, _, rfl, rfl, ixg ho, ?_, rfl⟩
          rw [if_pos c1', gd ho]
        · intro c1
          have c1' : ¬ i = k := by omega
          repeat walk_at "dn"
          · intro c2
            have c2' : i = o := by omega
            repeat walk_at "dn"
            refine ⟨_, _, _, rfl, rfl, ixg hk, ?_, rfl⟩
            rw [if_neg c1', if_pos c2', gd hk]
          · intro c2
            have c2' : ¬ i = o := by omega
            repeat walk_at "dn"
            refine ⟨_, _, _, rfl, rfl, ixg hi', ?_, rfl⟩
            rw [if_neg c1', if_neg c2', gd hi']
      · have gd : ∀ {j : Nat} (hj : j < R.length), R.getD j "" = R[j] := fun {j} hj => by simp [List.getD, hj]
        have sm := swap_meas R k o
        rw [gd ho, gd hk] at sm
        repeat walk_at "dn"
        refine done ds3 (swapR R k o) _ _ _ _ _ (by unfold swapR; rw [List.map_map]; rfl) (by omega) (fun y hy => ?_) hi3
        unfold swapR at hy
        obtain ⟨i, hi, rfl⟩ := List.mem_map.mp hy
        have hi' : i < R.length := List.mem_range.mp hi
        split
        · rw [gd ho]; exact wa _ (List.getElem_mem ho)
        · split
          · rw [gd hk]; exact wa _ hwk
          · rw [gd hi']; exact wa _ (List.getElem_mem hi')
    intro _
    repeat walk_at "dn"
    · -- 3
      intro _
      refine xs_set ?_
      repeat walk_at "dn"
      refine et_truI ?_
      repeat walk_at "dn"
      refine ⟨p, ds2, 2, rfl, hi2, by decide, by decide, fun r ds3 r0 r1 hi3 => ?_⟩
      repeat walk_at "dn"
      · intro _
        repeat walk_at "dn"
        rw [cto]
        refine oj_add_lst (by simp only [List.length_append, List.length_map, List.length_cons, List.length_nil]; exact hsz (by omega)) ?_
        repeat walk_at "dn"
        rw [cfr]
        refine oj_add_lst (by simp only [List.length_append, List.length_map, List.length_cons, List.length_nil]; exact hsz (by omega)) ?_
        have e : (R.take k).map D.str ++ [D.str (Str.ofString "")] ++ (R.drop k).map D.str = (R.take k ++ [Str.ofString ""] ++ R.drop k).map D.str := by rw [List.map_append, List.map_append]; rfl
        exact done _ _ _ _ _ _ _ e (by rw [meas_app, meas_app, show meas [Str.ofString ""] = 1 by decide +kernel]; omega) ((wa.take k).app (asc_ws (by decide +kernel)) |>.app (wa.drop k)) hi3
      · intro _
        repeat walk_at "dn"
        refine oj_add_lst (by simp only [List.length_append, List.length_map, List.length_cons, List.length_nil]; exact hsz (by omega)) ?_
        have e : R.map D.str ++ [D.str (Str.ofString "")] = (R ++ [Str.ofString ""]).map D.str := by rw [List.map_append]; rfl
        exact done _ _ _ _ _ _ _ e (by rw [meas_app, show meas [Str.ofString ""] = 1 by decide +kernel]; omega) (wa.app (asc_ws (by decide +kernel))) hi3
    intro _
    repeat walk_at "dn"
    · -- 4
      intro _
      refine xs_set ?_
      repeat walk_at "dn"
      exact done _ _ _ _ _ _ _ cto (by omega) (wa.take k) hi2
    · intro _
      repeat walk_at "dn"
      refine ⟨_, _, _, rfl, rfl, ix, ?_⟩
      repeat walk_at "dn"
      refine ⟨p, ds2, R[k], R[k].length, rfl, hi2, ⟨Nat.le_refl _, wa _ hwk⟩, by omega, fun t ds3 ht hi3 => ?_⟩
      repeat walk_at "dn"
      refine ⟨_, _, k, rfl, rfl, Evl.ixN_nat (by rw [List.length_map]; exact hk), ?_⟩
      have es : R.set k t = R.take k ++ t :: R.drop (k + 1) := by rw [List.set_eq_take_append_cons_drop, if_pos hk]
      refine ⟨ds3, R.set k t, _, _, _, _, _, rfl, .inr (by rw [List.map_set]), ?_, ?_, hi3⟩
      · have := ht.1
        rw [es, meas_app, meas_cons]
        omega
      · rw [es]
        exact (wa.take k).app (AscL.cons ht.2 (wa.drop (k + 1)))
  · rintro ρ' ⟨ds', R', z2, x, y, z, w, rfl, hz2, hm, hA, hi'⟩
    have fin : OJ K (fun v w H Q => rJoin K v [w] H Q) (.str (Str.ofString "\n")) (.lst (R'.map .str)) fun d => Q d [.own p ds', .unk] :=
      oj_join (ys := R') rfl (size_measN (by omega)) (hq _ _ ⟨nl_meas (by omega), asc_join asc_nl hA⟩ hi')
    rcases hz2 with rfl | rfl
    · repeat walk_at "dn"
      exact oj_mono fin fun d hd => body_rt (by simp [kept, Sl.ad]) hd
    · repeat walk_at "dn"
      exact oj_mono fin fun d hd => body_rt (by simp [kept, Sl.ad]) hd
/-! ### the judge and the reader -/
def hd (q : List (List Str)) : Option Str := q.head?.bind (·.head?)
/-- where neither a first nor a second row may follow -/
def cond (st : Int) (q : List (List Str)) : Prop := (st = 1 → hd q ≠ some "first") ∧ (0 < st → hd q ≠ some "second")
theorem judge_nil {m st : Int} : judge m st [] = if 0 < m then some [] else none := rfl
theorem judge_cons {m st : Int} {r : List Str} {rs : List (List Str)} : judge m st (r :: rs) = if (judge1 m st r).1 = true then judge (judge1 m st r).2.1 (judge1 m st r).2.2 rs else some (r :: rs) := rfl
theorem j_bad {m st : Int} {r : List Str} {rs : List (List Str)} (h : (judge1 m st r).1 = false) : judge m st (r :: rs) = some (r :: rs) := by
  rw [judge_cons, h]; rfl
theorem j_good {m st m' st' : Int} {r : List Str} {rs : List (List Str)} (h : judge1 m st r = (true, m', st')) : judge m st (r :: rs) = judge m' st' rs := by
  rw [judge_cons, h]; rfl
theorem ne_lit {a b : Str} {w : Str} (h : w = a) (n : (a == b) = false) : w ≠ b := fun z => by
  rw [← h, z] at n
  simp at n
theorem all_first {m : Int} : ∀ (rs : List (List Str)), match allRd "first" firstR rs with
    | .inl e => judge m 1 rs = some e
    | .inr (_, q) => judge m 1 rs = judge m 1 q ∧ hd q ≠ some "first"
  | [] => ⟨rfl, by simp [hd]⟩
  | [] :: rs => ⟨rfl, by simp [hd]⟩
  | (c :: cs) :: rs => by
    rw [all_cons]
    by_cases h : c = "first"
    · rw [if_pos h]
      have j1 := j_first (m := m) (st := 1) (w := c) (r := cs) (ne_lit h (by decide +kernel)) (ne_lit h (by decide +kernel)) h
      cases hg : firstR (c :: cs) with
      | none =>
        rw [hg] at j1
        exact j_bad (by rw [j1]; rfl)
      | some a =>
        rw [hg] at j1
        have ih := all_first (m := m) rs
        dsimp only
        cases hr : allRd "first" firstR rs with
        | inl e =>
          rw [hr] at ih
          rw [j_good (by rw [j1]; rfl)]
          exact ih
        | inr z =>
          obtain ⟨as, q⟩ := z
          rw [hr] at ih
          dsimp only at ih ⊢
          rw [j_good (by rw [j1]; rfl)]
          exact ih
    · rw [if_neg h]
      exact ⟨rfl, fun z => h (Option.some.inj z)⟩
theorem all_second {m : Int} : ∀ (rs : List (List Str)) (st : Int), 0 < st → match allRd "second" secondR rs with
    | .inl e => judge m st rs = some e
    | .inr (_, q) => (q = rs ∧ hd q ≠ some "second") ∨ (judge m st rs = judge m 2 q ∧ hd q ≠ some "second")
  | [], st, _ => .inl ⟨rfl, by simp [hd]⟩
  | [] :: rs, st, _ => .inl ⟨rfl, by simp [hd]⟩
  | (c :: cs) :: rs, st, hst => by
    rw [all_cons]
    by_cases h : c = "second"
    · rw [if_pos h]
      have j1 := j_second (m := m) (st := st) (w := c) (r := cs) (ne_lit h (by decide +kernel)) (ne_lit h (by decide +kernel)) (ne_lit h (by decide +kernel)) h
      rw [decide_eq_true hst, Bool.true_and] at j1
      cases hg : secondR (c :: cs) with
      | none =>
        rw [hg] at j1
        exact j_bad (by rw [j1]; rfl)
      | some a =>
        rw [hg] at j1
        have ih := all_second (m := m) rs 2 (by decide)
        dsimp only
        cases hr : allRd "second" secondR rs with
        | inl e =>
          rw [hr] at ih
          rw [j_good (by rw [j1]; rfl)]
          exact ih
        | inr z =>
          obtain ⟨as, q⟩ := z
          rw [hr] at ih
          dsimp only at ih ⊢
          refine .inr ?_
          rw [j_good (by rw [j1]; rfl)]
          rcases ih with ⟨e, h2⟩ | ih
          · rw [e] at h2 ⊢
            exact ⟨rfl, h2⟩
          · exact ih
    · rw [if_neg h]
      exact .inl ⟨rfl, fun z => h (Option.some.inj z)⟩
theorem pairR_head {c : Str} {cs : List Str} (h : c ≠ "pair") : pairR (c :: cs) = none := if_neg fun z => h (Option.some.inj z.1)
theorem unitR_head {c : Str} {cs : List Str} (h : c ≠ "unit") : unitR (c :: cs) = none := by
  unfold unitR
  dsimp only
  split
  · exact if_neg fun z => h z.1
  · rfl
/-- what is not a pair's row is wrong where one must stand -/
theorem bad_pair {m st : Int} {c : Str} {cs : List Str} {rs : List (List Str)} (hm : 0 < m) (hc : cond st ((c :: cs) :: rs)) (h : c ≠ "pair") : (judge1 m st (c :: cs)).1 = false := by
  by_cases h1 : c = "unit"
  · rw [j_unit h1, decide_eq_false (by omega)]; rfl
  by_cases h2 : c = "first"
  · rw [j_first h1 h h2]
    have : st ≠ 1 := fun z => hc.1 z (by rw [h2]; rfl)
    rw [decide_eq_false this]; rfl
  by_cases h3 : c = "second"
  · rw [j_second h1 h h2 h3]
    have : ¬ 0 < st := fun z => hc.2 z (by rw [h3]; rfl)
    rw [decide_eq_false this]; rfl
  rw [j_none h1 h h2 h3]
theorem bad_unit {st : Int} {c : Str} {cs : List Str} {rs : List (List Str)} (hc : cond st ((c :: cs) :: rs)) (h : c ≠ "unit") : (judge1 0 st (c :: cs)).1 = false := by
  by_cases h1 : c = "pair"
  · rw [j_pair h h1]; rfl
  by_cases h2 : c = "first"
  · rw [j_first h h1 h2]
    have : st ≠ 1 := fun z => hc.1 z (by rw [h2]; rfl)
    rw [decide_eq_false this]; rfl
  by_cases h3 : c = "second"
  · rw [j_second h h1 h2 h3]
    have : ¬ 0 < st := fun z => hc.2 z (by rw [h3]; rfl)
    rw [decide_eq_false this]; rfl
  rw [j_none h h1 h2 h3]
theorem j_emp {m st : Int} : (judge1 m st []).1 = false := by
  unfold judge1
  rw [if_neg (by simp), if_neg (by simp), if_neg (by simp), if_neg (by simp)]
theorem judge_pair {m st : Int} (hm : 0 < m) (q : List (List Str)) (hc : cond st q) : match pairRd q with
    | .inl e => judge m st q = some e
    | .inr (_, q') => ∃ st', judge m st q = judge (m - 1) st' q' ∧ cond st' q' := by
  unfold pairRd
  cases q with
  | nil => show judge m st [] = some []; rw [judge_nil, if_pos hm]
  | cons r rs =>
    cases r with
    | nil => exact j_bad j_emp
    | cons c cs =>
      by_cases h : c = "pair"
      · have j1 := j_pair (m := m) (st := st) (w := c) (r := cs) (ne_lit h (by decide +kernel)) h
        rw [decide_eq_true hm, Bool.true_and] at j1
        unfold oneRd
        dsimp only
        cases hg : pairR (c :: cs) with
        | none =>
          rw [hg] at j1
          exact j_bad (by rw [j1]; rfl)
        | some a =>
          rw [hg] at j1
          have e0 : judge m st ((c :: cs) :: rs) = judge (m - 1) 1 rs := j_good (by rw [j1]; rfl)
          dsimp only
          have f := all_first (m := m - 1) rs
          cases h2 : allRd "first" firstR rs with
          | inl e => rw [h2] at f; rw [e0]; exact f
          | inr z =>
            obtain ⟨as, q1⟩ := z
            rw [h2] at f
            dsimp only at f ⊢
            have g := all_second (m := m - 1) q1 1 (by decide)
            cases h3 : allRd "second" secondR q1 with
            | inl e => rw [h3] at g; rw [e0, f.1]; exact g
            | inr z =>
              obtain ⟨bs, q2⟩ := z
              rw [h3] at g
              dsimp only at g ⊢
              rcases g with ⟨g1, g2⟩ | ⟨g1, g2⟩
              · refine ⟨1, by rw [e0, f.1, g1], fun _ => by rw [g1]; exact f.2, fun _ => g2⟩
              · exact ⟨2, by rw [e0, f.1, g1], (fun z => absurd z (by decide)), fun _ => g2⟩
      · unfold oneRd
        dsimp only
        rw [pairR_head h]
        exact j_bad (bad_pair hm hc h)
theorem judge_pairs : ∀ (n : Nat) (q : List (List Str)) (st : Int), cond st q → match pairsRd n q with
    | .inl e => judge n st q = some e
    | .inr (_, q') => ∃ st', judge n st q = judge 0 st' q' ∧ cond st' q'
  | 0, q, st, hc => ⟨st, rfl, hc⟩
  | n + 1, q, st, hc => by
    rw [pairs_more]
    have f := judge_pair (m := ((n + 1 : Nat) : Int)) (by omega) q hc
    cases h1 : pairRd q with
    | inl e => rw [h1] at f; exact f
    | inr z =>
      obtain ⟨p, q1⟩ := z
      rw [h1] at f
      obtain ⟨st', f1, f2⟩ := f
      rw [show ((n + 1 : Nat) : Int) - 1 = (n : Int) by omega] at f1
      have ih := judge_pairs n q1 st' f2
      dsimp only
      cases h2 : pairsRd n q1 with
      | inl e => rw [h2] at ih; rw [f1]; exact ih
      | inr z =>
        obtain ⟨ps, q2⟩ := z
        rw [h2] at ih
        dsimp only at ih ⊢
        rw [f1]
        exact ih
theorem cond0 {q : List (List Str)} : cond 0 q := ⟨(fun z => absurd z (by decide)), fun z => absurd z (by decide)⟩
theorem paper_more {n : Nat} {r : List Str} {rs : List (List Str)} : paperRd (n + 1) (r :: rs) = (match unitRd (r :: rs) with
    | .inl e => .inl e
    | .inr (u, r1) => match paperRd n r1 with
      | .inl e => .inl e
      | .inr us => .inr (u :: us)) := rfl
theorem judge_paper : ∀ (n : Nat) (q : List (List Str)) (st : Int), q.length < n → cond st q → judge 0 st q = (match paperRd n q with | .inl e => some e | .inr _ => none)
  | 0, q, st, h, _ => by omega
  | n + 1, [], st, _, _ => rfl
  | n + 1, [] :: rs, st, h, hc => j_bad j_emp
  | n + 1, (c :: cs) :: rs, st, h, hc => by
    rw [paper_more]
    by_cases hh : c = "unit"
    · have j1 := j_unit (m := 0) (st := st) (w := c) (r := cs) hh
      rw [decide_eq_true rfl, Bool.true_and] at j1
      cases hg : unitR (c :: cs) with
      | none =>
        rw [hg] at j1
        have e1 : unitRd ((c :: cs) :: rs) = .inl ((c :: cs) :: rs) := by unfold unitRd oneRd; dsimp only; rw [hg]
        rw [e1]
        exact j_bad (by rw [j1]; rfl)
      | some x =>
        rw [hg] at j1
        obtain ⟨c1, _, _, _⟩ := unitR_ok hg
        have e0 : judge 0 st ((c :: cs) :: rs) = judge ((x.1.toNat : Nat) : Int) 0 rs := by
          rw [show ((x.1.toNat : Nat) : Int) = x.1 by omega]
          exact j_good (by rw [j1]; rfl)
        have e1 : unitRd ((c :: cs) :: rs) = (match pairsRd x.1.toNat rs with
          | .inl e => .inl e
          | .inr (ps, r2) => .inr (⟨x.2, ps⟩, r2)) := by
          unfold unitRd oneRd
          dsimp only
          rw [hg]
          try rfl
        rw [e0, e1]
        have f := judge_pairs x.1.toNat rs 0 cond0
        cases h2 : pairsRd x.1.toNat rs with
        | inl e => rw [h2] at f; exact f
        | inr z =>
          obtain ⟨ps, q1⟩ := z
          rw [h2] at f
          obtain ⟨st', f1, f2⟩ := f
          have hl := (pairs_suf h2).length_le
          simp only [List.length_cons] at h
          have ih := judge_paper n q1 st' (by omega) f2
          rw [f1, ih]
          dsimp only
          cases paperRd n q1 <;> rfl
    · have e1 : unitRd ((c :: cs) :: rs) = .inl ((c :: cs) :: rs) := by unfold unitRd oneRd; dsimp only; rw [unitR_head hh]
      rw [e1]
      exact j_bad (bad_unit hc hh)
theorem judge_read (t : Str) : judge 0 0 (rowsOf t) = (match readT t with | .inl e => some e | .inr _ => none) := judge_paper _ _ _ (Nat.lt_succ_self _) cond0
theorem nums_ok {ws : List Str} {ns : List Int} (h : nums ws = some ns) : ws = ns.map str ∧ ∀ n ∈ ns, NumOk n := by
  have hs := nums_some h
  clear h
  induction ws generalizing ns with
  | nil =>
    cases ns with
    | nil => exact ⟨rfl, fun n hn => by cases hn⟩
    | cons a b => cases hs
  | cons a b ih =>
    cases ns with
    | nil => cases hs
    | cons n ns =>
      rw [List.map_cons, List.map_cons] at hs
      injection hs with e1 e2
      obtain ⟨q1, q2⟩ := numW_some e1
      obtain ⟨q3, q4⟩ := ih e2
      refine ⟨by rw [q1, q3]; rfl, fun m hm => ?_⟩
      rcases List.mem_cons.mp hm with rfl | hm
      · exact q2
      · exact q4 m hm
theorem nums_str {ns : List Int} (h : ∀ n ∈ ns, NumOk n) : nums (ns.map str) = some ns := by
  induction ns with
  | nil => rfl
  | cons n ns ih =>
    rw [List.map_cons, nums_cons, numW_str (h n List.mem_cons_self), ih fun m hm => h m (List.mem_cons_of_mem _ hm)]
    rfl
theorem toldN_inv {w : Str} {k : Nat} (h : toldN w = some k) : (w = "num" ∧ k = 2) ∨ (w = "len" ∧ k = 3) ∨ (w = "spot" ∧ k = 4) := by
  unfold toldN at h
  split at h
  · exact .inl ⟨by assumption, (Option.some.inj h).symm⟩
  · split at h
    · exact .inr (.inl ⟨by assumption, (Option.some.inj h).symm⟩)
    · split at h
      · exact .inr (.inr ⟨by assumption, (Option.some.inj h).symm⟩)
      · cases h
theorem toldR_ok {ws : List Str} {t : Told} (h : toldR ws = some t) : ws = toldWs t ∧ ToldWf t := by
  cases ws with
  | nil => cases h
  | cons w r =>
    unfold toldR at h
    dsimp only at h
    split at h
    · rename_i hk
      cases hn : nums r with
      | none => rw [hn] at h; cases h
      | some ns =>
        rw [hn] at h
        obtain rfl := Option.some.inj h
        obtain ⟨e, ok⟩ := nums_ok hn
        refine ⟨by rw [e]; rfl, ?_, ok⟩
        have hl := nums_len hn
        simp only [List.length_cons] at hk
        rcases toldN_inv hk with ⟨a, b⟩ | ⟨a, b⟩ | ⟨a, b⟩
        · exact .inl ⟨a, by show ns.length = 1; omega⟩
        · exact .inr (.inl ⟨a, by show ns.length = 2; omega⟩)
        · exact .inr (.inr ⟨a, by show ns.length = 3; omega⟩)
    · cases h
theorem toldR_enc {t : Told} (h : ToldWf t) : toldR (toldWs t) = some t := by
  obtain ⟨w, ns⟩ := t
  unfold toldR toldWs
  dsimp only
  rw [if_pos, nums_str h.2]
  · rfl
  · simp only [List.length_cons, List.length_map]
    rcases h.1 with ⟨a, b⟩ | ⟨a, b⟩ | ⟨a, b⟩ <;> dsimp only at a b <;> rw [a, b]
    · decide +kernel
    · decide +kernel
    · decide +kernel
theorem firstR_ok {w : Str} {r : List Str} {f : (Int × Int) × Told} (h : firstR (w :: r) = some f) : r = str f.1.1 :: str f.1.2 :: toldWs f.2 ∧ NumOk f.1.1 ∧ NumOk f.1.2 ∧ ToldWf f.2 := by
  match r, h with
  | a :: b :: r, h =>
    unfold firstR at h
    dsimp only at h
    cases h1 : nums [a, b] with
    | none => rw [h1] at h; cases h
    | some ns =>
      cases h2 : toldR r with
      | none =>
        rw [h1, h2] at h
        split at h
        · rename_i q
          cases q
        · cases h
      | some t =>
        rw [h1, h2] at h
        obtain ⟨e, ok⟩ := nums_ok h1
        obtain ⟨e2, ok2⟩ := toldR_ok h2
        match ns, e, h, ok with
        | [x, y], e, h, ok =>
          obtain rfl := Option.some.inj h
          rw [List.map_cons, List.map_cons, List.map_nil] at e
          injection e with e3 e4
          injection e4 with e4 _
          exact ⟨by rw [e3, e4, e2], ok x (by simp), ok y (by simp), ok2⟩
theorem secondR_ok {w : Str} {r : List Str} {f : Int × Told} (h : secondR (w :: r) = some f) : r = str f.1 :: toldWs f.2 ∧ NumOk f.1 ∧ ToldWf f.2 := by
  match r, h with
  | a :: r, h =>
    unfold secondR at h
    dsimp only at h
    cases h1 : nums [a] with
    | none => rw [h1] at h; cases h
    | some ns =>
      cases h2 : toldR r with
      | none =>
        rw [h1, h2] at h
        split at h
        · rename_i q
          cases q
        · cases h
      | some t =>
        rw [h1, h2] at h
        obtain ⟨e, ok⟩ := nums_ok h1
        obtain ⟨e2, ok2⟩ := toldR_ok h2
        match ns, e, h, ok with
        | [x], e, h, ok =>
          obtain rfl := Option.some.inj h
          rw [List.map_cons, List.map_nil] at e
          injection e with e3 _
          exact ⟨by rw [e3, e2], ok x (by simp), ok2⟩
theorem firstR_enc {f : (Int × Int) × Told} (h1 : NumOk f.1.1) (h2 : NumOk f.1.2) (h3 : ToldWf f.2) : firstR (firstWs f) = some f := by
  obtain ⟨⟨a, b⟩, t⟩ := f
  unfold firstR firstWs
  dsimp only
  rw [show [str a, str b] = [a, b].map str from rfl, nums_str (by intro n hn; simp at hn; rcases hn with rfl | rfl <;> assumption), toldR_enc h3]
theorem secondR_enc {f : Int × Told} (h1 : NumOk f.1) (h3 : ToldWf f.2) : secondR (secondWs f) = some f := by
  obtain ⟨a, t⟩ := f
  unfold secondR secondWs
  dsimp only
  rw [show [str a] = [a].map str from rfl, nums_str (by intro n hn; simp at hn; rcases hn with rfl; assumption), toldR_enc h3]
theorem unitR_enc {u : Uni} (h : UniWf u) : unitR (unitWs u) = some ((u.pairs.length : Int), u.goes) := by
  unfold unitR unitWs
  dsimp only
  rw [show str u.pairs.length :: u.goes.map str = ((u.pairs.length : Int) :: u.goes).map str from rfl, nums_str (by
    intro n hn
    rcases List.mem_cons.mp hn with rfl | hn
    · exact h.pn
    · exact h.go n hn)]
  have := h.ne
  exact if_pos ⟨rfl, by omega⟩
theorem pairR_ok {ws : List Str} {x : List (Int × Int) × Int} (h : pairR ws = some x) : ws = Str.ofString "pair" :: (x.1.flatMap (fun a => [str a.1, str a.2]) ++ [Str.ofString "at", str x.2]) ∧ (x.1.length = 1 ∨ x.1.length = 2) ∧ (∀ a ∈ x.1, NumOk a.1 ∧ NumOk a.2) ∧ NumOk x.2 := by
  unfold pairR at h
  split at h
  · rename_i hc
    obtain ⟨hh, hl, ha⟩ := hc
    rcases hl with hl | hl
    · match ws, hl, hh, ha, h with
      | [w0, a, b, c, d], _, hh, ha, h =>
        obtain rfl : w0 = Str.ofString "pair" := Option.some.inj hh
        obtain rfl : c = Str.ofString "at" := Option.some.inj ha
        have h' : (nums [a, b, d]).bind (fun ns => ns.getLast?.map fun z => (two ns.dropLast, z)) = some x := h
        cases hn : nums [a, b, d] with
        | none => rw [hn] at h'; cases h'
        | some ns =>
          rw [hn] at h'
          obtain ⟨e, ok⟩ := nums_ok hn
          obtain ⟨i, j, k, rfl⟩ := len3 (show ns.length = 3 from nums_len hn)
          obtain rfl : ([(i, j)], k) = x := Option.some.inj h'
          injection e with e1 e
          injection e with e2 e
          injection e with e3 _
          refine ⟨by rw [e1, e2, e3]; rfl, .inl rfl, fun z hz => ?_, ok k (by simp)⟩
          rw [List.mem_singleton.mp hz]
          exact ⟨ok i (by simp), ok j (by simp)⟩
    · match ws, hl, hh, ha, h with
      | [w0, a, b, c, d, w5, f], _, hh, ha, h =>
        obtain rfl : w0 = Str.ofString "pair" := Option.some.inj hh
        obtain rfl : w5 = Str.ofString "at" := Option.some.inj ha
        have h' : (nums [a, b, c, d, f]).bind (fun ns => ns.getLast?.map fun z => (two ns.dropLast, z)) = some x := h
        cases hn : nums [a, b, c, d, f] with
        | none => rw [hn] at h'; cases h'
        | some ns =>
          rw [hn] at h'
          obtain ⟨e, ok⟩ := nums_ok hn
          obtain ⟨i, j, k, l, m, rfl⟩ := len5 (show ns.length = 5 from nums_len hn)
          obtain rfl : ([(i, j), (k, l)], m) = x := Option.some.inj h'
          injection e with e1 e
          injection e with e2 e
          injection e with e3 e
          injection e with e4 e
          injection e with e5 _
          refine ⟨by rw [e1, e2, e3, e4, e5]; rfl, .inr rfl, fun z hz => ?_, ok m (by simp)⟩
          simp only [List.mem_cons, List.not_mem_nil, or_false] at hz
          rcases hz with rfl | rfl
          · exact ⟨ok i (by simp), ok j (by simp)⟩
          · exact ⟨ok k (by simp), ok l (by simp)⟩
  · cases h
theorem pairR_enc {p : Pair} (h : PairWf p) : pairR (pairWs p) = some (p.stack, p.place) := by
  have hp := h.pl
  rcases h.st with c | c
  · match hs : p.stack, c, h.stn with
    | [a], _, hn =>
      obtain ⟨h1, h2⟩ := hn a (by simp)
      have e : pairWs p = [Str.ofString "pair", str a.1, str a.2, Str.ofString "at", str p.place] := by unfold pairWs; rw [hs]; rfl
      rw [e]
      unfold pairR
      rw [if_pos ⟨rfl, .inl rfl, rfl⟩]
      show (nums [str a.1, str a.2, str p.place]).bind _ = _
      rw [show [str a.1, str a.2, str p.place] = [a.1, a.2, p.place].map str from rfl, nums_str (by intro n hn; simp at hn; rcases hn with rfl | rfl | rfl <;> assumption)]
      rfl
  · match hs : p.stack, c, h.stn with
    | [a, b], _, hn =>
      obtain ⟨h1, h2⟩ := hn a (by simp)
      obtain ⟨h3, h4⟩ := hn b (by simp)
      have e : pairWs p = [Str.ofString "pair", str a.1, str a.2, str b.1, str b.2, Str.ofString "at", str p.place] := by unfold pairWs; rw [hs]; rfl
      rw [e]
      unfold pairR
      rw [if_pos ⟨rfl, .inr rfl, rfl⟩]
      show (nums [str a.1, str a.2, str b.1, str b.2, str p.place]).bind _ = _
      rw [show [str a.1, str a.2, str b.1, str b.2, str p.place] = [a.1, a.2, b.1, b.2, p.place].map str from rfl, nums_str (by intro n hn; simp at hn; rcases hn with rfl | rfl | rfl | rfl | rfl <;> assumption)]
      rfl
/-! ### whole papers: read, written -/
theorem all_ok {α : Type} {w : Str} {g : List Str → Option α} {enc : α → List Str} {Pr : α → Prop} (h : ∀ r a, g (w :: r) = some a → w :: r = enc a ∧ Pr a) : ∀ {rs q : List (List Str)} {as : List α}, allRd w g rs = .inr (as, q) → rs = as.map enc ++ q ∧ ∀ a ∈ as, Pr a
  | [], q, as, e => by
    injection e with e
    injection e with e1 e2
    rw [← e1, ← e2]
    exact ⟨rfl, fun a ha => by cases ha⟩
  | [] :: rs, q, as, e => by
    injection e with e
    injection e with e1 e2
    rw [← e1, ← e2]
    exact ⟨rfl, fun a ha => by cases ha⟩
  | (c :: cs) :: rs, q, as, e => by
    rw [all_cons] at e
    split at e
    · rename_i hc
      subst hc
      cases hg : g (c :: cs) with
      | none => rw [hg] at e; cases e
      | some a =>
        rw [hg] at e
        dsimp only at e
        cases hr : allRd c g rs with
        | inl z => rw [hr] at e; cases e
        | inr z =>
          obtain ⟨bs, q'⟩ := z
          rw [hr] at e
          injection e with e
          injection e with e1 e2
          obtain ⟨h1, h2⟩ := all_ok h hr
          obtain ⟨h3, h4⟩ := h cs a hg
          rw [← e1, ← e2, h1, h3]
          refine ⟨rfl, fun b hb => ?_⟩
          rcases List.mem_cons.mp hb with rfl | hb
          · exact h4
          · exact h2 b hb
    · injection e with e
      injection e with e1 e2
      rw [← e1, ← e2]
      exact ⟨rfl, fun a ha => by cases ha⟩
theorem pairRd_ok {rs q : List (List Str)} {p : Pair} (h : pairRd rs = .inr (p, q)) : rs = pairRs p ++ q ∧ PairWf p := by
  unfold pairRd at h
  cases h1 : oneRd pairR rs with
  | inl e => rw [h1] at h; cases h
  | inr z1 =>
    obtain ⟨a1, r1⟩ := z1
    rw [h1] at h
    dsimp only at h
    obtain ⟨w, rfl, hw⟩ := one_mem h1
    obtain ⟨ew, k1, k2, k3⟩ := pairR_ok hw
    cases h2 : allRd "first" firstR r1 with
    | inl e => rw [h2] at h; cases h
    | inr z2 =>
      obtain ⟨a2, r2⟩ := z2
      rw [h2] at h
      dsimp only at h
      obtain ⟨e2, f2⟩ := all_ok (enc := firstWs) (Pr := fun f => NumOk f.1.1 ∧ NumOk f.1.2 ∧ ToldWf f.2) (fun r a hg => by
        obtain ⟨x1, x2⟩ := firstR_ok hg
        exact ⟨by rw [x1]; rfl, x2⟩) h2
      cases h3 : allRd "second" secondR r2 with
      | inl e => rw [h3] at h; cases h
      | inr z3 =>
        obtain ⟨a3, r3⟩ := z3
        rw [h3] at h
        obtain ⟨e3, f3⟩ := all_ok (enc := secondWs) (Pr := fun f => NumOk f.1 ∧ ToldWf f.2) (fun r a hg => by
          obtain ⟨x1, x2⟩ := secondR_ok hg
          exact ⟨by rw [x1]; rfl, x2⟩) h3
        injection h with h
        injection h with hp hq
        subst hp hq
        refine ⟨?_, ⟨k1, k2, k3, f2, f3⟩⟩
        rw [e2, e3, ew]
        unfold pairRs pairWs
        simp
theorem pairsRd_ok : ∀ {n : Nat} {rs q : List (List Str)} {ps : List Pair}, pairsRd n rs = .inr (ps, q) → rs = ps.flatMap pairRs ++ q ∧ (∀ p ∈ ps, PairWf p) ∧ ps.length = n
  | 0, rs, q, ps, h => by
    injection h with h
    injection h with h1 h2
    rw [← h1, ← h2]
    exact ⟨rfl, (fun p hp => by cases hp), rfl⟩
  | n + 1, rs, q, ps, h => by
    rw [pairs_more] at h
    cases h1 : pairRd rs with
    | inl e => rw [h1] at h; cases h
    | inr z1 =>
      obtain ⟨a1, r1⟩ := z1
      rw [h1] at h
      dsimp only at h
      obtain ⟨e1, f1⟩ := pairRd_ok h1
      cases h2 : pairsRd n r1 with
      | inl e => rw [h2] at h; cases h
      | inr z2 =>
        obtain ⟨a2, r2⟩ := z2
        rw [h2] at h
        obtain ⟨e2, f2, l2⟩ := pairsRd_ok h2
        injection h with h
        injection h with hp hq
        subst hp hq
        refine ⟨by rw [e1, e2]; simp, fun p hp => ?_, by simp [l2]⟩
        rcases List.mem_cons.mp hp with rfl | hp
        · exact f1
        · exact f2 p hp
theorem unitRd_ok {rs q : List (List Str)} {u : Uni} (h : unitRd rs = .inr (u, q)) : rs = unitRs u ++ q ∧ UniWf u := by
  unfold unitRd at h
  cases h1 : oneRd unitR rs with
  | inl e => rw [h1] at h; cases h
  | inr z1 =>
    obtain ⟨a1, r1⟩ := z1
    rw [h1] at h
    dsimp only at h
    obtain ⟨w, rfl, hw⟩ := one_mem h1
    obtain ⟨k1, k2, k3, ew⟩ := unitR_ok hw
    cases h2 : pairsRd a1.1.toNat r1 with
    | inl e => rw [h2] at h; cases h
    | inr z2 =>
      obtain ⟨a2, r2⟩ := z2
      rw [h2] at h
      obtain ⟨e2, f2, l2⟩ := pairsRd_ok h2
      injection h with h
      injection h with hp hq
      subst hp hq
      have hl : (a2.length : Int) = a1.1 := by omega
      refine ⟨?_, ⟨k3, by show 1 ≤ a2.length; omega, by show NumOk (a2.length : Int); rw [hl]; exact k2, f2⟩⟩
      rw [e2, ew]
      unfold unitRs unitWs
      show _ = (Str.ofString "unit" :: str (a2.length : Int) :: _) :: _ ++ _
      rw [hl]
      rfl
theorem paperRd_ok : ∀ {n : Nat} {rs : List (List Str)} {p : Paper}, rs.length < n → paperRd n rs = .inr p → rs = paperRs p ∧ PaperWf p
  | 0, rs, p, h, _ => by omega
  | n + 1, [], p, _, e => by
    injection e with e
    rw [← e]
    exact ⟨rfl, fun u hu => by cases hu⟩
  | n + 1, r :: rs, p, h, e => by
    rw [paper_more] at e
    cases h1 : unitRd (r :: rs) with
    | inl z => rw [h1] at e; cases e
    | inr z1 =>
      obtain ⟨u, r1⟩ := z1
      rw [h1] at e
      dsimp only at e
      obtain ⟨e1, f1⟩ := unitRd_ok h1
      have hl := (unit_suf h1).2
      cases h2 : paperRd n r1 with
      | inl z => rw [h2] at e; cases e
      | inr us =>
        rw [h2] at e
        obtain ⟨e2, f2⟩ := paperRd_ok (by simp only [List.length_cons] at h hl; omega) h2
        injection e with e
        rw [← e]
        refine ⟨by rw [e1, e2]; unfold paperRs; simp, fun u hu => ?_⟩
        rcases List.mem_cons.mp hu with rfl | hu
        · exact f1
        · exact f2 u hu
/-! the other way -/
theorem all_enc {α : Type} {w : Str} {g : List Str → Option α} {enc : α → List Str} : ∀ {as : List α} {q : List (List Str)}, (∀ a ∈ as, (enc a).head? = some w ∧ g (enc a) = some a) → hd q ≠ some w → allRd w g (as.map enc ++ q) = .inr (as, q)
  | [], [], _, _ => rfl
  | [], [] :: q, _, _ => rfl
  | [], (c :: cs) :: q, _, hq => by
    show allRd w g ((c :: cs) :: q) = _
    rw [all_cons, if_neg (fun z => hq (congrArg some z))]
  | a :: as, q, h, hq => by
    obtain ⟨h1, h2⟩ := h a List.mem_cons_self
    have ih := all_enc (q := q) (fun b hb => h b (List.mem_cons_of_mem _ hb)) hq
    cases he : enc a with
    | nil => rw [he] at h1; cases h1
    | cons c cs =>
      rw [he] at h1 h2
      show allRd w g (enc a :: (as.map enc ++ q)) = _
      rw [he, all_cons, if_pos (Option.some.inj h1), h2, ih]
/-- no first and no second row follows -/
def ends (q : List (List Str)) : Prop := hd q ≠ some "first" ∧ hd q ≠ some "second"
theorem pairRd_enc {p : Pair} {q : List (List Str)} (h : PairWf p) (hq : ends q) : pairRd (pairRs p ++ q) = .inr (p, q) := by
  have e1 : pairRs p ++ q = pairWs p :: (p.firsts.map firstWs ++ (p.seconds.map secondWs ++ q)) := by unfold pairRs; simp
  have hs : hd (p.seconds.map secondWs ++ q) ≠ some "first" := by
    cases hh : p.seconds with
    | nil => exact hq.1
    | cons a b =>
      intro z
      have : (Str.ofString "second") = Str.ofString "first" := Option.some.inj z
      exact absurd this (by decide +kernel)
  have a1 := all_enc (g := firstR) (enc := firstWs) (w := "first") (as := p.firsts) (q := p.seconds.map secondWs ++ q) (fun f hf => ⟨rfl, firstR_enc (h.fi f hf).1 (h.fi f hf).2.1 (h.fi f hf).2.2⟩) hs
  have a2 := all_enc (g := secondR) (enc := secondWs) (w := "second") (as := p.seconds) (q := q) (fun f hf => ⟨rfl, secondR_enc (h.se f hf).1 (h.se f hf).2⟩) hq.2
  rw [e1]
  unfold pairRd oneRd
  dsimp only
  rw [pairR_enc h]
  dsimp only
  rw [a1]
  dsimp only
  rw [a2]
theorem hd_pairs {ps : List Pair} {q : List (List Str)} (hq : ends q) : ends (ps.flatMap pairRs ++ q) := by
  cases ps with
  | nil => exact hq
  | cons p r =>
    have e : hd ((p :: r).flatMap pairRs ++ q) = some (Str.ofString "pair") := rfl
    exact ⟨by rw [e]; intro z; exact absurd (Option.some.inj z) (by decide +kernel), by rw [e]; intro z; exact absurd (Option.some.inj z) (by decide +kernel)⟩
theorem pairsRd_enc : ∀ {ps : List Pair} {q : List (List Str)}, (∀ p ∈ ps, PairWf p) → ends q → pairsRd ps.length (ps.flatMap pairRs ++ q) = .inr (ps, q)
  | [], q, _, _ => rfl
  | p :: ps, q, h, hq => by
    have ih := pairsRd_enc (q := q) (fun x hx => h x (List.mem_cons_of_mem _ hx)) hq
    have e : (p :: ps).flatMap pairRs ++ q = pairRs p ++ (ps.flatMap pairRs ++ q) := by simp
    rw [e, List.length_cons, pairs_more, pairRd_enc (h p List.mem_cons_self) (hd_pairs hq)]
    dsimp only
    rw [ih]
theorem unitRd_enc {u : Uni} {q : List (List Str)} (h : UniWf u) (hq : ends q) : unitRd (unitRs u ++ q) = .inr (u, q) := by
  have e1 : unitRs u ++ q = unitWs u :: (u.pairs.flatMap pairRs ++ q) := by unfold unitRs; simp
  rw [e1]
  unfold unitRd oneRd
  dsimp only
  rw [unitR_enc h]
  dsimp only
  rw [Int.toNat_natCast, pairsRd_enc h.pr hq]
theorem paperRd_enc : ∀ {n : Nat} {p : Paper}, (paperRs p).length < n → PaperWf p → paperRd n (paperRs p) = .inr p
  | 0, p, h, _ => by omega
  | n + 1, [], _, _ => rfl
  | n + 1, u :: us, h, w => by
    have e : paperRs (u :: us) = unitRs u ++ paperRs us := by unfold paperRs; simp
    have e2 : unitRs u ++ paperRs us = unitWs u :: (u.pairs.flatMap pairRs ++ paperRs us) := by unfold unitRs; simp
    have hq : ends (paperRs us) := by
      cases us with
      | nil => exact ⟨by simp [hd, paperRs], by simp [hd, paperRs]⟩
      | cons v vs =>
        have e : hd (paperRs (v :: vs)) = some (Str.ofString "unit") := rfl
        exact ⟨by rw [e]; intro z; exact absurd (Option.some.inj z) (by decide +kernel), by rw [e]; intro z; exact absurd (Option.some.inj z) (by decide +kernel)⟩
    have hl : (paperRs us).length < n := by
      rw [e, e2, List.length_cons, List.length_append] at h
      omega
    have ih := paperRd_enc (n := n) (p := us) hl fun x hx => w x (List.mem_cons_of_mem _ hx)
    have u1 := unitRd_enc (w u List.mem_cons_self) hq
    rw [e2] at u1
    rw [e, e2, paper_more, u1]
    dsimp only
    rw [ih]
/-! ### texts of papers -/
theorem readT_ok {t : Str} {p : Paper} (h : readT t = .inr p) : paperT p = t ∧ PaperWf p := by
  obtain ⟨e, wf⟩ := paperRd_ok (Nat.lt_succ_self _) h
  refine ⟨?_, wf⟩
  unfold paperT
  rw [← e]
  unfold rowsOf
  by_cases c : t.length = 0
  · rw [if_pos c, len0.mp c]
    decide +kernel
  · rw [if_neg c, List.map_map]
    have : (row ∘ fun r => Txt.split r sp) = fun r => r := funext fun r => (split_sp r).jn
    rw [this, List.map_id']
    exact (split_nl t).jn
/-- words without blank and newline -/
def plainW (w : Str) : Prop := ∀ c ∈ tl w, 32 < c ∧ c < 128
theorem plain_str (n : Int) : plainW (str n) := fun c hc => by rcases str_mem hc with h | h <;> omega
theorem plain_lit {w : Str} (h : w.cps.toList.all (fun c => decide (32 < c) && decide (c < 128)) = true) : plainW w := fun c hc => by
  have := List.all_eq_true.mp h c hc
  simpa using this
theorem plain_tag {t : Told} (h : ToldWf t) : plainW t.1 := by
  rcases h.1 with ⟨z, _⟩ | ⟨z, _⟩ | ⟨z, _⟩ <;> rw [z] <;> exact plain_lit (by decide +kernel)
structure RowOk (ws : List Str) : Prop where
  ne : ws ≠ []
  pl : ∀ w ∈ ws, plainW w
  ms : 5 ≤ meas ws
theorem meas_strs {ns : List Int} (h : ∀ n ∈ ns, NumOk n) : meas (ns.map str) ≤ ns.length * 14 := by
  induction ns with
  | nil => exact Nat.le_refl _
  | cons n ns ih =>
    rw [List.map_cons, meas_cons, List.length_cons]
    have := ih fun m hm => h m (List.mem_cons_of_mem _ hm)
    have := str_len (h n List.mem_cons_self)
    omega
theorem told_pl {t : Told} (h : ToldWf t) : (∀ w ∈ toldWs t, plainW w) ∧ meas (toldWs t) ≤ 47 := by
  refine ⟨fun w hw => ?_, ?_⟩
  · unfold toldWs at hw
    rcases List.mem_cons.mp hw with rfl | hw
    · exact plain_tag h
    · obtain ⟨n, _, rfl⟩ := List.mem_map.mp hw
      exact plain_str n
  · unfold toldWs
    rw [meas_cons]
    have h1 := meas_strs h.2
    have h2 := toldWf_len h
    have h3 : t.1.length ≤ 4 := by
      rcases h.1 with ⟨z, _⟩ | ⟨z, _⟩ | ⟨z, _⟩ <;> rw [z] <;> decide +kernel
    omega
theorem unit_row {u : Uni} (h : UniWf u) : RowOk (unitWs u) ∧ (u.goes.length ≤ 3 → meas (unitWs u) ≤ 81) := by
  have h1 := meas_strs h.go
  have h2 := str_len h.pn
  have e : meas (unitWs u) = 5 + ((str (u.pairs.length : Int)).length + 1 + meas (u.goes.map str)) := by
    unfold unitWs
    rw [meas_cons, meas_cons]
    rfl
  refine ⟨⟨by unfold unitWs; simp, fun w hw => ?_, by omega⟩, fun hg => by omega⟩
  unfold unitWs at hw
  rcases List.mem_cons.mp hw with rfl | hw
  · exact plain_lit (by decide +kernel)
  · rcases List.mem_cons.mp hw with rfl | hw
    · exact plain_str _
    · obtain ⟨n, _, rfl⟩ := List.mem_map.mp hw
      exact plain_str n
theorem meas_stack : ∀ {l : List (Int × Int)}, (∀ a ∈ l, NumOk a.1 ∧ NumOk a.2) → meas (l.flatMap fun a => [str a.1, str a.2]) ≤ l.length * 28
  | [], _ => Nat.le_refl _
  | a :: l, h => by
    rw [List.flatMap_cons, meas_app, meas_cons, meas_cons, meas_nil, List.length_cons]
    have := meas_stack (l := l) fun b hb => h b (List.mem_cons_of_mem _ hb)
    have := str_len (h a List.mem_cons_self).1
    have := str_len (h a List.mem_cons_self).2
    omega
theorem pair_row {p : Pair} (h : PairWf p) : RowOk (pairWs p) ∧ meas (pairWs p) ≤ 81 := by
  have h1 := meas_stack h.stn
  have h2 := str_len h.pl
  have e : meas (pairWs p) = 5 + (meas (p.stack.flatMap fun a => [str a.1, str a.2]) + (3 + ((str p.place).length + 1 + 0))) := by
    unfold pairWs
    rw [meas_cons, meas_app, meas_cons, meas_cons]
    rfl
  refine ⟨⟨by unfold pairWs; simp, fun w hw => ?_, by omega⟩, by rcases h.st with c | c <;> omega⟩
  unfold pairWs at hw
  rcases List.mem_cons.mp hw with rfl | hw
  · exact plain_lit (by decide +kernel)
  · rcases List.mem_append.mp hw with hw | hw
    · obtain ⟨a, _, ha⟩ := List.mem_flatMap.mp hw
      simp at ha
      rcases ha with rfl | rfl <;> exact plain_str _
    · simp at hw
      rcases hw with rfl | rfl
      · exact plain_lit (by decide +kernel)
      · exact plain_str _
theorem first_row {f : (Int × Int) × Told} (h1 : NumOk f.1.1) (h2 : NumOk f.1.2) (h3 : ToldWf f.2) : RowOk (firstWs f) ∧ meas (firstWs f) ≤ 81 := by
  obtain ⟨t1, t2⟩ := told_pl h3
  have e : meas (firstWs f) = 6 + ((str f.1.1).length + 1 + ((str f.1.2).length + 1 + meas (toldWs f.2))) := by
    unfold firstWs
    rw [meas_cons, meas_cons, meas_cons]
    rfl
  have := str_len h1
  have := str_len h2
  refine ⟨⟨by unfold firstWs; simp, fun w hw => ?_, by omega⟩, by omega⟩
  unfold firstWs at hw
  rcases List.mem_cons.mp hw with rfl | hw
  · exact plain_lit (by decide +kernel)
  · rcases List.mem_cons.mp hw with rfl | hw
    · exact plain_str _
    · rcases List.mem_cons.mp hw with rfl | hw
      · exact plain_str _
      · exact t1 w hw
theorem second_row {f : Int × Told} (h1 : NumOk f.1) (h3 : ToldWf f.2) : RowOk (secondWs f) ∧ meas (secondWs f) ≤ 81 := by
  obtain ⟨t1, t2⟩ := told_pl h3
  have e : meas (secondWs f) = 7 + ((str f.1).length + 1 + meas (toldWs f.2)) := by
    unfold secondWs
    rw [meas_cons, meas_cons]
    rfl
  have := str_len h1
  refine ⟨⟨by unfold secondWs; simp, fun w hw => ?_, by omega⟩, by omega⟩
  unfold secondWs at hw
  rcases List.mem_cons.mp hw with rfl | hw
  · exact plain_lit (by decide +kernel)
  · rcases List.mem_cons.mp hw with rfl | hw
    · exact plain_str _
    · exact t1 w hw
theorem rows_ok {p : Paper} (h : PaperWf p) : ∀ r ∈ paperRs p, RowOk r := fun r hr => by
  obtain ⟨u, hu, hr⟩ := List.mem_flatMap.mp hr
  unfold unitRs at hr
  rcases List.mem_cons.mp hr with rfl | hr
  · exact (unit_row (h u hu)).1
  · obtain ⟨q, hq, hr⟩ := List.mem_flatMap.mp hr
    have w := (h u hu).pr q hq
    unfold pairRs at hr
    rcases List.mem_cons.mp hr with rfl | hr
    · exact (pair_row w).1
    · rcases List.mem_append.mp hr with hr | hr
      · obtain ⟨f, hf, rfl⟩ := List.mem_map.mp hr
        exact (first_row (w.fi f hf).1 (w.fi f hf).2.1 (w.fi f hf).2.2).1
      · obtain ⟨f, hf, rfl⟩ := List.mem_map.mp hr
        exact (second_row (w.se f hf).1 (w.se f hf).2).1
theorem RowOk.mem {r : List Str} (h : RowOk r) : ∀ c ∈ tl (row r), c = 32 ∨ (32 < c ∧ c < 128) := fun c hc => by
  unfold row at hc
  rw [join_tl, sp_tl] at hc
  rcases joinL_mem _ _ _ hc with z | ⟨x, hx, z⟩
  · exact .inl (List.mem_singleton.mp z)
  · obtain ⟨w, hw, rfl⟩ := List.mem_map.mp hx
    exact .inr (h.pl w hw c z)
theorem RowOk.split {r : List Str} (h : RowOk r) : Txt.split (row r) sp = r :=
  TL.split_join (y := sp) (s := 32) (S := []) sp_tl (by decide +kernel) h.ne fun w hw z => by
    have := h.pl w hw 32 z
    omega
theorem rowsOf_paper {p : Paper} (h : PaperWf p) : rowsOf (paperT p) = paperRs p := by
  have ok := rows_ok h
  cases hp : paperRs p with
  | nil =>
    have : paperT p = Txt.join nl [] := by unfold paperT; rw [hp]; rfl
    unfold rowsOf
    rw [this, if_pos (by decide +kernel)]
  | cons r rs =>
    have hne : (paperRs p).map row ≠ [] := by rw [hp]; simp
    have hl := nl_len hne
    have hr := ok r (by rw [hp]; exact List.mem_cons_self)
    have rl := row_len hr.ne
    have rm := hr.ms
    unfold meas at rm
    have n0 : ¬ (paperT p).length = 0 := by
      intro z
      unfold paperT at z
      rw [z, hp, List.map_cons, List.map_cons, List.sum_cons] at hl
      simp only [List.length_cons] at hl
      unfold row at hl
      omega
    unfold rowsOf
    rw [if_neg n0]
    have e : Txt.split (paperT p) nl = (paperRs p).map row := TL.split_join (y := nl) (s := 10) (S := []) nl_tl (by decide +kernel) hne fun x hx z => by
      obtain ⟨r', hr', rfl⟩ := List.mem_map.mp hx
      rcases (ok r' hr').mem 10 z with q | q <;> omega
    rw [e, List.map_map, ← hp]
    conv => rhs; rw [← List.map_id (paperRs p)]
    exact List.map_congr_left fun r hr => (ok r hr).split
theorem readT_paper {p : Paper} (h : PaperWf p) : readT (paperT p) = .inr p := by
  unfold readT
  rw [rowsOf_paper h]
  exact paperRd_enc (Nat.lt_succ_self _) h
theorem paper_asc {p : Paper} (h : PaperWf p) : Asc (paperT p) := asc_join asc_nl fun x hx c hc => by
  obtain ⟨r, hr, rfl⟩ := List.mem_map.mp hx
  rcases (rows_ok h r hr).mem c hc with q | q <;> omega
/-! ### the size of a drawn paper's text -/
theorem drawn_rows {p : Paper} (h : PaperWf p) (z : PaperSz p) : (paperRs p).length ≤ 66 ∧ ∀ r ∈ paperRs p, meas r ≤ 81 := by
  have fm : ∀ {α : Type} (f : α → List (List Str)) (l : List α) (k : Nat), (∀ a ∈ l, (f a).length ≤ k) → (l.flatMap f).length ≤ l.length * k := fun {α} f l k => by
    induction l with
    | nil => intro _; exact Nat.zero_le _
    | cons a l ih =>
      intro hh
      rw [List.flatMap_cons, List.length_append, List.length_cons, Nat.succ_mul]
      have := ih fun b hb => hh b (List.mem_cons_of_mem _ hb)
      have := hh a List.mem_cons_self
      omega
  have hp : ∀ u ∈ p, ∀ q ∈ u.pairs, (pairRs q).length ≤ 7 := fun u hu q hq => by
    obtain ⟨z1, z2⟩ := (z.2 u hu).2.2 q hq
    unfold pairRs
    simp only [List.length_cons, List.length_append, List.length_map]
    omega
  have hu : ∀ u ∈ p, (unitRs u).length ≤ 22 := fun u hu => by
    have := fm pairRs u.pairs 7 (hp u hu)
    have := (z.2 u hu).2.1
    unfold unitRs
    simp only [List.length_cons]
    omega
  refine ⟨?_, fun r hr => ?_⟩
  · have h1 := fm unitRs p 22 hu
    have h2 := z.1
    unfold paperRs
    omega
  · obtain ⟨u, hu, hr⟩ := List.mem_flatMap.mp hr
    unfold unitRs at hr
    rcases List.mem_cons.mp hr with rfl | hr
    · exact (unit_row (h u hu)).2 (z.2 u hu).1
    · obtain ⟨q, hq, hr⟩ := List.mem_flatMap.mp hr
      have w := (h u hu).pr q hq
      unfold pairRs at hr
      rcases List.mem_cons.mp hr with rfl | hr
      · exact (pair_row w).2
      · rcases List.mem_append.mp hr with hr | hr
        · obtain ⟨f, hf, rfl⟩ := List.mem_map.mp hr
          exact (first_row (w.fi f hf).1 (w.fi f hf).2.1 (w.fi f hf).2.2).2
        · obtain ⟨f, hf, rfl⟩ := List.mem_map.mp hr
          exact (second_row (w.se f hf).1 (w.se f hf).2).2
theorem drawn_len {p : Paper} (h : PaperWf p) (z : PaperSz p) : (paperT p).length ≤ 5346 := by
  obtain ⟨h1, h2⟩ := drawn_rows h z
  have gen : ∀ l : List (List Str), (∀ r ∈ l, meas r ≤ 81) → meas (l.map row) ≤ l.length * 81 := fun l => by
    induction l with
    | nil => intro _; exact Nat.le_refl _
    | cons r l ih =>
      intro hh
      rw [List.map_cons, meas_cons, List.length_cons, Nat.succ_mul]
      have := ih fun b hb => hh b (List.mem_cons_of_mem _ hb)
      have := row_meas (m := 80) (hh r List.mem_cons_self)
      omega
  have := gen _ h2
  exact nl_meas (by omega)
/-! ### data that may be shown and compared -/
structure G (n w : Nat) (d : D) : Prop where
  ex : ∃ p, py d = some p ∧ p.plain = true ∧ p.canLay0 = true ∧ p.depth ≤ n ∧ p.weight ≤ w ∧ p.intsShort 13 = true ∧ p.showable = true
theorem G.mono {n m w v : Nat} {d : D} (h : G n w d) (h1 : n ≤ m) (h2 : w ≤ v) : G m v d := by
  obtain ⟨p, a, b, c, e, f, g⟩ := h.ex
  exact ⟨p, a, b, c, Nat.le_trans e h1, Nat.le_trans f h2, g⟩
theorem G.non : G 0 45 .non := ⟨.none, rfl, rfl, rfl, Nat.le_refl _, by decide, rfl, rfl⟩
theorem G.int {i : Int} (h : NumOk i) : G 0 45 (.int i) := by
  have hs := str_len h
  have ho := h
  unfold NumOk at h
  refine ⟨.int i, rfl, rfl, rfl, Nat.le_refl _, ?_, ?_, ?_⟩
  · show (if (i == 0) = true then 0 else i.natAbs.log2 + 1) ≤ 45
    split
    · omega
    · rename_i c
      have : i.natAbs.log2 < 40 := (Nat.log2_lt (by intro z; apply c; simp; omega)).mpr (by omega)
      omega
  · exact decide_eq_true hs
  · exact decide_eq_true (str_ok ho)
theorem G.str {s : Str} {k : Nat} (h : Asc s) (hl : s.length ≤ k) : G 0 k (.str s) := by
  refine ⟨.str s, rfl, rfl, ?_, Nat.le_refl _, hl, rfl, rfl⟩
  show s.cps.all (· < 0x110000) = true
  rw [← Array.all_toList, List.all_eq_true]
  intro c hc
  have := h c hc
  simp
  omega
theorem G.all {n w : Nat} : ∀ {ds : List D}, (∀ d ∈ ds, G n w d) → ∃ ps, pys ds = some ps ∧ PyData.plainAll ps = true ∧ PyData.canLayAll0 ps = true ∧ PyData.depthAll ps ≤ n ∧ PyData.weightAll ps ≤ ds.length * (w + 1) ∧ PyData.intsShortAll 13 ps = true ∧ PyData.showableAll ps = true
  | [], _ => ⟨[], rfl, rfl, rfl, Nat.zero_le _, Nat.zero_le _, rfl, rfl⟩
  | d :: ds, h => by
    obtain ⟨p, a1, a2, a3, a4, a5, a6, a7⟩ := (h d List.mem_cons_self).ex
    obtain ⟨ps, b1, b2, b3, b4, b5, b6, b7⟩ := G.all fun x hx => h x (List.mem_cons_of_mem _ hx)
    refine ⟨p :: ps, ?_, ?_, ?_, ?_, ?_, ?_, ?_⟩
    · unfold pys
      rw [a1, b1]
    · show (p.plain && PyData.plainAll ps) = true
      rw [a2, b2]; rfl
    · show (p.canLay0 && PyData.canLayAll0 ps) = true
      rw [a3, b3]; rfl
    · show max p.depth (PyData.depthAll ps) ≤ n
      omega
    · show p.weight + 1 + PyData.weightAll ps ≤ (ds.length + 1) * (w + 1)
      rw [Nat.succ_mul]
      omega
    · show (p.intsShort 13 && PyData.intsShortAll 13 ps) = true
      rw [a6, b6]; rfl
    · show (p.showable && PyData.showableAll ps) = true
      rw [a7, b7]; rfl
theorem G.tup {n w k : Nat} {ds : List D} (h : ∀ d ∈ ds, G n w d) (hk : ds.length ≤ k) : G (n + 1) (k * (w + 1)) (.tup ds) := by
  obtain ⟨ps, b1, b2, b3, b4, b5, b6, b7⟩ := G.all h
  refine ⟨.tuple ps, ?_, b2, b3, ?_, ?_, b6, b7⟩
  · unfold py
    rw [b1]
    rfl
  · show PyData.depthAll ps + 1 ≤ n + 1
    omega
  · show PyData.weightAll ps ≤ _
    exact Nat.le_trans b5 (Nat.mul_le_mul_right _ hk)
theorem G.told {t : Told} (h : ToldWf t) : G 1 184 (dTold t) := by
  refine G.tup (n := 0) (w := 45) (k := 4) (fun d hd => ?_) (by have := toldWf_len h; simp; omega)
  rcases List.mem_cons.mp hd with rfl | hd
  · refine (G.str (k := 4) (fun c hc => (plain_tag h c hc).2) ?_).mono (Nat.le_refl _) (by decide)
    rcases h.1 with ⟨z, _⟩ | ⟨z, _⟩ | ⟨z, _⟩ <;> rw [z] <;> decide +kernel
  · obtain ⟨n, hn, rfl⟩ := List.mem_map.mp hd
    exact G.int (h.2 n hn)
theorem G.two {n w : Nat} {a b : D} (h1 : G n w a) (h2 : G n w b) : G (n + 1) (2 * (w + 1)) (.tup [a, b]) := G.tup (fun d hd => by
  simp at hd
  rcases hd with rfl | rfl
  · exact h1
  · exact h2) (Nat.le_refl _)
theorem G.map {α : Type} {n w k : Nat} {f : α → D} {l : List α} (h : ∀ a ∈ l, G n w (f a)) (hk : l.length ≤ k) : G (n + 1) (k * (w + 1)) (.tup (l.map f)) := G.tup (fun d hd => by
  obtain ⟨a, ha, rfl⟩ := List.mem_map.mp hd
  exact h a ha) (by rw [List.length_map]; exact hk)
theorem G.paper {p : Paper} (h : PaperWf p) (z : PaperSz p) : G 8 100000 (dPaper p) := by
  refine (G.map (n := 6) (w := 26744) (k := 3) (fun u hu => ?_) z.1).mono (by decide) (by decide)
  have hw := h u hu
  obtain ⟨z1, z2, z3⟩ := z.2 u hu
  refine G.two (n := 5) (w := 13371) ?_ ?_
  · exact (G.map (n := 0) (w := 45) (k := 3) (fun n hn => G.int (hw.go n hn)) z1).mono (by decide) (by decide)
  · refine (G.map (n := 4) (w := 4456) (k := 3) (fun q hq => ?_) z2).mono (by decide) (by decide)
    have qw := hw.pr q hq
    obtain ⟨z4, z5⟩ := z3 q hq
    refine G.tup (n := 3) (w := 1113) (k := 4) (fun d hd => ?_) (Nat.le_refl _)
    simp at hd
    rcases hd with rfl | rfl | rfl | rfl
    · exact (G.map (n := 1) (w := 92) (k := 2) (fun a ha => G.two (G.int (qw.stn a ha).1) (G.int (qw.stn a ha).2)) (by rcases qw.st with c | c <;> omega)).mono (by decide) (by decide)
    · exact (G.int qw.pl).mono (by decide) (by decide)
    · refine (G.map (n := 2) (w := 370) (k := 3) (fun f hf => ?_) z4).mono (by decide) (by decide)
      obtain ⟨f1, f2, f3⟩ := qw.fi f hf
      exact G.two (n := 1) (w := 184) ((G.two (G.int f1) (G.int f2)).mono (by decide) (by decide)) (G.told f3)
    · refine (G.map (n := 2) (w := 370) (k := 3) (fun f hf => ?_) z5).mono (by decide) (by decide)
      obtain ⟨f1, f3⟩ := qw.se f hf
      exact (G.two (n := 1) (w := 184) ((G.int f1).mono (by decide) (by decide)) (G.told f3)).mono (by decide) (by decide)
theorem x__law_alike {K : PySem.W.Frag} (ρ0 : List Sl) (Q : D → List Sl → Prop) (h : W__law_alike ρ0 Q) : XS K (t__law_alike K) (ρ0 ++ List.replicate (N__law_alike.length - ρ0.length) .unk) (bodyPost ρ0 Q) := by
  obtain ⟨x, p, rfl, hp, he, hs, hl, hw, hz, hq⟩ := h
  show XS K (t__law_alike K) [.dat x, .dat x] _
  unfold t__law_alike
  refine xs_ret (ev_andV (ev_op (ev_var rfl (ev_var rfl (oj_eqD hp hp hs hs ⟨_, rfl, fun _ => ?_, fun z => ?_⟩)))))
  · refine ev_op (ev_cb (ea_cons (ev_var rfl (ea_nil ⟨[x], rfl, cj_repr hp hl hw hz ?_⟩))))
    refine ev_cb (ea_cons (ev_var rfl (ea_nil ⟨[x], rfl, cj_repr hp hl hw hz ?_⟩)))
    refine oj_eq_str ?_
    rw [decide_eq_true rfl]
    exact body_rt (by simp [kept, Sl.ad]) hq
  · rw [he] at z; cases z
/-! ### the pool -/
def W_pool : List D → (List D → Prop) → Prop := fun es P => ∃ ns : List Int, es = [.rol (ns.map .int)] ∧ ns.length ≤ 63 ∧ ∀ ds, PoolI ds → P ds
/-! ### law -/
abbrev N_law : List Str := ["script", "pool", "paper", "text", "lap", "spoilt", "due", "row", "told"]
theorem sc_law : FnScope N_law ["script"] (defScope s_law) := ⟨rfl, rfl, rfl, by decide +kernel, rfl, by decide +kernel, by decide +kernel⟩
def t_law (K : PySem.W.Frag) : TS :=
    tSeq (tAsg (tCall (spN K W_pool) [] E0 (tCons (tVar 0) (tNil))) (gName 1))
    (tSeq (tAsg (tCall (spW K W__law_drawn_paper) [] E0 (tCons (tVar 1) (tCons (tC (.int 3)) (tNil)))) (gName 2))
    (tSeq (tAsg (tCall (spW K W__law_text) [] E0 (tCons (tVar 2) (tNil))) (gName 3))
    (tSeq (tIfS (tNot (tTru K (tCall (spW K W__law_alike) [] E0 (tCons (tCall (spW K W__law_row_told) [] E0 (tCons (tVar 3) (tNil))) (tCons (tTup (tCons (tC (.int 0)) (tCons (tVar 2) (tNil)))) (tNil)))))) (tRet (tC (.bl false))) (tNext))
    (tSeq (tFor (iRng1 (tCons (tC (.int 4)) (tNil))) (gName 4) (tSeq (tAsg (tCall (spW K W__law_spoilt) [] E0 (tCons (tVar 1) (tCons (tVar 3) (tNil)))) (gName 5))
    (tSeq (tIfS (tTest (tOp (rEqU K) (tCall (spW K W__law_take) [] E0 (tCons (tVar 1) (tCons (tC (.int 4)) (tNil)))) (tC (.int 0)))) (tAsg (tCall (spW K W__law_spoilt) [] E0 (tCons (tVar 1) (tCons (tVar 5) (tNil)))) (gName 5)) (tNext))
    (tSeq (tAsg (tCall (spW K W__law_wrong_row) [] E0 (tCons (tVar 5) (tNil))) (gName 6))
    (tSeq (tAsg (tCall (spW K W__law_row_told) [] E0 (tCons (tVar 5) (tNil))) (gTup K 2 (gCons (gName 7) (gCons (gName 8) (gNil)))))
    (tSeq (tIfS (tNot (tTru K (tCall (spW K W__law_alike) [] E0 (tCons (tVar 7) (tCons (tVar 6) (tNil)))))) (tRet (tC (.bl false))) (tNext))
    (tSeq (tIfS (tAnd (tTest (tOp (rEqU K) (tVar 6) (tC (.int 0)))) (tNot (tTru K (tCall (spW K W__law_alike) [] E0 (tCons (tCall (spW K W__law_text) [] E0 (tCons (tVar 8) (tNil))) (tCons (tVar 5) (tNil))))))) (tRet (tC (.bl false))) (tNext))
    (tIfS (tAnd (tTest (tOp (rEqU K) (tVar 6) (tC (.int 0)))) (tNot (tTru K (tCall (spW K W__law_alike) [] E0 (tCons (tCall (spW K W_write_likeness) [] E0 (tCons (tVar 8) (tNil))) (tCons (tVar 5) (tNil))))))) (tRet (tC (.bl false))) (tNext)))))))))
    (tRet (tCall (spW K W__law_alike) [] E0 (tCons (tCall (spW K W_read_likeness) [] E0 (tCons (tVar 3) (tNil))) (tCons (tVar 2) (tNil)))))))))
theorem d_law {P : Program} {w : World} {K : PySem.W.Frag} {mg : Str → Option Value} {base : Heap} (C : Ctx K w mg) {f__law_alike : Addr} {fd__law_alike : FuncData} (G__law_alike : FnG P w K mg base 1 f__law_alike fd__law_alike ["told", "due"] (spW K W__law_alike) ∧ mg "_law_alike" = some (.ref f__law_alike) ∧ PySem.W.keepIn K (.ref f__law_alike) = true ∧ L2.Binds K fd__law_alike ["told", "due"] []) (c_read_likeness : C8.Cal P w K mg base 10 "read_likeness" (spW K W_read_likeness) []) (c_write_likeness : C8.Cal P w K mg base 3 "write_likeness" (spW K W_write_likeness) []) (c__law_text : C8.Cal P w K mg base 2 "_law_text" (spW K W__law_text) []) (c__law_row_told : C8.Cal P w K mg base 11 "_law_row_told" (spW K W__law_row_told) []) (c__law_wrong_row : C8.Cal P w K mg base 3 "_law_wrong_row" (spW K W__law_wrong_row) []) (c__law_take : C8.Cal P w K mg base 1 "_law_take" (spW K W__law_take) []) (c__law_spoilt : C8.Cal P w K mg base 3 "_law_spoilt" (spW K W__law_spoilt) []) (c__law_drawn_paper : C8.Cal P w K mg base 4 "_law_drawn_paper" (spW K W__law_drawn_paper) []) (c__law_pool : C8.Cal P w K mg base 1 "_law_pool" (spN K W_pool) []) (f : Addr) (cdv : Value) (A : Around) (outer : List Env) (s : Shared) (H : Hp) (E : XK) (ng : A.guards = some []) (hr : Room 11 (A.deeper (envOfC "law" (defScope s_law) s.heap.objs.size f cdv))) : PSs (cxOf CX0 P w K mg base N_law "law" (defScope s_law) f cdv A outer s H E).nox (defBody s_law) (t_law K) := by
  have hu : (A.deeper (envOfC "law" (defScope s_law) s.heap.objs.size f cdv)).units + 64 < cLine := hr.units
  have hv : (A.deeper (envOfC "law" (defScope s_law) s.heap.objs.size f cdv)).units + (64 + 1) < cLine := by have := hr.un; omega
  have hu1 := Nat.lt_of_le_of_lt (Nat.add_le_add_left (by decide : 1 ≤ 64) _) hu
  exact pss_cons (ps_set (i := 1) sc_law.nd rfl (Or.inl rfl) (C8.pe_c c__law_pool hr (by decide) (by rfl) (pa_cons (pv 0) (pa_nil))))
    (pss_cons (ps_set (i := 2) sc_law.nd rfl (Or.inl rfl) (C8.pe_c c__law_drawn_paper hr (by decide) (by rfl) (pa_cons (pv 1) (pa_cons (pe_int) (pa_nil)))))
    (pss_cons (ps_set (i := 3) sc_law.nd rfl (Or.inl rfl) (C8.pe_c c__law_text hr (by decide) (by rfl) (pa_cons (pv 2) (pa_nil))))
    (pss_cons (ps_if (pt_not (pt_truth (pe_callG G__law_alike.1 ng (hr.mono (by decide)) (by rfl) G__law_alike.2.1 G__law_alike.2.2.1 G__law_alike.2.2.2 (pa_cons (C8.pe_c c__law_row_told hr (by decide) (by rfl) (pa_cons (pv 3) (pa_nil))) (pa_cons (pe_tup (pa_cons (pe_int) (pa_cons (pv 2) (pa_nil)))) (pa_nil)))) (by intro _; rfl))) (pss_one (ps_ret (pe_bl))) (pss_nil))
    (pss_cons (ps_for PassesOwn.never rfl (pi_range1 (by rfl) C.b_range (pa_cons (pe_int) (pa_nil))) (pg_name (i := 4) sc_law.nd rfl (Or.inl rfl)) (pss_cons (ps_set (i := 5) sc_law.nd rfl (Or.inl rfl) (C8.pe_c c__law_spoilt hr (by decide) (by rfl) (pa_cons (pv 1) (pa_cons (pv 3) (pa_nil)))))
    (pss_cons (ps_if (pt_cmpR (op_eqU hu) (C8.pe_c c__law_take hr (by decide) (by rfl) (pa_cons (pv 1) (pa_cons (pe_int) (pa_nil)))) (pe_int) (nomark _)) (pss_one (ps_set (i := 5) sc_law.nd rfl (Or.inl rfl) (C8.pe_c c__law_spoilt hr (by decide) (by rfl) (pa_cons (pv 1) (pa_cons (pv 5) (pa_nil)))))) (pss_nil))
    (pss_cons (ps_set (i := 6) sc_law.nd rfl (Or.inl rfl) (C8.pe_c c__law_wrong_row hr (by decide) (by rfl) (pa_cons (pv 5) (pa_nil))))
    (pss_cons (ps_asg (C8.pe_c c__law_row_told hr (by decide) (by rfl) (pa_cons (pv 5) (pa_nil))) (pg_tup rfl (pgs_cons (pg_name (i := 7) sc_law.nd rfl (Or.inl rfl)) (pgs_cons (pg_name (i := 8) sc_law.nd rfl (Or.inl rfl)) (pgs_nil)))))
    (pss_cons (ps_if (pt_not (pt_truth (pe_callG G__law_alike.1 ng (hr.mono (by decide)) (by rfl) G__law_alike.2.1 G__law_alike.2.2.1 G__law_alike.2.2.2 (pa_cons (pv 7) (pa_cons (pv 6) (pa_nil)))) (by intro _; rfl))) (pss_one (ps_ret (pe_bl))) (pss_nil))
    (pss_cons (ps_if ((pw_and (pt_cmpR (op_eqU hu) (pv 6) (pe_int) (nomark _)) (pw_and1 (pt_not (pt_truth (pe_callG G__law_alike.1 ng (hr.mono (by decide)) (by rfl) G__law_alike.2.1 G__law_alike.2.2.1 G__law_alike.2.2.2 (pa_cons (C8.pe_c c__law_text hr (by decide) (by rfl) (pa_cons (pv 8) (pa_nil))) (pa_cons (pv 5) (pa_nil)))) (by intro _; rfl))))).pt) (pss_one (ps_ret (pe_bl))) (pss_nil))
    (pss_one (ps_if ((pw_and (pt_cmpR (op_eqU hu) (pv 6) (pe_int) (nomark _)) (pw_and1 (pt_not (pt_truth (pe_callG G__law_alike.1 ng (hr.mono (by decide)) (by rfl) G__law_alike.2.1 G__law_alike.2.2.1 G__law_alike.2.2.2 (pa_cons (C8.pe_c c_write_likeness hr (by decide) (by rfl) (pa_cons (pv 8) (pa_nil))) (pa_cons (pv 5) (pa_nil)))) (by intro _; rfl))))).pt) (pss_one (ps_ret (pe_bl))) (pss_nil))))))))))
    (pss_one (ps_ret (pe_callG G__law_alike.1 ng (hr.mono (by decide)) (by rfl) G__law_alike.2.1 G__law_alike.2.2.1 G__law_alike.2.2.2 (pa_cons (C8.pe_c c_read_likeness hr (by decide) (by rfl) (pa_cons (pv 3) (pa_nil))) (pa_cons (pv 2) (pa_nil))))))))))
theorem x_pool {K : PySem.W.Frag} (es : List D) (P : List D → Prop) (h : W_pool es P) : EF K (tLst (tCons (tLc (iSeqU K (tSl (rSlU K) (tVar 0) (tNoPart) (tPart (tC (.int 63))))) (gName 1) (tYes) (tOp rModU (tCB cIntU (tCons (tVar 1) (tNil))) (tOp rPowU (tC (.int 10)) (tC (.int 60)))) [1]) (tCons (tC (.int 0)) (tCons (tC (.int 0)) (tCons (tC (.int 20011)) (tNil)))))) (es.map .dat ++ List.replicate (N__law_pool.length - es.length) .unk) fun ds _ => P ds := by
  obtain ⟨ns, rfl, hl, hp⟩ := h
  show EF K _ [.dat (.rol (ns.map .int)), .unk] _
  refine ef_lst (ea_cons ?_)
  refine (ef_map (gs := [1]) (by decide) ?_).ev
  repeat walk_at "dn"
  have e : cutD (ns.map D.int) none (some 63) = ns.map .int := by
    rw [cutD_map, show cutL ns none (some 63) = ns.take 63 from cutL_to ns 63, List.take_of_length_le hl]
  rw [e]
  refine ⟨Int, ns, .int, fun n => .int (n.fmod (10 ^ 60)), rfl, Nat.le_trans hl (by decide), by simp [noOwn, Sl.ad], fun n hn => ?_, ?_⟩
  · refine gj_name (by decide) ?_
    repeat walk_at "dn"
    refine oj_pow ⟨by decide, by decide, by decide⟩ ?_
    refine oj_mod (by decide) ?_
    exact ⟨rfl, rfl⟩
  · repeat walk_at "dn"
    refine hp _ ⟨ns.map fun n => n.fmod (10 ^ 60), 0, 0, 20011, by rw [List.map_map]; rfl, fun c hc => ?_, by decide, ⟨by decide, by decide⟩, by decide, by decide⟩
    obtain ⟨n, _, rfl⟩ := List.mem_map.mp hc
    exact fmod_bd n (by decide)
/-! ### what _law_alike wants -/
theorem G.alk {n v : Nat} {d : D} (h : G n v d) (hn : n ≤ 64) (hv : v ≤ 2 ^ 20) : ∃ p, py d = some p ∧ PyData.eqv p p = true ∧ SeqAt.shaped p = true ∧ PyData.layable0 p = true ∧ p.showable = true ∧ p.shown.length ≤ sizeLine := by
  obtain ⟨p, a, b, c, e, f, g, s⟩ := h.ex
  have hl : PyData.layable0 p = true := by
    show (PyData.canLay0 p && decide (PyData.depth p ≤ 64) && decide (PyData.weight p ≤ 2 ^ 20)) = true
    rw [c, decide_eq_true (show PyData.depth p ≤ 64 by omega), decide_eq_true (show PyData.weight p ≤ 2 ^ 20 by omega)]
    rfl
  exact ⟨p, a, SeqAt.eqv_refl_plain p b, SeqAt.shaped_of_layable hl, hl, s, Nat.le_trans (shown_le13 hl g) (by decide)⟩
theorem alike_ok {n v : Nat} {d : D} {P : D → List Sl → Prop} (h : G n v d) (hn : n ≤ 64) (hv : v ≤ 2 ^ 20) (hp : P (.bl true) [.unk, .unk]) : W__law_alike [.dat d, .dat d] P := by
  obtain ⟨p, a, b, c, e, f, g⟩ := h.alk hn hv
  exact ⟨d, p, rfl, a, b, c, e, f, g, hp⟩
theorem judge_len : ∀ (rs : List (List Str)) (m st : Int) (e : List (List Str)), judge m st rs = some e → e.length ≤ rs.length
  | [], m, st, e, h => by
    rw [judge_nil] at h
    split at h
    · cases h; exact Nat.le_refl _
    · cases h
  | r :: rs, m, st, e, h => by
    rw [judge_cons] at h
    split at h
    · exact Nat.le_trans (judge_len rs _ _ e h) (Nat.le_succ _)
    · cases h; exact Nat.le_refl _
theorem rows_len (t : Str) : (rowsOf t).length ≤ t.length + 1 := by
  unfold rowsOf
  split
  · exact Nat.zero_le _
  · rw [List.length_map]
    have := (split_nl t).len
    omega
/-- what is told of a text, and what is due -/
theorem told_due (t : Str) (hz : Sm t) : (∃ e, readT t = .inl e ∧ wrong t = place (rowsOf t).length (some e) ∧ 0 < wrong t ∧ NumOk (wrong t)) ∨ (∃ p, readT t = .inr p ∧ wrong t = 0 ∧ paperT p = t ∧ PaperWf p) := by
  have hj := judge_read t
  cases hr : readT t with
  | inl e =>
    rw [hr] at hj
    dsimp only at hj
    have h1 := judge_len _ _ _ _ hj
    have h2 := rows_len t
    have hw : wrong t = (rowsOf t).length - e.length + 1 := by
      unfold wrong
      rw [hj]
      rfl
    unfold Sm at hz
    refine .inl ⟨e, rfl, hw, by rw [hw]; omega, ?_⟩
    rw [hw]
    unfold NumOk
    have : (10 : Nat) ^ 12 = 1000000000000 := by decide
    omega
  | inr p =>
    rw [hr] at hj
    dsimp only at hj
    refine .inr ⟨p, rfl, ?_, readT_ok hr⟩
    unfold wrong
    rw [hj]
    rfl
theorem dRes_l {t : Str} {e : List (List Str)} (h : readT t = .inl e) : dRes t = .tup [.int (place (rowsOf t).length (some e)), .non] := by
  unfold dRes
  rw [h]
theorem dRes_r {t : Str} {p : Paper} (h : readT t = .inr p) : dRes t = .tup [.int 0, dPaper p] := by
  unfold dRes
  rw [h]
theorem num0 : NumOk 0 := by unfold NumOk; decide
theorem x_law {K : PySem.W.Frag} (ρ0 : List Sl) (Q : D → List Sl → Prop) (h : W_law ρ0 Q) : XS K (t_law K) (ρ0 ++ List.replicate (N_law.length - ρ0.length) .unk) (bodyPost ρ0 Q) := by
  obtain ⟨ns, rfl, hl, hq⟩ := h
  show XS K (t_law K) [.dat (.rol (ns.map .int)), .unk, .unk, .unk, .unk, .unk, .unk, .unk, .unk] _
  unfold t_law
  refine xs_seq (xs_setO (ef_callN ?_))
  repeat walk_at "dn"
  refine ⟨ns, rfl, hl, fun ds hi q => ?_⟩
  repeat walk_at "dn"
  refine xs_set ?_
  repeat walk_at "dn"
  refine ⟨q, ds, rfl, hi, fun x ds1 hw hz hi1 => ?_⟩
  have hlen := drawn_len hw hz
  have hsm : Sm (paperT x) := by unfold Sm; omega
  have hrd := readT_paper hw
  have hG := G.paper hw hz
  repeat walk_at "dn"
  refine xs_set ?_
  repeat walk_at "dn"
  refine ⟨x, rfl, hw, hsm, ?_⟩
  repeat walk_at "dn"
  refine et_truB ?_
  repeat walk_at "dn"
  refine ⟨paperT x, rfl, hsm, ?_⟩
  rw [dRes_r hrd]
  repeat walk_at "dn"
  refine alike_ok (G.two ((G.int num0).mono (Nat.zero_le _) (by decide)) hG) (by decide) (by decide) ⟨true, rfl, (fun z => by cases z), fun _ => ?_⟩
  repeat walk_at "dn"
  refine xs_cut (fun ρ' => ∃ ds a b c d e, PoolI ds ∧ ρ' = [.dat (.rol (ns.map .int)), .own q ds, .dat (dPaper x), .dat (.str (paperT x)), a, b, c, d, e]) ?_ ?_
  · refine xs_for (gs := [4]) ?_
    repeat walk_at "dn"
    refine ⟨4, rfl, by decide, by decide, fun i ρ' => ∃ ds a b c d e, PoolI ds ∧ ρ' = [.dat (.rol (ns.map .int)), .own q ds, .dat (dPaper x), .dat (.str (paperT x)), a, b, c, d, e], ⟨ds1, _, _, _, _, _, hi1, rfl⟩, ?_, fun ρ' z => z⟩
    rintro i d ρ' hd ⟨ds2, a, b, c, d', e, hi2, rfl⟩
    refine gj_name (by decide) ?_
    repeat walk_at "dn"
    refine xs_set ?_
    repeat walk_at "dn"
    refine ⟨q, ds2, paperT x, 5346, rfl, hi2, ⟨hlen, paper_asc hw⟩, by decide, fun t ds3 ht hi3 => ?_⟩
    show XS K (tSeq _ _) [.dat (.rol (ns.map .int)), .own q ds3, .dat (dPaper x), .dat (.str (paperT x)), .dat d, .dat (.str t), c, d', e] _
    refine xs_seqI (fun ρ' => ∃ ds t, PoolI ds ∧ Sm t ∧ Asc t ∧ ρ' = [.dat (.rol (ns.map .int)), .own q ds, .dat (dPaper x), .dat (.str (paperT x)), .dat d, .dat (.str t), c, d', e]) ?_ ?_
    · repeat walk_at "dn"
      refine ⟨q, ds3, 4, rfl, hi3, by decide, by decide, fun r ds4 r0 r1 hi4 => ?_⟩
      repeat walk_at "dn"
      · intro _
        refine xs_set ?_
        repeat walk_at "dn"
        refine ⟨q, ds4, t, 21584, rfl, hi4, ⟨ht.1, ht.2⟩, by decide, fun t2 ds5 ht2 hi5 => ?_⟩
        exact ⟨ds5, t2, hi5, Nat.le_trans ht2.1 (by decide), ht2.2, rfl⟩
      · intro _
        repeat walk_at "dn"
        exact ⟨ds4, t, hi4, Nat.le_trans ht.1 (by decide), ht.2, rfl⟩
    · rintro ρ' ⟨ds4, t, hi4, htz, hta, rfl⟩
      repeat walk_at "dn"
      refine xs_set ?_
      repeat walk_at "dn"
      refine ⟨t, rfl, htz, hta, ?_⟩
      repeat walk_at "dn"
      refine ⟨t, rfl, htz, ?_⟩
      rcases told_due t htz with ⟨er, hr, hwr, hpos, hnum⟩ | ⟨p, hr, hwr, hpt, hpw⟩
      · rw [dRes_l hr, ← hwr]
        repeat walk_at "dn"
        refine et_truB ?_
        repeat walk_at "dn"
        refine alike_ok (G.int hnum) (by decide) (by decide) ⟨true, rfl, (fun z => by cases z), fun _ => ?_⟩
        repeat walk_at "dn"
        · intro z; omega
        · intro _
          repeat walk_at "dn"
          · intro z; omega
          · intro _
            repeat walk_at "dn"
            exact ⟨ds4, _, _, _, _, _, hi4, rfl⟩
      · rw [dRes_r hr, hwr]
        repeat walk_at "dn"
        refine et_truB ?_
        repeat walk_at "dn"
        refine alike_ok (G.int num0) (by decide) (by decide) ⟨true, rfl, (fun z => by cases z), fun _ => ?_⟩
        repeat walk_at "dn"
        · intro _
          repeat walk_at "dn"
          refine et_truB ?_
          repeat walk_at "dn"
          refine ⟨p, rfl, hpw, by rw [hpt]; exact htz, ?_⟩
          rw [hpt]
          repeat walk_at "dn"
          refine alike_ok (G.str hta htz) (by decide) (by decide) ⟨true, rfl, (fun z => by cases z), fun _ => ?_⟩
          repeat walk_at "dn"
          · intro _
            repeat walk_at "dn"
            refine et_truB ?_
            repeat walk_at "dn"
            refine ⟨p, rfl, hpw, by rw [hpt]; exact htz, ?_⟩
            rw [hpt]
            repeat walk_at "dn"
            refine alike_ok (G.str hta htz) (by decide) (by decide) ⟨true, rfl, (fun z => by cases z), fun _ => ?_⟩
            repeat walk_at "dn"
            exact ⟨ds4, _, _, _, _, _, hi4, rfl⟩
          · intro z; exact absurd rfl z
        · intro z; exact absurd rfl z
  · rintro ρ' ⟨ds2, a, b, c, d, e, hi2, rfl⟩
    repeat walk_at "dn"
    refine ⟨paperT x, x, rfl, hsm, hrd, ?_⟩
    repeat walk_at "dn"
    refine alike_ok hG (by decide) (by decide) ?_
    refine body_rt (by simp [kept, Sl.ad]) ?_
    exact hq
/-! ### facts of an own error's class, as Bools -/
def oexB (K : PySem.W.Frag) (C : Addr) : Bool := (match K.lookup C with
  | some ⟨.type "type", _, .cls cd, sl⟩ => (match cd.mro, sl.toList with
    | .ref C' :: bm, [_, _, _, _, some (.builtin n), _] => C' == C && n == "ValueError.__new__" && !cd.hasDel && cd.hasDict && PySem.HandSPX.refsVE bm
    | _, _ => false)
  | _ => false) && (decide (PySem.W.findIn K (.ref C) "__setattr__" = some (some (.builtin "object.__setattr__"))) && (decide (PySem.W.subIn K (.ref C) (.type "BaseException") = some true) && (decide (PySem.W.typeIn K (.ref C) = some (.type "type")) && PySem.W.keepIn K (.ref C))))
theorem oexB_ok {K : PySem.W.Frag} {C : Addr} (h : oexB K C = true) : OexC K C := by
  obtain ⟨h1, h⟩ := He.ba h
  obtain ⟨h2, h⟩ := He.ba h
  obtain ⟨h3, h⟩ := He.ba h
  obtain ⟨h4, h5⟩ := He.ba h
  refine ⟨?_, of_decide_eq_true h2, of_decide_eq_true h3, of_decide_eq_true h4, h5⟩
  split at h1
  · rename_i dd cd sl ho
    split at h1
    · rename_i C' bm k0 k1 k2 k3 n k5 hm hs
      simp only [Bool.and_eq_true, beq_iff_eq, Bool.not_eq_true'] at h1
      obtain ⟨⟨⟨⟨rfl, rfl⟩, hdel⟩, hdi⟩, ht⟩ := h1
      obtain ⟨nm, bs, mro, ns, qn, hd, sn, sub, ab, col, del⟩ := cd
      dsimp only at hm hdel hdi
      subst hm hdel hdi
      have hsl : sl = #[k0, k1, k2, k3, some (.builtin "ValueError.__new__"), k5] := by
        obtain ⟨l⟩ := sl
        simp only at hs
        rw [hs]
      subst hsl
      exact ⟨nm, qn, ns, bs, bm, sn, sub, ab, col, dd, k0, k1, k2, k3, k5, ho, ht⟩
    · cases h1
  · cases h1
def excB (K : PySem.W.Frag) (D : Addr) : Bool := decide (PySem.W.findIn K (.ref D) "__getattribute__" = some (some (.builtin "BaseException.__getattribute__"))) && (decide (PySem.W.findIn K (.ref D) "__getattr__" = some none) && (decide (PySem.W.subIn K (.ref D) (.type "BaseException") = some true) &&
  (PySem.W.hasDictIn K D && (decide (PySem.W.findIn K (.ref D) "__class__" = some (some (.builtin "object.__class__"))) && (decide (PySem.W.specialIn K (.builtin "object.__class__") "__get__" = some (some (.builtin "getset_descriptor.__get__"))) &&
  (decide (PySem.W.takesIn K (.builtin "object.__class__") = some true) && decide (PySem.W.mroIn K D (.type "object") = some true)))))))
theorem excB_ok {K : PySem.W.Frag} {D : Addr} (h : excB K D = true) : ExcC K D := by
  obtain ⟨h1, h⟩ := He.ba h
  obtain ⟨h2, h⟩ := He.ba h
  obtain ⟨h3, h⟩ := He.ba h
  obtain ⟨h4, h⟩ := He.ba h
  obtain ⟨h5, h⟩ := He.ba h
  obtain ⟨h6, h⟩ := He.ba h
  obtain ⟨h7, h8⟩ := He.ba h
  exact ⟨of_decide_eq_true h1, of_decide_eq_true h2, of_decide_eq_true h3, h4, of_decide_eq_true h5, of_decide_eq_true h6, of_decide_eq_true h7, of_decide_eq_true h8⟩
def fn_ : List He.DefD := [
  ⟨("read_number", none), "read_number", "read_number", defArgs s_read_number, defBody s_read_number, defScope s_read_number, [], []⟩,
  ⟨("joined", none), "joined", "joined", defArgs s_joined, defBody s_joined, defScope s_joined, [], []⟩,
  ⟨("pair_written", none), "pair_written", "pair_written", defArgs s_pair_written, defBody s_pair_written, defScope s_pair_written, [], []⟩,
  ⟨("write_likeness", none), "write_likeness", "write_likeness", defArgs s_write_likeness, defBody s_write_likeness, defScope s_write_likeness, [], []⟩,
  ⟨("read_integer", none), "read_integer", "read_integer", defArgs s_read_integer, defBody s_read_integer, defScope s_read_integer, [], []⟩,
  ⟨("read_integers", none), "read_integers", "read_integers", defArgs s_read_integers, defBody s_read_integers, defScope s_read_integers, [], []⟩,
  ⟨("read_unit_row", none), "read_unit_row", "read_unit_row", defArgs s_read_unit_row, defBody s_read_unit_row, defScope s_read_unit_row, [], []⟩,
  ⟨("read_pair_row", none), "read_pair_row", "read_pair_row", defArgs s_read_pair_row, defBody s_read_pair_row, defScope s_read_pair_row, [], []⟩,
  ⟨("read_told", none), "read_told", "read_told", defArgs s_read_told, defBody s_read_told, defScope s_read_told, [], []⟩,
  ⟨("read_first_row", none), "read_first_row", "read_first_row", defArgs s_read_first_row, defBody s_read_first_row, defScope s_read_first_row, [], []⟩,
  ⟨("read_second_row", none), "read_second_row", "read_second_row", defArgs s_read_second_row, defBody s_read_second_row, defScope s_read_second_row, [], []⟩,
  ⟨("read_likeness", none), "read_likeness", "read_likeness", defArgs s_read_likeness, defBody s_read_likeness, defScope s_read_likeness, [], []⟩,
  ⟨("_law_pool", none), "_law_pool", "_law_pool", defArgs s__law_pool, defBody s__law_pool, defScope s__law_pool, [], []⟩,
  ⟨("_law_take", none), "_law_take", "_law_take", defArgs s__law_take, defBody s__law_take, defScope s__law_take, [], []⟩,
  ⟨("_law_alike", none), "_law_alike", "_law_alike", defArgs s__law_alike, defBody s__law_alike, defScope s__law_alike, [], []⟩,
  ⟨("_law_told_row", none), "_law_told_row", "_law_told_row", defArgs s__law_told_row, defBody s__law_told_row, defScope s__law_told_row, [], []⟩,
  ⟨("_law_text", none), "_law_text", "_law_text", defArgs s__law_text, defBody s__law_text, defScope s__law_text, [], []⟩,
  ⟨("_law_number", none), "_law_number", "_law_number", defArgs s__law_number, defBody s__law_number, defScope s__law_number, [], []⟩,
  ⟨("_law_drawn_told", none), "_law_drawn_told", "_law_drawn_told", defArgs s__law_drawn_told, defBody s__law_drawn_told, defScope s__law_drawn_told, [], []⟩,
  ⟨("_law_drawn_paper", none), "_law_drawn_paper", "_law_drawn_paper", defArgs s__law_drawn_paper, defBody s__law_drawn_paper, defScope s__law_drawn_paper, [], []⟩,
  ⟨("_law_is_number", none), "_law_is_number", "_law_is_number", defArgs s__law_is_number, defBody s__law_is_number, defScope s__law_is_number, [], []⟩,
  ⟨("_law_is_told", none), "_law_is_told", "_law_is_told", defArgs s__law_is_told, defBody s__law_is_told, defScope s__law_is_told, [], []⟩,
  ⟨("_law_all_are", none), "_law_all_are", "_law_all_are", defArgs s__law_all_are, defBody s__law_all_are, defScope s__law_all_are, [], []⟩,
  ⟨("_law_wrong_row", none), "_law_wrong_row", "_law_wrong_row", defArgs s__law_wrong_row, defBody s__law_wrong_row, defScope s__law_wrong_row, [], []⟩,
  ⟨("_law_spoilt_row", none), "_law_spoilt_row", "_law_spoilt_row", defArgs s__law_spoilt_row, defBody s__law_spoilt_row, defScope s__law_spoilt_row, [], []⟩,
  ⟨("_law_spoilt", none), "_law_spoilt", "_law_spoilt", defArgs s__law_spoilt, defBody s__law_spoilt, defScope s__law_spoilt, [], []⟩,
  ⟨("_law_row_told", none), "_law_row_told", "_law_row_told", defArgs s__law_row_told, defBody s__law_row_told, defScope s__law_row_told, [], []⟩,
  ⟨("law", none), "law", "law", defArgs s_law, defBody s_law, defScope s_law, [], []⟩,
  ⟨("BadPaper", some "__init__"), "__init__", "BadLine.__init__", defArgs s_BadLine___init__, defBody s_BadLine___init__, defScope s_BadLine___init__, [], []⟩,
  ⟨("RowReader", some "__init__"), "__init__", "RowReader.__init__", defArgs s_RowReader___init__, defBody s_RowReader___init__, defScope s_RowReader___init__, [], []⟩,
  ⟨("RowReader", some "next_read"), "next_read", "RowReader.next_read", defArgs s_RowReader_next_read, defBody s_RowReader_next_read, defScope s_RowReader_next_read, [], []⟩,
  ⟨("RowReader", some "all_told"), "all_told", "RowReader.all_told", defArgs s_RowReader_all_told, defBody s_RowReader_all_told, defScope s_RowReader_all_told, [], []⟩,
  ⟨("RowReader", some "read_pair"), "read_pair", "RowReader.read_pair", defArgs s_RowReader_read_pair, defBody s_RowReader_read_pair, defScope s_RowReader_read_pair, [], []⟩,
  ⟨("RowReader", some "read_unit"), "read_unit", "RowReader.read_unit", defArgs s_RowReader_read_unit, defBody s_RowReader_read_unit, defScope s_RowReader_read_unit, [], []⟩]
def fa_ : List He.Fa := [.glo "read_number", .glo "joined", .glo "pair_written", .glo "write_likeness", .glo "read_integer", .glo "read_integers", .glo "read_unit_row", .glo "read_pair_row", .glo "read_told", .glo "read_first_row", .glo "read_second_row", .glo "read_likeness", .glo "_law_pool", .glo "_law_take", .glo "_law_alike", .glo "_law_told_row", .glo "_law_text", .glo "_law_number", .glo "_law_drawn_told", .glo "_law_drawn_paper", .glo "_law_is_number", .glo "_law_is_told", .glo "_law_all_are", .glo "_law_wrong_row", .glo "_law_spoilt_row", .glo "_law_spoilt", .glo "_law_row_told", .glo "law", .free "len", .free "str", .free "int", .free "tuple", .free "range", .free "repr", .free "isinstance", .str "FIGURES" "0123456789", .int "MOST_FIGURES" 12, .glo "PAIR_SIZES", .glo "TOLD_SIZES", .glo "BadPaper", .noat "BadPaper" "row", .glo "BadText", .glo "BadLine", .glo "RowReader", .cls "RowReader", .noat "RowReader" "rows", .noat "RowReader" "at", .meth "RowReader" "next_read", .meth "RowReader" "all_told", .meth "RowReader" "read_pair", .meth "RowReader" "read_unit", .mkr "RowReader", .exm "BadPaper" "BadPaper" true]
def ts_ : List He.Tab := [(fun K => He.ga K "TOLD_SIZES", ["num", "len", "spot"])]
def x_PAIR_SIZES (K : PySem.W.Frag) : Bool := He.tupB K "PAIR_SIZES" [.int 5, .int 7]
def x_TOLD_SIZES (K : PySem.W.Frag) : Bool := He.valsB K (He.ga K "TOLD_SIZES") [("num", .int 2), ("len", .int 3), ("spot", .int 4)]
def x_err (K : PySem.W.Frag) : Bool := oexB K (He.ga K "BadPaper")
def x_exc (K : PySem.W.Frag) : Bool := excB K (He.ga K "BadPaper")
def x_xf (K : PySem.W.Frag) : Bool := xfB K (He.ga K "BadPaper")
def x_kT (K : PySem.W.Frag) : Bool := decide (PySem.W.kitOne K (.ref (He.ga K "BadPaper")) (.ref (He.ga K "BadText")) = some false)
def x_kL (K : PySem.W.Frag) : Bool := decide (PySem.W.kitOne K (.ref (He.ga K "BadPaper")) (.ref (He.ga K "BadLine")) = some true)
def x_iC (K : PySem.W.Frag) : Bool := He.eqO (PySem.W.findIn K (.ref (He.ga K "BadPaper")) "__init__") (some (some (.ref (He.ma K (He.ga K "BadPaper") "__init__"))))
def x_tI (K : PySem.W.Frag) : Bool := decide (PySem.W.typeIn K (.ref (He.ma K (He.ga K "BadPaper") "__init__")) = some (.type "function"))
def ex_ (K : PySem.W.Frag) : Bool := x_PAIR_SIZES K && (x_TOLD_SIZES K && (x_err K && (x_exc K && (x_xf K && (x_kT K && (x_kL K && (x_iC K && (x_tI K))))))))
abbrev R_ : PySem.W.OpenRow := PySem.W.OpenLaw.row PySem.Challenge.rw_swornlike_k95_spoilt_texts_of_papers
abbrev hk_ : PySem.W.Hook := He.hookX 5 fa_ fn_ ts_ [] ex_
def ob_ (s : PySem.W.SharedT) : He.AlX := He.obsX 5 fa_ fn_ ts_ [] ex_ (HandSHeadRun.getT s)
theorem ob_eq_ (s : PySem.W.SharedT) : ob_ s = hk_.obs s.abs := He.obsX_eq (HandSHeadRun.getT_eq s)
def loose0_ : List Str := ["SwornError", "BadLine", "BadText", "BadPaper", "FIGURES", "MOST_FIGURES", "read_number", "TOLD_SIZES", "PAIR_SIZES", "joined", "pair_written", "write_likeness", "read_integer", "read_integers", "read_unit_row", "read_pair_row", "read_told", "read_first_row", "read_second_row", "RowReader", "read_likeness", "_law_pool", "_law_take", "_law_alike", "_law_told_row", "_law_text", "_law_number", "_law_drawn_told", "_law_drawn_paper", "_law_is_number"]
def loose1_ : List Str := ["_law_is_told", "_law_all_are", "_law_wrong_row", "_law_spoilt_row", "_law_spoilt", "_law_row_told"]
def loose_ : List Str := loose0_ ++ loose1_
abbrev lawI_ : Nat := 40
section
variable {w : World} {K : PySem.W.Frag} {h : Heap} {mg : Str → Option Value}
theorem x_PAIR_SIZES_of (c : ex_ K = true) : x_PAIR_SIZES K = true := (He.ba c).1
theorem x_TOLD_SIZES_of (c : ex_ K = true) : x_TOLD_SIZES K = true := (He.ba (He.ba c).2).1
theorem x_err_of (c : ex_ K = true) : x_err K = true := (He.ba (He.ba (He.ba c).2).2).1
theorem x_exc_of (c : ex_ K = true) : x_exc K = true := (He.ba (He.ba (He.ba (He.ba c).2).2).2).1
theorem x_xf_of (c : ex_ K = true) : x_xf K = true := (He.ba (He.ba (He.ba (He.ba (He.ba c).2).2).2).2).1
theorem x_kT_of (c : ex_ K = true) : x_kT K = true := (He.ba (He.ba (He.ba (He.ba (He.ba (He.ba c).2).2).2).2).2).1
theorem x_kL_of (c : ex_ K = true) : x_kL K = true := (He.ba (He.ba (He.ba (He.ba (He.ba (He.ba (He.ba c).2).2).2).2).2).2).1
theorem x_iC_of (c : ex_ K = true) : x_iC K = true := (He.ba (He.ba (He.ba (He.ba (He.ba (He.ba (He.ba (He.ba c).2).2).2).2).2).2).2).1
theorem x_tI_of (c : ex_ K = true) : x_tI K = true := (He.ba (He.ba (He.ba (He.ba (He.ba (He.ba (He.ba (He.ba c).2).2).2).2).2).2).2).2
theorem tab_eq_ (c : He.SaysT fa_ fn_ ts_ w K) (i : Nat) {t : He.Tab} (h : ts_[i]? = some t) : He.dicW K (t.1 K) = some (He.keysIn w.params t.2) := by
  have e : ts_.map (fun t => He.dicW K (t.1 K)) = ts_.map fun t => some (He.keysIn w.params t.2) := congrArg (fun z : He.AlT => z.2) c
  have e2 : (ts_.map fun t => He.dicW K (t.1 K))[i]? = (ts_.map fun t => some (He.keysIn w.params t.2))[i]? := by rw [e]
  rw [List.getElem?_map, List.getElem?_map, h] at e2
  exact Option.some.inj e2
theorem ctx_of (X : K.In h) (G : h.Ns mainGlobals mg) (c : He.SaysX fa_ fn_ ts_ [] ex_ w h K) : Ctx K w mg where
  b_len := He.free_ok X G (c.t.d.fact 28 (f := .free "len") rfl)
  b_str := He.free_ok X G (c.t.d.fact 29 (f := .free "str") rfl)
  b_int := He.free_ok X G (c.t.d.fact 30 (f := .free "int") rfl)
  b_tuple := He.free_ok X G (c.t.d.fact 31 (f := .free "tuple") rfl)
  b_range := He.free_ok X G (c.t.d.fact 32 (f := .free "range") rfl)
  b_repr := He.free_ok X G (c.t.d.fact 33 (f := .free "repr") rfl)
  b_isinstance := He.free_ok X G (c.t.d.fact 34 (f := .free "isinstance") rfl)
  g_FIGURES := (He.str_ok X G (c.t.d.fact 35 (f := .str "FIGURES" "0123456789") rfl)).elim fun t e => ⟨_, e, ⟨t, rfl⟩⟩
  g_MOST_FIGURES := (He.int_ok X G (c.t.d.fact 36 (f := .int "MOST_FIGURES" 12) rfl)).elim fun t e => ⟨_, e, ⟨t, rfl⟩⟩
  g_PAIR_SIZES := ⟨_, He.glo_ok X G (c.t.d.fact 37 (f := .glo "PAIR_SIZES") rfl), rfl⟩
  q_PAIR_SIZES := fun B => He.tupB_ok (x_PAIR_SIZES_of c.more) B
  g_TOLD_SIZES := ⟨_, He.glo_ok X G (c.t.d.fact 38 (f := .glo "TOLD_SIZES") rfl), rfl⟩
  d_TOLD_SIZES := c.t.tab 0 (t := (fun K => He.ga K "TOLD_SIZES", ["num", "len", "spot"])) rfl
  k_TOLD_SIZES := tab_eq_ c.t 0 (t := (fun K => He.ga K "TOLD_SIZES", ["num", "len", "spot"])) rfl
  v_TOLD_SIZES_num := He.valsB_ok (x_TOLD_SIZES_of c.more) (q := ("num", .int 2)) (by simp)
  v_TOLD_SIZES_len := He.valsB_ok (x_TOLD_SIZES_of c.more) (q := ("len", .int 3)) (by simp)
  v_TOLD_SIZES_spot := He.valsB_ok (x_TOLD_SIZES_of c.more) (q := ("spot", .int 4)) (by simp)
  f_read_number := (c.t.d.def_ 0 (d := ⟨("read_number", none), "read_number", "read_number", defArgs s_read_number, defBody s_read_number, defScope s_read_number, [], []⟩) rfl).elim fun fd F => ⟨_, fd, F, He.glo_ok X G (c.t.d.fact 0 (f := .glo "read_number") rfl)⟩
  f_joined := (c.t.d.def_ 1 (d := ⟨("joined", none), "joined", "joined", defArgs s_joined, defBody s_joined, defScope s_joined, [], []⟩) rfl).elim fun fd F => ⟨_, fd, F, He.glo_ok X G (c.t.d.fact 1 (f := .glo "joined") rfl)⟩
  f_pair_written := (c.t.d.def_ 2 (d := ⟨("pair_written", none), "pair_written", "pair_written", defArgs s_pair_written, defBody s_pair_written, defScope s_pair_written, [], []⟩) rfl).elim fun fd F => ⟨_, fd, F, He.glo_ok X G (c.t.d.fact 2 (f := .glo "pair_written") rfl)⟩
  f_write_likeness := (c.t.d.def_ 3 (d := ⟨("write_likeness", none), "write_likeness", "write_likeness", defArgs s_write_likeness, defBody s_write_likeness, defScope s_write_likeness, [], []⟩) rfl).elim fun fd F => ⟨_, fd, F, He.glo_ok X G (c.t.d.fact 3 (f := .glo "write_likeness") rfl)⟩
  f_read_integer := (c.t.d.def_ 4 (d := ⟨("read_integer", none), "read_integer", "read_integer", defArgs s_read_integer, defBody s_read_integer, defScope s_read_integer, [], []⟩) rfl).elim fun fd F => ⟨_, fd, F, He.glo_ok X G (c.t.d.fact 4 (f := .glo "read_integer") rfl)⟩
  f_read_integers := (c.t.d.def_ 5 (d := ⟨("read_integers", none), "read_integers", "read_integers", defArgs s_read_integers, defBody s_read_integers, defScope s_read_integers, [], []⟩) rfl).elim fun fd F => ⟨_, fd, F, He.glo_ok X G (c.t.d.fact 5 (f := .glo "read_integers") rfl)⟩
  f_read_unit_row := (c.t.d.def_ 6 (d := ⟨("read_unit_row", none), "read_unit_row", "read_unit_row", defArgs s_read_unit_row, defBody s_read_unit_row, defScope s_read_unit_row, [], []⟩) rfl).elim fun fd F => ⟨_, fd, F, He.glo_ok X G (c.t.d.fact 6 (f := .glo "read_unit_row") rfl)⟩
  f_read_pair_row := (c.t.d.def_ 7 (d := ⟨("read_pair_row", none), "read_pair_row", "read_pair_row", defArgs s_read_pair_row, defBody s_read_pair_row, defScope s_read_pair_row, [], []⟩) rfl).elim fun fd F => ⟨_, fd, F, He.glo_ok X G (c.t.d.fact 7 (f := .glo "read_pair_row") rfl)⟩
  f_read_told := (c.t.d.def_ 8 (d := ⟨("read_told", none), "read_told", "read_told", defArgs s_read_told, defBody s_read_told, defScope s_read_told, [], []⟩) rfl).elim fun fd F => ⟨_, fd, F, He.glo_ok X G (c.t.d.fact 8 (f := .glo "read_told") rfl)⟩
  f_read_first_row := (c.t.d.def_ 9 (d := ⟨("read_first_row", none), "read_first_row", "read_first_row", defArgs s_read_first_row, defBody s_read_first_row, defScope s_read_first_row, [], []⟩) rfl).elim fun fd F => ⟨_, fd, F, He.glo_ok X G (c.t.d.fact 9 (f := .glo "read_first_row") rfl)⟩
  f_read_second_row := (c.t.d.def_ 10 (d := ⟨("read_second_row", none), "read_second_row", "read_second_row", defArgs s_read_second_row, defBody s_read_second_row, defScope s_read_second_row, [], []⟩) rfl).elim fun fd F => ⟨_, fd, F, He.glo_ok X G (c.t.d.fact 10 (f := .glo "read_second_row") rfl)⟩
  f_read_likeness := (c.t.d.def_ 11 (d := ⟨("read_likeness", none), "read_likeness", "read_likeness", defArgs s_read_likeness, defBody s_read_likeness, defScope s_read_likeness, [], []⟩) rfl).elim fun fd F => ⟨_, fd, F, He.glo_ok X G (c.t.d.fact 11 (f := .glo "read_likeness") rfl)⟩
  f__law_pool := (c.t.d.def_ 12 (d := ⟨("_law_pool", none), "_law_pool", "_law_pool", defArgs s__law_pool, defBody s__law_pool, defScope s__law_pool, [], []⟩) rfl).elim fun fd F => ⟨_, fd, F, He.glo_ok X G (c.t.d.fact 12 (f := .glo "_law_pool") rfl)⟩
  f__law_take := (c.t.d.def_ 13 (d := ⟨("_law_take", none), "_law_take", "_law_take", defArgs s__law_take, defBody s__law_take, defScope s__law_take, [], []⟩) rfl).elim fun fd F => ⟨_, fd, F, He.glo_ok X G (c.t.d.fact 13 (f := .glo "_law_take") rfl)⟩
  f__law_alike := (c.t.d.def_ 14 (d := ⟨("_law_alike", none), "_law_alike", "_law_alike", defArgs s__law_alike, defBody s__law_alike, defScope s__law_alike, [], []⟩) rfl).elim fun fd F => ⟨_, fd, F, He.glo_ok X G (c.t.d.fact 14 (f := .glo "_law_alike") rfl)⟩
  f__law_told_row := (c.t.d.def_ 15 (d := ⟨("_law_told_row", none), "_law_told_row", "_law_told_row", defArgs s__law_told_row, defBody s__law_told_row, defScope s__law_told_row, [], []⟩) rfl).elim fun fd F => ⟨_, fd, F, He.glo_ok X G (c.t.d.fact 15 (f := .glo "_law_told_row") rfl)⟩
  f__law_text := (c.t.d.def_ 16 (d := ⟨("_law_text", none), "_law_text", "_law_text", defArgs s__law_text, defBody s__law_text, defScope s__law_text, [], []⟩) rfl).elim fun fd F => ⟨_, fd, F, He.glo_ok X G (c.t.d.fact 16 (f := .glo "_law_text") rfl)⟩
  f__law_number := (c.t.d.def_ 17 (d := ⟨("_law_number", none), "_law_number", "_law_number", defArgs s__law_number, defBody s__law_number, defScope s__law_number, [], []⟩) rfl).elim fun fd F => ⟨_, fd, F, He.glo_ok X G (c.t.d.fact 17 (f := .glo "_law_number") rfl)⟩
  f__law_drawn_told := (c.t.d.def_ 18 (d := ⟨("_law_drawn_told", none), "_law_drawn_told", "_law_drawn_told", defArgs s__law_drawn_told, defBody s__law_drawn_told, defScope s__law_drawn_told, [], []⟩) rfl).elim fun fd F => ⟨_, fd, F, He.glo_ok X G (c.t.d.fact 18 (f := .glo "_law_drawn_told") rfl)⟩
  f__law_drawn_paper := (c.t.d.def_ 19 (d := ⟨("_law_drawn_paper", none), "_law_drawn_paper", "_law_drawn_paper", defArgs s__law_drawn_paper, defBody s__law_drawn_paper, defScope s__law_drawn_paper, [], []⟩) rfl).elim fun fd F => ⟨_, fd, F, He.glo_ok X G (c.t.d.fact 19 (f := .glo "_law_drawn_paper") rfl)⟩
  f__law_is_number := (c.t.d.def_ 20 (d := ⟨("_law_is_number", none), "_law_is_number", "_law_is_number", defArgs s__law_is_number, defBody s__law_is_number, defScope s__law_is_number, [], []⟩) rfl).elim fun fd F => ⟨_, fd, F, He.glo_ok X G (c.t.d.fact 20 (f := .glo "_law_is_number") rfl)⟩
  f__law_is_told := (c.t.d.def_ 21 (d := ⟨("_law_is_told", none), "_law_is_told", "_law_is_told", defArgs s__law_is_told, defBody s__law_is_told, defScope s__law_is_told, [], []⟩) rfl).elim fun fd F => ⟨_, fd, F, He.glo_ok X G (c.t.d.fact 21 (f := .glo "_law_is_told") rfl)⟩
  f__law_all_are := (c.t.d.def_ 22 (d := ⟨("_law_all_are", none), "_law_all_are", "_law_all_are", defArgs s__law_all_are, defBody s__law_all_are, defScope s__law_all_are, [], []⟩) rfl).elim fun fd F => ⟨_, fd, F, He.glo_ok X G (c.t.d.fact 22 (f := .glo "_law_all_are") rfl)⟩
  f__law_wrong_row := (c.t.d.def_ 23 (d := ⟨("_law_wrong_row", none), "_law_wrong_row", "_law_wrong_row", defArgs s__law_wrong_row, defBody s__law_wrong_row, defScope s__law_wrong_row, [], []⟩) rfl).elim fun fd F => ⟨_, fd, F, He.glo_ok X G (c.t.d.fact 23 (f := .glo "_law_wrong_row") rfl)⟩
  f__law_spoilt_row := (c.t.d.def_ 24 (d := ⟨("_law_spoilt_row", none), "_law_spoilt_row", "_law_spoilt_row", defArgs s__law_spoilt_row, defBody s__law_spoilt_row, defScope s__law_spoilt_row, [], []⟩) rfl).elim fun fd F => ⟨_, fd, F, He.glo_ok X G (c.t.d.fact 24 (f := .glo "_law_spoilt_row") rfl)⟩
  f__law_spoilt := (c.t.d.def_ 25 (d := ⟨("_law_spoilt", none), "_law_spoilt", "_law_spoilt", defArgs s__law_spoilt, defBody s__law_spoilt, defScope s__law_spoilt, [], []⟩) rfl).elim fun fd F => ⟨_, fd, F, He.glo_ok X G (c.t.d.fact 25 (f := .glo "_law_spoilt") rfl)⟩
  f__law_row_told := (c.t.d.def_ 26 (d := ⟨("_law_row_told", none), "_law_row_told", "_law_row_told", defArgs s__law_row_told, defBody s__law_row_told, defScope s__law_row_told, [], []⟩) rfl).elim fun fd F => ⟨_, fd, F, He.glo_ok X G (c.t.d.fact 26 (f := .glo "_law_row_told") rfl)⟩
  f_law := (c.t.d.def_ 27 (d := ⟨("law", none), "law", "law", defArgs s_law, defBody s_law, defScope s_law, [], []⟩) rfl).elim fun fd F => ⟨_, fd, F, He.glo_ok X G (c.t.d.fact 27 (f := .glo "law") rfl)⟩
end
section
variable {w : World} {K : PySem.W.Frag} {h : Heap} {mg : Str → Option Value}
theorem err_of (X : K.In h) (G : h.Ns mainGlobals mg) (c : He.SaysX fa_ fn_ ts_ [] ex_ w h K) : Err K mg (He.ga K "BadPaper") (He.ma K (He.ga K "BadPaper") "__init__") where
  gC := He.glo_ok X G (c.t.d.fact 39 (f := .glo "BadPaper") rfl)
  ox := oexB_ok (x_err_of c.more)
  iC := He.eqO_ok (x_iC_of c.more)
  tI := of_decide_eq_true (x_tI_of c.more)
  nr := He.noat_ok (c.t.d.fact 40 (f := .noat "BadPaper" "row") rfl)
  fi := (c.t.d.def_ 28 (d := ⟨("BadPaper", some "__init__"), "__init__", "BadLine.__init__", defArgs s_BadLine___init__, defBody s_BadLine___init__, defScope s_BadLine___init__, [], []⟩) rfl).elim fun fd F => ⟨fd, F⟩
theorem rdr_of (X : K.In h) (G : h.Ns mainGlobals mg) (c : He.SaysX fa_ fn_ ts_ [] ex_ w h K) : Rdr K mg (He.ga K "RowReader") where
  gR := He.glo_ok X G (c.t.d.fact 43 (f := .glo "RowReader") rfl)
  cl := He.cls_ok (c.t.d.fact 44 (f := .cls "RowReader") rfl)
  n_rows := He.noat_ok (c.t.d.fact 45 (f := .noat "RowReader" "rows") rfl)
  n_at := He.noat_ok (c.t.d.fact 46 (f := .noat "RowReader" "at") rfl)
  i_ := (c.t.d.def_ 29 (d := ⟨("RowReader", some "__init__"), "__init__", "RowReader.__init__", defArgs s_RowReader___init__, defBody s_RowReader___init__, defScope s_RowReader___init__, [], []⟩) rfl).elim fun fd F => ⟨_, fd, He.mkr_ok (c.t.d.fact 51 (f := .mkr "RowReader") rfl), F⟩
  m_next := (c.t.d.def_ 30 (d := ⟨("RowReader", some "next_read"), "next_read", "RowReader.next_read", defArgs s_RowReader_next_read, defBody s_RowReader_next_read, defScope s_RowReader_next_read, [], []⟩) rfl).elim fun fd F => ⟨_, fd, He.meth_ok (c.t.d.fact 47 (f := .meth "RowReader" "next_read") rfl), F⟩
  m_all := (c.t.d.def_ 31 (d := ⟨("RowReader", some "all_told"), "all_told", "RowReader.all_told", defArgs s_RowReader_all_told, defBody s_RowReader_all_told, defScope s_RowReader_all_told, [], []⟩) rfl).elim fun fd F => ⟨_, fd, He.meth_ok (c.t.d.fact 48 (f := .meth "RowReader" "all_told") rfl), F⟩
  m_pair := (c.t.d.def_ 32 (d := ⟨("RowReader", some "read_pair"), "read_pair", "RowReader.read_pair", defArgs s_RowReader_read_pair, defBody s_RowReader_read_pair, defScope s_RowReader_read_pair, [], []⟩) rfl).elim fun fd F => ⟨_, fd, He.meth_ok (c.t.d.fact 49 (f := .meth "RowReader" "read_pair") rfl), F⟩
  m_unit := (c.t.d.def_ 33 (d := ⟨("RowReader", some "read_unit"), "read_unit", "RowReader.read_unit", defArgs s_RowReader_read_unit, defBody s_RowReader_read_unit, defScope s_RowReader_read_unit, [], []⟩) rfl).elim fun fd F => ⟨_, fd, He.meth_ok (c.t.d.fact 50 (f := .meth "RowReader" "read_unit") rfl), F⟩
theorem hnd_of (X : K.In h) (G : h.Ns mainGlobals mg) (c : He.SaysX fa_ fn_ ts_ [] ex_ w h K) : Hnd K mg (He.ga K "BadPaper") (He.ga K "BadText") (He.ga K "BadLine") where
  te := He.exm_ok (c.t.d.fact 52 (f := .exm "BadPaper" "BadPaper" true) rfl)
  ex := excB_ok (x_exc_of c.more)
  gT := He.glo_ok X G (c.t.d.fact 41 (f := .glo "BadText") rfl)
  gL := He.glo_ok X G (c.t.d.fact 42 (f := .glo "BadLine") rfl)
  kT := of_decide_eq_true (x_kT_of c.more)
  kL := of_decide_eq_true (x_kL_of c.more)
  xf := xfB_ok (x_xf_of c.more)
end
/-! ### all together -/
section
variable {P : Program} {w : World} {K : PySem.W.Frag} {mg : Str → Option Value} {base : Heap}
theorem calm_of {k : Nat} {f : Addr} {fd : FuncData} {ps : List Str} {sp : Sp} (F : FnOk P w K mg base (L2.CX P w) k f fd ps sp) : FnOk P w K mg base CX0 k f fd ps (fun vs H Q _ => sp vs H Q E0) :=
  ⟨fun vs H Q E h => F.len vs H Q E0 h, fun A outer s H args us vs Q E hr e0 hb r h => codeAny_mono (F.run A outer s H args us vs Q E0 hr e0 hb r h) fun r s' hs => by
    match r, hs with
    | .ok (.ret u), hs => exact hs
    | .error e, hs =>
      obtain ⟨_, _, _, _, _, _, _, _, _, _, _, _, z⟩ := hs
      exact z.elim⟩
theorem len1 {W : WP} (h : ∀ ρ P, W ρ P → ∃ a, ρ = [a]) (ρ : List Sl) (P : D → List Sl → Prop) (q : W ρ P) : ρ.length = 1 := by
  obtain ⟨a, rfl⟩ := h ρ P q
  rfl
theorem every_ok (C : Ctx K w mg) {fB : Addr} {c bt bl R : Addr} (T : Err K mg c fB) (N : Hnd K mg c bt bl) (Rd : Rdr K mg R) {fw : Addr} {fdw : FuncData} (Fw : At K mg "law" s_law fw fdw) : FnG P w K mg base 12 fw fdw ["script"] (spW K W_law) := by
  have c_read_number := mk_read_number (P := P) (base := base) C (fun ρ Q h => by obtain ⟨s, rfl, _⟩ := h; rfl) x_read_number
  have c_joined := mk_joined (P := P) (base := base) C (fun ρ Q h => by obtain ⟨w, x, ps, rfl, _⟩ := h; rfl) x_joined
  have c_pair_written := mk_pair_written (P := P) (base := base) C c_joined (fun ρ Q h => by obtain ⟨p, rfl, _⟩ := h; rfl) x_pair_written
  have c_write_likeness := mk_write_likeness (P := P) (base := base) C c_pair_written c_joined (fun ρ Q h => by obtain ⟨p, rfl, _⟩ := h; rfl) x_write_likeness
  have c_read_integer := mk_read_integer (P := P) (base := base) C c_read_number (fun ρ Q h => by obtain ⟨s, rfl, _⟩ := h; rfl) x_read_integer
  have c_read_integers := mk_read_integers (P := P) (base := base) C c_read_integer (fun ρ Q h => by obtain ⟨s, rfl, _⟩ := h; rfl) x_read_integers
  have c_read_unit_row := mk_read_unit_row (P := P) (base := base) C c_read_integers (fun ρ Q h => by obtain ⟨s, rfl, _⟩ := h; rfl) x_read_unit_row
  have c_read_pair_row := mk_read_pair_row (P := P) (base := base) C c_read_integers (fun ρ Q h => by obtain ⟨s, rfl, _⟩ := h; rfl) (x_read_pair_row C)
  have c_read_told := mk_read_told (P := P) (base := base) C c_read_integers (fun ρ Q h => by obtain ⟨s, rfl, _⟩ := h; rfl) (x_read_told C)
  have c_read_first_row := mk_read_first_row (P := P) (base := base) C c_read_told c_read_integers (fun ρ Q h => by obtain ⟨s, rfl, _⟩ := h; rfl) x_read_first_row
  have c_read_second_row := mk_read_second_row (P := P) (base := base) C c_read_told c_read_integers (fun ρ Q h => by obtain ⟨s, rfl, _⟩ := h; rfl) x_read_second_row
  have c__law_take := mk__law_take (P := P) (base := base) C (fun ρ Q h => by obtain ⟨p, ds, m, rfl, _⟩ := h; rfl) x__law_take
  have c__law_told_row := mk__law_told_row (P := P) (base := base) C (fun ρ Q h => by obtain ⟨s, rfl, _⟩ := h; rfl) x__law_told_row
  have c__law_text := mk__law_text (P := P) (base := base) C c__law_told_row (fun ρ Q h => by obtain ⟨s, rfl, _⟩ := h; rfl) x__law_text
  have c__law_number := mk__law_number (P := P) (base := base) C c__law_take (fun ρ Q h => by obtain ⟨p, ds, m, b, rfl, _⟩ := h; rfl) x__law_number
  have c__law_drawn_told := mk__law_drawn_told (P := P) (base := base) C c__law_take c__law_number (fun ρ Q h => by obtain ⟨p, ds, rfl, _⟩ := h; rfl) x__law_drawn_told
  have c__law_drawn_paper := mk__law_drawn_paper (P := P) (base := base) C c__law_take c__law_number c__law_drawn_told (fun ρ Q h => by obtain ⟨p, ds, rfl, _⟩ := h; rfl) x__law_drawn_paper
  have c__law_is_number := mk__law_is_number (P := P) (base := base) C (fun ρ Q h => by obtain ⟨s, rfl, _⟩ := h; rfl) x__law_is_number
  have c__law_is_told := mk__law_is_told (P := P) (base := base) C c__law_is_number (fun ρ Q h => by obtain ⟨s, rfl, _⟩ := h; rfl) x__law_is_told
  have c__law_all_are := mk__law_all_are (P := P) (base := base) C c__law_is_number (fun ρ Q h => by obtain ⟨s, rfl, _⟩ := h; rfl) x__law_all_are
  have c__law_wrong_row := mk__law_wrong_row (P := P) (base := base) C c__law_all_are c__law_is_told c__law_is_number (fun ρ Q h => by obtain ⟨s, rfl, _⟩ := h; rfl) x__law_wrong_row
  have c__law_spoilt_row := mk__law_spoilt_row (P := P) (base := base) C c__law_take (fun ρ Q h => by obtain ⟨p, ds, s, n, rfl, _⟩ := h; rfl) x__law_spoilt_row
  have c__law_spoilt := mk__law_spoilt (P := P) (base := base) C c__law_take c__law_spoilt_row (fun ρ Q h => by obtain ⟨p, ds, s, n, rfl, _⟩ := h; rfl) x__law_spoilt
  obtain ⟨fp, fdp, Fp⟩ := C.f__law_pool
  have c__law_pool : C8.Cal P w K mg base 1 "_law_pool" (spN K W_pool) [] := ⟨fp, fdp, ["script"], [], Fp.fn.ok sc__law_pool (fun vs H Q E h => by
      obtain ⟨B, es, R, _, ra, ⟨ns, rfl, _⟩, _⟩ := h
      rw [ra.length]; rfl) (fun cdv A outer s H vs Q E hr h => ⟨t__law_pool K, (d__law_pool C fp cdv A outer s H E hr).nox, body_okN x_pool vs H Q E h⟩), Fp.mgf, Fp.fn.kp, Fp.fn.bindsN (fun _ _ _ _ _ _ us hl => match us, hl with | [_], _ => rfl), .nil⟩
  obtain ⟨fa, fda, Fa⟩ := C.f__law_alike
  have G__law_alike : FnG P w K mg base 1 fa fda ["told", "due"] (spW K W__law_alike) := fnGD Fa.fn sc__law_alike (fun ρ Q h => by obtain ⟨x, p, rfl, _⟩ := h; rfl) (fun cdv A outer s H E ng hr => d__law_alike C fa cdv A outer s H E ng hr) x__law_alike
  -- the reader
  obtain ⟨f1, n1⟩ := nm_of (by decide) c_read_unit_row
  obtain ⟨f2, n2⟩ := nm_of (by decide) c_read_pair_row
  obtain ⟨f3, n3⟩ := nm_of (by decide) c_read_first_row
  obtain ⟨f4, n4⟩ := nm_of (by decide) c_read_second_row
  have mnext : ∀ {α : Type} {f : Addr} {g : List Str → Option α} {h : α → List D} {W : WP} (G : C8.CalAt P w K mg base 5 f (spW K W)) (hW : ∀ (ws : List Str) (P : D → List Sl → Prop), ws ≠ [] → SmWs ws → P (dOpt (fun a => .tup (h a)) (g ws)) [.unk] → W [.dat (dStrs ws)] P), MetX P w K mg base 6 R "next_read" (spX K c (W_next R f g h)) := fun {α f g h W} G hW => by
    obtain ⟨fn, fdn, hm, F⟩ := Rd.m_next
    exact ⟨fn, fdn, ["self", "read"], hm, fnX F sc_next (fun ρ Q X q => by obtain ⟨p, rows, r, rfl, _⟩ := q; rfl) (fun cdv A outer s H E hr => d_next C T G fn cdv A outer s H E hr) (fun E => x_next Rd hW), F.bindsN fun _ _ _ _ _ _ us hl => match us, hl with | [_, _], _ => rfl⟩
  have m1 : MetX P w K mg base 6 R "next_read" (spX K c (W_next R f1 unitR hUnitR)) := mnext n1.2 fun ws P h1 h2 h3 => ⟨ws, rfl, h1, h2, h3⟩
  have m2 : MetX P w K mg base 6 R "next_read" (spX K c (W_next R f2 pairR hPairR)) := mnext n2.2 fun ws P h1 h2 h3 => ⟨ws, rfl, h1, h2, h3⟩
  have m3 : MetX P w K mg base 6 R "next_read" (spX K c (W_next R f3 firstR hFirst)) := mnext n3.2 fun ws P h1 h2 h3 => ⟨ws, rfl, h1, h2, h3⟩
  have m4 : MetX P w K mg base 6 R "next_read" (spX K c (W_next R f4 secondR hSecond)) := mnext n4.2 fun ws P h1 h2 h3 => ⟨ws, rfl, h1, h2, h3⟩
  have mall : ∀ {α : Type} {f : Addr} {g : List Str → Option α} {h : α → List D}, MetX P w K mg base 6 R "next_read" (spX K c (W_next R f g h)) → MetX P w K mg base 7 R "all_told" (spX K c (W_all R f g h)) := fun {α f g h} M => by
    obtain ⟨fn, fdn, hm, F⟩ := Rd.m_all
    exact ⟨fn, fdn, ["self", "word", "read"], hm, fnX F sc_all (fun ρ Q X q => by obtain ⟨p, rows, r, w, rfl, _⟩ := q; rfl) (fun cdv A outer s H E hr => d_all C Rd M fn cdv A outer s H E hr) (fun E => x_all Rd), F.bindsN fun _ _ _ _ _ _ us hl => match us, hl with | [_, _, _], _ => rfl⟩
  have mpair : MetX P w K mg base 8 R "read_pair" (spX K c (W_rpair R)) := by
    obtain ⟨fn, fdn, hm, F⟩ := Rd.m_pair
    exact ⟨fn, fdn, ["self"], hm, fnX F sc_rpair (fun ρ Q X q => by obtain ⟨p, rows, r, rfl, _⟩ := q; rfl) (fun cdv A outer s H E hr => d_rpair Rd n2 n3 n4 m2 (mall m3) (mall m4) fn cdv A outer s H E hr) (fun E => x_rpair), F.bindsN fun _ _ _ _ _ _ us hl => match us, hl with | [_], _ => rfl⟩
  have munit : MetX P w K mg base 9 R "read_unit" (spX K c (W_runit R)) := by
    obtain ⟨fn, fdn, hm, F⟩ := Rd.m_unit
    exact ⟨fn, fdn, ["self"], hm, fnX F sc_runit (fun ρ Q X q => by obtain ⟨p, rows, r, rfl, _⟩ := q; rfl) (fun cdv A outer s H E hr => d_runit C Rd n1 m1 mpair fn cdv A outer s H E hr) (fun E => x_runit), F.bindsN fun _ _ _ _ _ _ us hl => match us, hl with | [_], _ => rfl⟩
  obtain ⟨fI, fdI, MI, FI0⟩ := Rd.i_
  have FI : FnOk P w K mg base CX0 1 fI fdI ["self", "rows"] (spW K (W_rinit R)) := fnD FI0 sc_rinit (fun ρ Q q => by obtain ⟨p, rows, rfl, _⟩ := q; rfl) (fun cdv A outer s H E hr => d_rinit fI cdv A outer s H E) (x_rinit Rd)
  have bI : L2.Binds K fdI ["self", "rows"] [] := FI0.bindsN fun _ _ _ _ _ _ us hl => match us, hl with | [_, _], _ => rfl
  obtain ⟨fl, fdl, Fl⟩ := C.f_read_likeness
  have Fl1 : FnOk P w K mg base (L2.CX P w) 10 fl fdl ["text"] (spX K c W_like) := fnX Fl.fn sc_like (fun ρ Q X q => by obtain ⟨s, rfl, _⟩ := q; rfl) (fun cdv A outer s H E hr => d_like C Rd MI FI bI munit fl cdv A outer s H E hr) (fun E => x_like Rd)
  have bl_ : L2.Binds K fdl ["text"] [] := Fl.fn.bindsN fun _ _ _ _ _ _ us hl => match us, hl with | [_], _ => rfl
  have cx_like : CalX P w K mg base 10 "read_likeness" (spX K c W_like) := ⟨fl, fdl, ["text"], Fl1, Fl.mgf, Fl.fn.kp, bl_⟩
  have c_read_likeness : C8.Cal P w K mg base 10 "read_likeness" (spW K W_read_likeness) [] := ⟨fl, fdl, ["text"], [], (calm_of Fl1).imp fun vs H Q E h => by
      obtain ⟨B, ρ, R', e, ⟨s, p, rfl, hz, hr, hp⟩, k⟩ := h
      refine ⟨B, _, R', fun _ => False, e, ⟨s, rfl, hz, ?_⟩, k, fun r d B' H' z => z.elim⟩
      rw [hr]
      exact hp, Fl.mgf, Fl.fn.kp, bl_, .nil⟩
  obtain ⟨fr, fdr, Fr⟩ := C.f__law_row_told
  have c__law_row_told : C8.Cal P w K mg base 11 "_law_row_told" (spW K W__law_row_told) [] := ⟨fr, fdr, ["text"], [], fnD Fr.fn sc_rtold (fun ρ Q q => by obtain ⟨s, rfl, _⟩ := q; rfl) (fun cdv A outer s H E hr => d_rtold C T N cx_like fr cdv A outer s H E hr) (x_rtold N), Fr.mgf, Fr.fn.kp, Fr.fn.bindsN (fun _ _ _ _ _ _ us hl => match us, hl with | [_], _ => rfl), .nil⟩
  have bA : L2.Binds K fda ["told", "due"] [] := Fa.fn.bindsN fun _ _ _ _ _ _ us hl => match us, hl with | [_, _], _ => rfl
  exact fnGD Fw.fn sc_law (fun ρ Q h => by obtain ⟨ns, rfl, _⟩ := h; rfl) (fun cdv A outer s H E ng hr => d_law C ⟨G__law_alike, Fa.mgf, Fa.fn.kp, bA⟩ c_read_likeness c_write_likeness c__law_text c__law_row_told c__law_wrong_row c__law_take c__law_spoilt c__law_drawn_paper c__law_pool fw cdv A outer s H E ng hr) x_law
end
/-! ### the head's run -/
theorem run_ (w : World) : HandSHeadRun.RunEq R_ (PySem.W.view R_.prog [lawI_]) hk_ ob_ 3000 loose_ w := by
  refine PySem.W.byRow2 "special-get-raises" (P := fun w => HandSHeadRun.RunEq R_ (PySem.W.view R_.prog [lawI_]) hk_ ob_ 3000 loose_ w) ?_ ?_ w
  · intro w os
    kernel_rfl
  · intro w os
    kernel_rfl
/-! ### what the head says is enough -/
theorem end_of {P : Program} {w : World} {K : PySem.W.Frag} {h : Heap} {mg : Str → Option Value} (X : K.In h) (G : h.Ns mainGlobals mg) (c : He.SaysX fa_ fn_ ts_ [] ex_ w h K) :
    ∃ f fd, mg "law" = some (.ref f) ∧ (∀ base : Heap, K.In base → base.Ns mainGlobals mg → FnG P w K mg base 12 f fd ["script"] (spW K W_law)) ∧ ∀ (s : Shared) (u : Value), BindsTo s fd ⟨[u], []⟩ [("script", u)] := by
  obtain ⟨fw, fdw, Fw⟩ := (ctx_of X G c).f_law
  refine ⟨fw, fdw, Fw.mgf, fun base _ _ => ?_, fun s v => FunD.bindsA (ps := ["script"]) Fw.fn (fun _ _ _ _ _ _ us hl => match us, hl with | [_], _ => rfl) s [v] rfl⟩
  exact every_ok (ctx_of X G c) (err_of X G c) (hnd_of X G c) (rdr_of X G c) Fw
/-! ### the law -/
theorem law_envs {K : PySem.W.Frag} {H : Hp} {a : Addr} {ns : List Int} (hS : SqL K H a (ns.map V.int)) : Envs K H H ([V.ref a].map some) [.dat (.rol (ns.map .int))] := by
  have ra : ∀ l : List Int, RepAll K H (l.map V.int) (l.map D.int) := fun l => by
    induction l with
    | nil => exact .nil
    | cons i l ih => exact .cons (.int i) ih
  refine ⟨Evl.Ex.refl H, rfl, fun i s h => ?_, fun i j s t p h1 _ h3 _ => ?_⟩
  · match i, h with
    | 0, h =>
      obtain rfl := Option.some.inj h
      exact ⟨_, rfl, .rol hS (ra ns)⟩
  · match i, h1 with
    | 0, h1 =>
      obtain rfl := Option.some.inj h1
      cases h3
end K95
open PySem PySem.W PySem.Calls PyProof.Rows
theorem PySem.Challenge.cw_swornlike_k95_spoilt_texts_of_papers_holds : PySem.Challenge.rw_swornlike_k95_spoilt_texts_of_papers.Holds := by
  w_on; o_law
  refine HandSHeadRun.head_any (r := OpenLaw.row PySem.Challenge.rw_swornlike_k95_spoilt_texts_of_papers) (q := view (OpenLaw.row PySem.Challenge.rw_swornlike_k95_spoilt_texts_of_papers).prog [K95.lawI_]) (H := K95.hk_) (ob := K95.ob_) (M := 3000) (loose := K95.loose_) (d := HandSHeadRun.topDef (OpenLaw.row PySem.Challenge.rw_swornlike_k95_spoilt_texts_of_papers).prog K95.lawI_) (kwd := []) K95.ob_eq_
    (by kernel_rfl) (fun s => by kernel_rfl) K95.run_ (by kernel_rfl) (by kernel_rfl) (by kernel_rfl) (by rfl) (by first | assumption | decide +kernel) (by decide +kernel) ⟨rfl, rfl, rfl, rfl, rfl, by decide +kernel⟩ ?hw ?hc
  case hw => w_witness2
  case hc =>
    refine Dn.walk_ofG (l := PySem.Challenge.rw_swornlike_k95_spoilt_texts_of_papers) (n := 63) (k := 12) (x := "script") rfl (by decide) (by kernel_rfl) ⟨rfl, by decide, by decide⟩ ?F
    intro w mg fa h Y G hmg0
    obtain ⟨K, KX, c⟩ := Y
    have hmg : mg ("law" : PySem.Str) = some (.ref fa) := by
      have e : (HandSHeadRun.topDef (OpenLaw.row PySem.Challenge.rw_swornlike_k95_spoilt_texts_of_papers).prog K95.lawI_).name = ("law" : PySem.Str) := by kernel_rfl
      rw [← e]
      exact hmg0
    obtain ⟨f, fd, hm, hF, hb⟩ := K95.end_of (P := (PySem.Challenge.rw_swornlike_k95_spoilt_texts_of_papers).prog) (w := w) KX G c
    rw [hmg] at hm
    cases hm
    exact ⟨K, fd, Dn.spW K K95.W_law, KX, hb, fun H a ns hl _ hS => ⟨H, _, fun d _ => d = .bl true, K95.law_envs hS, ⟨ns, rfl, hl, rfl⟩, fun v B' H' d ρ' hd _ _ _ r => by
      subst hd
      cases r
      rfl⟩, hF⟩
