import PyProof.Rows.All
import Wide.All
import OpenK.AllK
import Wide.FinOn
import PyProof.EqAt
import PyProof.EqKinds
import PyProof.TupleCall
import Open.SpecLaws
import KE.OsGo
import HandS.ForSpec
import HandS.Comp
import HandS.Iter
import HandS.ExcInit
import HandS.ExcField
import PyProof.NoPylong
import PySem.Challenge.RW_quietaids_s01_answers
set_option Elab.async false
set_option linter.all false
set_option maxRecDepth 100000
set_option maxHeartbeats 4000000
namespace Qa
open PySem PySem.Spec PyProof.Rows L2

/-! ### data, and how it lies in a heap -/
inductive D where
  | int (n : Int) | bl (b : Bool) | non | tup (l : List D) | lst (l : List D) | ins (C : Addr) (ns : List Str) (l : List D)

mutual
def Rp (K : PySem.W.Frag) (G : Hp) : D → V → Prop
  | .int n, v => v = .int n
  | .bl b, v => v = .bl b
  | .non, v => v = .non
  | .tup l, v => ∃ a vs, v = .ref a ∧ SqT K G a vs ∧ RpL K G l vs
  | .lst l, v => ∃ a vs, v = .ref a ∧ G a = some (.lst vs) ∧ RpL K G l vs
  | .ins C ns l, v => ∃ a dx vs, v = .ref a ∧ G a = some (.ins C dx (ns.zip vs)) ∧ ns.length = l.length ∧ RpL K G l vs
def RpL (K : PySem.W.Frag) (G : Hp) : List D → List V → Prop
  | [], vs => vs = []
  | d :: l, vs => ∃ v r, vs = v :: r ∧ Rp K G d v ∧ RpL K G l r
end

section
variable {K : PySem.W.Frag} {G G' H H' : Hp}
theorem sqt_mono (e : Same G G') {a : Addr} {vs : List V} (h : SqT K G a vs) : SqT K G' a vs := by
  rcases h with (h | ⟨o, h⟩) | h
  · exact .inl (.inl (e _ _ h))
  · exact .inl (.inr ⟨o, e _ _ h⟩)
  · exact .inr h
mutual
theorem Rp.mono (e : Same G G') : ∀ (d : D) (v : V), Rp K G d v → Rp K G' d v
  | .int n, v, h => h
  | .bl b, v, h => h
  | .non, v, h => h
  | .tup l, v, h => by
    obtain ⟨a, vs, e1, e2, e3⟩ := h
    exact ⟨a, vs, e1, sqt_mono e e2, RpL.mono e l vs e3⟩
  | .lst l, v, h => by
    obtain ⟨a, vs, e1, e2, e3⟩ := h
    exact ⟨a, vs, e1, e _ _ e2, RpL.mono e l vs e3⟩
  | .ins C ns l, v, h => by
    obtain ⟨a, dx, vs, e1, e2, e3, e4⟩ := h
    exact ⟨a, dx, vs, e1, e _ _ e2, e3, RpL.mono e l vs e4⟩
theorem RpL.mono (e : Same G G') : ∀ (l : List D) (vs : List V), RpL K G l vs → RpL K G' l vs
  | [], vs, h => h
  | d :: l, vs, h => by
    obtain ⟨v, r, e1, e2, e3⟩ := h
    exact ⟨v, r, e1, Rp.mono e d v e2, RpL.mono e l r e3⟩
end
theorem RpL.len : ∀ {l : List D} {vs : List V}, RpL K G l vs → vs.length = l.length
  | [], vs, h => by
    have h : vs = [] := h
    rw [h] <;> rfl
  | d :: l, vs, h => by
    obtain ⟨v, r, e1, _, e3⟩ := h
    rw [e1, List.length_cons, List.length_cons, RpL.len e3]
theorem RpL.get : ∀ {l : List D} {vs : List V} {i : Nat} {d : D}, RpL K G l vs → l[i]? = some d → ∃ v, vs[i]? = some v ∧ Rp K G d v
  | [], _, _, _, _, h => by simp at h
  | x :: l, vs, 0, d, hr, h => by
    obtain ⟨v, r, e1, e2, _⟩ := hr
    have e : x = d := by simpa using h
    subst e
    exact ⟨v, by rw [e1] <;> rfl, e2⟩
  | x :: l, vs, i + 1, d, hr, h => by
    obtain ⟨v, r, e1, _, e3⟩ := hr
    obtain ⟨w, h1, h2⟩ := RpL.get (i := i) e3 (by simpa using h)
    exact ⟨w, by rw [e1]; simpa using h1, h2⟩
theorem RpL.get' {l : List D} {vs : List V} {i : Nat} {v : V} (hr : RpL K G l vs) (h : vs[i]? = some v) : ∃ d, l[i]? = some d ∧ Rp K G d v := by
  obtain ⟨hi, _⟩ := List.getElem?_eq_some_iff.mp h
  have hi' : i < l.length := by rw [← hr.len]; exact hi
  obtain ⟨w, h1, h2⟩ := hr.get (List.getElem?_eq_getElem hi')
  rw [h] at h1
  cases h1
  exact ⟨_, List.getElem?_eq_getElem hi', h2⟩
theorem RpL.append : ∀ {l m : List D} {vs ws : List V}, RpL K G l vs → RpL K G m ws → RpL K G (l ++ m) (vs ++ ws)
  | [], m, vs, ws, h, h2 => by
    have h : vs = [] := h
    rw [h]
    exact h2
  | d :: l, m, vs, ws, h, h2 => by
    obtain ⟨v, r, e1, e2, e3⟩ := h
    exact ⟨v, r ++ ws, by rw [e1] <;> rfl, e2, RpL.append e3 h2⟩
theorem RpL.one {d : D} {v : V} (h : Rp K G d v) : RpL K G [d] [v] := ⟨v, [], rfl, h, rfl⟩
theorem RpL.take : ∀ {l : List D} {vs : List V} (n : Nat), RpL K G l vs → RpL K G (l.take n) (vs.take n)
  | [], vs, n, h => by
    have h : vs = [] := h
    rw [h, List.take_nil, List.take_nil] <;> rfl
  | d :: l, vs, 0, h => by
    rw [List.take_zero, List.take_zero] <;> rfl
  | d :: l, vs, n + 1, h => by
    obtain ⟨v, r, e1, e2, e3⟩ := h
    rw [e1, List.take_succ_cons, List.take_succ_cons]
    exact ⟨v, _, rfl, e2, RpL.take n e3⟩
theorem RpL.drop : ∀ {l : List D} {vs : List V} (n : Nat), RpL K G l vs → RpL K G (l.drop n) (vs.drop n)
  | [], vs, n, h => by
    have h : vs = [] := h
    rw [h, List.drop_nil, List.drop_nil] <;> rfl
  | d :: l, vs, 0, h => by
    rw [List.drop_zero, List.drop_zero]
    exact h
  | d :: l, vs, n + 1, h => by
    obtain ⟨v, r, e1, e2, e3⟩ := h
    rw [e1, List.drop_succ_cons, List.drop_succ_cons]
    exact RpL.drop n e3
theorem RpL.set : ∀ {l : List D} {vs : List V} {d : D} {v : V} (n : Nat), RpL K G l vs → Rp K G d v → RpL K G (l.set n d) (vs.set n v)
  | [], vs, d, v, n, h, hd => by
    have h : vs = [] := h
    rw [h] <;> rfl
  | x :: l, vs, d, v, 0, h, hd => by
    obtain ⟨w, r, e1, e2, e3⟩ := h
    rw [e1]
    exact ⟨v, r, rfl, hd, e3⟩
  | x :: l, vs, d, v, n + 1, h, hd => by
    obtain ⟨w, r, e1, e2, e3⟩ := h
    rw [e1]
    exact ⟨w, _, rfl, e2, RpL.set n e3 hd⟩
theorem RpL.rep {d : D} {v : V} (h : Rp K G d v) : ∀ n : Nat, RpL K G (List.replicate n d) (List.replicate n v)
  | 0 => rfl
  | n + 1 => ⟨v, _, rfl, h, RpL.rep h n⟩
theorem RpL.ints : ∀ {ns : List Int} {vs : List V}, RpL K G (ns.map D.int) vs → vs = ns.map V.int
  | [], vs, h => h
  | n :: ns, vs, h => by
    obtain ⟨v, r, e1, e2, e3⟩ := h
    have e2 : v = .int n := e2
    rw [e1, e2, RpL.ints e3] <;> rfl
theorem rpl_ints : ∀ (ns : List Int), RpL K G (ns.map D.int) (ns.map V.int)
  | [] => rfl
  | n :: ns => ⟨.int n, _, rfl, rfl, rpl_ints ns⟩
theorem RpL.bools : ∀ {ns : List Bool} {vs : List V}, RpL K G (ns.map D.bl) vs → vs = ns.map V.bl
  | [], vs, h => h
  | n :: ns, vs, h => by
    obtain ⟨v, r, e1, e2, e3⟩ := h
    have e2 : v = .bl n := e2
    rw [e1, e2, RpL.bools e3] <;> rfl
end

/-! ### the state: a ghost heap G of what stays, the heap H around it, the entry's both -/
structure Gh (G0 H0 G H : Hp) : Prop where
  gg : Same G0 G
  hh : Same H0 H
  gh : Same G H
  fr : ∀ a, H0 a ≠ none → G0 a = none → G a = none
theorem Gh.refl {G H : Hp} (h : Same G H) : Gh G H G H := ⟨Same.refl _, Same.refl _, h, fun _ _ h => h⟩
theorem some_ne {H H' : Hp} (e : Same H H') {a : Addr} (h : H a ≠ none) : H' a ≠ none := by
  cases q : H a with
  | none => exact absurd q h
  | some o =>
    rw [e a o q]
    exact fun z => nomatch z
theorem Gh.trans {G0 H0 G1 H1 G2 H2 : Hp} (a : Gh G0 H0 G1 H1) (b : Gh G1 H1 G2 H2) : Gh G0 H0 G2 H2 :=
  ⟨a.gg.trans b.gg, a.hh.trans b.hh, b.gh, fun x h1 h2 => b.fr x (some_ne a.hh h1) (a.fr x h1 h2)⟩
theorem same_new {H : Hp} {p : Addr} {o : HO} (h : H p = none) : Same H (upd H p o) := fun b u e => by
  rw [upd_ne (ne_of_none e h)]
  exact e
theorem same_free {G H : Hp} (e : Same G H) {p : Addr} (h : H p = none) : G p = none := e.free h
/-- a new object, not in the ghost -/
theorem Gh.alloc {G H : Hp} (g : Same G H) {p : Addr} {o : HO} (h : H p = none) : Gh G H G (upd H p o) :=
  ⟨Same.refl _, same_new h, fun b u e => by rw [upd_ne (ne_of_none (g _ _ e) h)]; exact g _ _ e, fun _ _ h => h⟩
/-- .. put into the ghost -/
theorem Gh.put {G0 H0 G H : Hp} (g : Gh G0 H0 G H) {p : Addr} {o : HO} (h0 : H0 p = none) (h1 : G p = none) (h2 : H p = some o) : Gh G0 H0 (upd G p o) H :=
  ⟨fun b u e => by rw [upd_ne (ne_of_none (g.gg _ _ e) h1)]; exact g.gg _ _ e, g.hh, fun b u e => by
    by_cases hb : b = p
    · subst hb
      rw [upd_same] at e
      cases e
      exact h2
    · rw [upd_ne hb] at e
      exact g.gh _ _ e, fun a q1 q2 => by
    by_cases ha : a = p
    · subst ha
      exact absurd h0 q1
    · rw [upd_ne ha]
      exact g.fr a q1 q2⟩
theorem Gh.allocPut {G H : Hp} (g : Same G H) {p : Addr} {o : HO} (h : H p = none) : Gh G H (upd G p o) (upd H p o) :=
  (Gh.alloc g h).put h (g.free h) upd_same
/-- what isn't in the ghost nor was at the entry is written -/
theorem Gh.write {G0 H0 G H : Hp} (g : Gh G0 H0 G H) {p : Addr} {o : HO} (h0 : H0 p = none) (h1 : G p = none) : Gh G0 H0 G (upd H p o) :=
  ⟨g.gg, fun b u e => by rw [upd_ne (ne_of_none e h0)]; exact g.hh _ _ e, fun b u e => by rw [upd_ne (ne_of_none e h1)]; exact g.gh _ _ e, g.fr⟩

inductive Ent where
  | no | fz (d : D) | ow (l : List D) | ex (v : V)
def EntOk (K : PySem.W.Frag) (H0 G H : Hp) : Ent → Option V → Prop
  | .no, _ => True
  | .fz d, o => ∃ v, o = some v ∧ Rp K G d v
  | .ow l, o => ∃ p vs, o = some (.ref p) ∧ H0 p = none ∧ G p = none ∧ H p = some (.lst vs) ∧ RpL K G l vs
  | .ex v, o => o = some v
def EnvOk (K : PySem.W.Frag) (H0 G H : Hp) : List Ent → L2.St → Prop
  | [], σ => σ = []
  | e :: Γ, σ => ∃ o r, σ = o :: r ∧ EntOk K H0 G H e o ∧ EnvOk K H0 G H Γ r
structure Stt (K : PySem.W.Frag) (G0 H0 : Hp) (Γ : List Ent) (σ : L2.St) (G H : Hp) : Prop where
  gh : Gh G0 H0 G H
  env : EnvOk K H0 G H Γ σ

section
variable {K : PySem.W.Frag} {G0 H0 G H G1 H1 G2 H2 : Hp} {Γ Γ' : List Ent} {σ : L2.St} {e : Ent} {o : Option V} {d : D} {l : List D}
theorem EntOk.step (g : Gh G H G2 H2) : ∀ {e : Ent}, EntOk K H0 G H e o → EntOk K H0 G2 H2 e o
  | .no, h => h
  | .fz d, h => by
    obtain ⟨v, e1, e2⟩ := h
    exact ⟨v, e1, Rp.mono g.gg _ _ e2⟩
  | .ow l, h => by
    obtain ⟨p, vs, e1, e2, e3, e4, e5⟩ := h
    exact ⟨p, vs, e1, e2, g.fr p (by rw [e4]; exact fun z => nomatch z) e3, g.hh _ _ e4, RpL.mono g.gg _ _ e5⟩
  | .ex _, h => h
theorem EnvOk.step (g : Gh G H G2 H2) : ∀ {Γ : List Ent} {σ : L2.St}, EnvOk K H0 G H Γ σ → EnvOk K H0 G2 H2 Γ σ
  | [], _, h => h
  | e :: Γ, σ, h => by
    obtain ⟨o, r, e1, e2, e3⟩ := h
    exact ⟨o, r, e1, e2.step g, EnvOk.step g e3⟩
theorem Stt.step (s : Stt K G0 H0 Γ σ G H) (g : Gh G H G2 H2) : Stt K G0 H0 Γ σ G2 H2 := ⟨s.gh.trans g, s.env.step g⟩
theorem EnvOk.get : ∀ {Γ : List Ent} {σ : L2.St} {i : Nat} {e : Ent}, EnvOk K H0 G H Γ σ → Γ[i]? = some e → ∃ o, σ[i]? = some o ∧ EntOk K H0 G H e o
  | [], _, _, _, _, h => by simp at h
  | x :: Γ, σ, 0, e, hr, h => by
    obtain ⟨o, r, e1, e2, _⟩ := hr
    have z : x = e := by simpa using h
    subst z
    exact ⟨o, by rw [e1] <;> rfl, e2⟩
  | x :: Γ, σ, i + 1, e, hr, h => by
    obtain ⟨o, r, e1, _, e3⟩ := hr
    obtain ⟨w, h1, h2⟩ := EnvOk.get (i := i) e3 (by simpa using h)
    exact ⟨w, by rw [e1]; simpa using h1, h2⟩
theorem EnvOk.set : ∀ {Γ : List Ent} {σ : L2.St} {e : Ent} {o : Option V} (n : Nat), EnvOk K H0 G H Γ σ → EntOk K H0 G H e o → EnvOk K H0 G H (Γ.set n e) (σ.set n o)
  | [], σ, e, o, n, h, hd => by
    have h : σ = [] := h
    rw [h] <;> rfl
  | x :: Γ, σ, e, o, 0, h, hd => by
    obtain ⟨w, r, e1, e2, e3⟩ := h
    rw [e1]
    exact ⟨o, r, rfl, hd, e3⟩
  | x :: Γ, σ, e, o, n + 1, h, hd => by
    obtain ⟨w, r, e1, e2, e3⟩ := h
    rw [e1]
    exact ⟨w, _, rfl, e2, EnvOk.set n e3 hd⟩
/-- the other entries own nothing -/
def lone : List Ent → Bool
  | [] => true
  | .ow _ :: _ => false
  | _ :: Γ => lone Γ
def sole : List Ent → Nat → Bool
  | [], _ => true
  | _ :: Γ, 0 => lone Γ
  | .ow _ :: _, _ + 1 => false
  | _ :: Γ, n + 1 => sole Γ n
theorem EntOk.wr {p : Addr} {u : HO} : ∀ {e : Ent}, (∀ l, e ≠ .ow l) → EntOk K H0 G H e o → EntOk K H0 G (upd H p u) e o
  | .no, _, h => h
  | .fz _, _, h => h
  | .ow l, n, _ => absurd rfl (n l)
  | .ex _, _, h => h
theorem EnvOk.wrL {p : Addr} {u : HO} : ∀ {Γ : List Ent} {σ : L2.St}, lone Γ = true → EnvOk K H0 G H Γ σ → EnvOk K H0 G (upd H p u) Γ σ
  | [], _, _, h => h
  | e :: Γ, σ, hl, h => by
    obtain ⟨o, r, e1, e2, e3⟩ := h
    cases e with
    | no => exact ⟨o, r, e1, trivial, EnvOk.wrL hl e3⟩
    | fz d => exact ⟨o, r, e1, e2, EnvOk.wrL hl e3⟩
    | ex v => exact ⟨o, r, e1, e2, EnvOk.wrL hl e3⟩
    | ow l => exact absurd (show false = true from hl) Bool.false_ne_true
/-- the owned list at slot i becomes another -/
theorem EnvOk.wr {p : Addr} {vs : List V} : ∀ {Γ : List Ent} {σ : L2.St} {i : Nat}, sole Γ i = true → EnvOk K H0 G H Γ σ → i < Γ.length → σ[i]? = some (some (.ref p)) → H0 p = none → G p = none → RpL K G l vs →
    EnvOk K H0 G (upd H p (.lst vs)) (Γ.set i (.ow l)) σ
  | [], _, _, _, _, hi, _, _, _, _ => absurd hi (Nat.not_lt_zero _)
  | e :: Γ, σ, 0, hl, h, _, hs, h0, h1, hr => by
    obtain ⟨o, r, e1, e2, e3⟩ := h
    rw [e1] at hs
    have z : o = some (.ref p) := by simpa using hs
    exact ⟨o, r, e1, ⟨p, vs, z, h0, h1, upd_same, hr⟩, EnvOk.wrL hl e3⟩
  | e :: Γ, σ, i + 1, hl, h, hi, hs, h0, h1, hr => by
    obtain ⟨o, r, e1, e2, e3⟩ := h
    rw [e1] at hs
    have hs' : r[i]? = some (some (.ref p)) := by simpa using hs
    have hi' : i < Γ.length := Nat.lt_of_succ_lt_succ hi
    cases e with
    | no => exact ⟨o, r, e1, trivial, EnvOk.wr hl e3 hi' hs' h0 h1 hr⟩
    | fz d => exact ⟨o, r, e1, e2, EnvOk.wr hl e3 hi' hs' h0 h1 hr⟩
    | ex v => exact ⟨o, r, e1, e2, EnvOk.wr hl e3 hi' hs' h0 h1 hr⟩
    | ow l => exact absurd (show false = true from hl) Bool.false_ne_true
/-- fewer things known -/
def GLe : List Ent → List Ent → Prop
  | [], [] => True
  | e :: Γ, e' :: Γ' => (e' = .no ∨ e = e') ∧ GLe Γ Γ'
  | _, _ => False
theorem GLe.refl : ∀ Γ : List Ent, GLe Γ Γ
  | [] => trivial
  | _ :: Γ => ⟨.inr rfl, GLe.refl Γ⟩
theorem EnvOk.le : ∀ {Γ Γ' : List Ent} {σ : L2.St}, GLe Γ Γ' → EnvOk K H0 G H Γ σ → EnvOk K H0 G H Γ' σ
  | [], [], _, _, h => h
  | e :: Γ, e' :: Γ', σ, hl, h => by
    obtain ⟨o, r, e1, e2, e3⟩ := h
    rcases hl.1 with z | z
    · subst z
      exact ⟨o, r, e1, trivial, EnvOk.le hl.2 e3⟩
    · subst z
      exact ⟨o, r, e1, e2, EnvOk.le hl.2 e3⟩
  | [], _ :: _, _, hl, _ => hl.elim
  | _ :: _, [], _, hl, _ => hl.elim
theorem Stt.le (s : Stt K G0 H0 Γ σ G H) (h : GLe Γ Γ') : Stt K G0 H0 Γ' σ G H := ⟨s.gh, s.env.le h⟩
theorem EnvOk.len : ∀ {Γ : List Ent} {σ : L2.St}, EnvOk K H0 G H Γ σ → σ.length = Γ.length
  | [], _, h => by
    rw [show _ = [] from h]
    rfl
  | e :: Γ, σ, h => by
    obtain ⟨o, r, e1, _, e3⟩ := h
    rw [e1, List.length_cons, List.length_cons, EnvOk.len e3]
/-- the entry's ghost moved on -/
theorem Gh.base (a : Gh G0 H0 G1 H1) (b : Gh G1 H0 G2 H2) : Gh G0 H0 G2 H2 := ⟨a.gg.trans b.gg, b.hh, b.gh, fun x h1 h2 => b.fr x h1 (a.fr x h1 h2)⟩
theorem Stt.base (a : Gh G0 H0 G1 H1) (s : Stt K G1 H0 Γ σ G H) : Stt K G0 H0 Γ σ G H := ⟨a.base s.gh, s.env⟩
theorem Stt.rebase (s : Stt K G0 H0 Γ σ G H) : Stt K G H0 Γ σ G H := ⟨⟨Same.refl _, s.gh.hh, s.gh.gh, fun _ _ h => h⟩, s.env⟩
theorem Stt.moved (s : Stt K G0 H0 Γ σ G H) : Gh G0 H0 G H := s.gh
end
end Qa

set_option Elab.async false
set_option linter.all false
set_option maxRecDepth 100000
set_option maxHeartbeats 4000000
namespace Qa
open PySem PySem.Spec PyProof.Rows L2

/-! ### what an expression, a test, an argument list comes to -/
section
variable (K : PySem.W.Frag) (G0 H0 : Hp) (Γ : List Ent)
def Evd (te : TE) (d : D) : Prop := ∀ σ G H, Stt K G0 H0 Γ σ G H → ∀ Q : VK, (∀ v G2 H2, Gh G H G2 H2 → Rp K G2 d v → Q v H2) → te σ H Q
/-- a new list, which nobody has -/
def EvN (te : TE) (l : List D) : Prop := ∀ σ G H, Stt K G0 H0 Γ σ G H → ∀ Q : VK, (∀ p vs G2 H2, Gh G H G2 H2 → H p = none → G2 p = none → H2 p = some (.lst vs) → RpL K G2 l vs → Q (.ref p) H2) → te σ H Q
def EvT (tt : TT) (b : Bool) : Prop := ∀ σ G H, Stt K G0 H0 Γ σ G H → ∀ Q : Bool → Hp → Prop, (∀ G2 H2, Gh G H G2 H2 → Q b H2) → tt σ H Q
def EvA (ta : TA) (ds : List D) : Prop := ∀ σ G H, Stt K G0 H0 Γ σ G H → ∀ Q : List V → Hp → Prop, (∀ vs G2 H2, Gh G H G2 H2 → RpL K G2 ds vs → Q vs H2) → ta σ H Q
def EvO (to : TO) (o : Option Int) : Prop := ∀ σ G H, Stt K G0 H0 Γ σ G H → ∀ Q : Option Int → Hp → Prop, (∀ G2 H2, Gh G H G2 H2 → Q o H2) → to σ H Q
/-- an own list stands in slot i -/
def OwAt (i : Nat) (l : List D) : Prop := Γ[i]? = some (.ow l)
end
section
variable {K K' : PySem.W.Frag} {G0 H0 : Hp} {Γ : List Ent} {ta tb tc te : TE} {t u : TT} {d e : D} {l m : List D} {i j : Int} {b c : Bool}
theorem Evd.cast (h : Evd K G0 H0 Γ te d) (e' : d = e) : Evd K G0 H0 Γ te e := e' ▸ h
theorem EvN.cast (h : EvN K G0 H0 Γ te l) (e' : l = m) : EvN K G0 H0 Γ te m := e' ▸ h
theorem EvT.cast (h : EvT K G0 H0 Γ t b) (e' : b = c) : EvT K G0 H0 Γ t c := e' ▸ h
theorem EvN.dd (h : EvN K G0 H0 Γ te l) : Evd K G0 H0 Γ te (.lst l) := fun σ G H s Q q =>
  h σ G H s Q fun p vs G2 H2 g h0 h1 h2 r => q _ _ H2 (g.put h0 h1 h2) ⟨p, vs, rfl, upd_same, RpL.mono (same_new h1) _ _ r⟩
theorem ev_var {n : Nat} (h : Γ[n]? = some (.fz d)) : Evd K G0 H0 Γ (tVar n) d := fun σ G H s Q q => by
  obtain ⟨o, h1, v, h2, h3⟩ := s.env.get h
  subst h2
  exact ⟨v, h1, q v G H (Gh.refl s.gh.gh) h3⟩
theorem ev_int {n : Int} : Evd K G0 H0 Γ (tC (.int n)) (.int n) := fun σ G H s Q q => q _ G H (Gh.refl s.gh.gh) rfl
theorem ev_bl {n : Bool} : Evd K G0 H0 Γ (tC (.bl n)) (.bl n) := fun σ G H s Q q => q _ G H (Gh.refl s.gh.gh) rfl
theorem ev_non : Evd K G0 H0 Γ (tC .non) .non := fun σ G H s Q q => q _ G H (Gh.refl s.gh.gh) rfl
theorem ev_k {v : V} (h : ∀ G, Rp K G d v) : Evd K G0 H0 Γ (tC v) d := fun σ G H s Q q => q _ G H (Gh.refl s.gh.gh) (h G)
theorem ev_op {r : R2} {x y : D} (ha : Evd K G0 H0 Γ ta x) (hb : Evd K G0 H0 Γ tb y)
    (hr : ∀ G H v w, Gh G0 H0 G H → Rp K G x v → Rp K G y w → ∀ Q : VK, (∀ z G2 H2, Gh G H G2 H2 → Rp K G2 d z → Q z H2) → r v w H Q) : Evd K G0 H0 Γ (tOp r ta tb) d := fun σ G H s Q q =>
  ha σ G H s _ fun v G1 H1 g1 r1 => hb σ G1 H1 (s.step g1) _ fun w G2 H2 g2 r2 => hr G2 H2 v w ((s.step g1).step g2).gh (Rp.mono g2.gg _ _ r1) r2 Q fun z G3 H3 g3 r3 => q z G3 H3 ((g1.trans g2).trans g3) r3
theorem ev_I0 {g : Int → Int → V} (ha : Evd K G0 H0 Γ ta (.int i)) (hb : Evd K G0 H0 Γ tb (.int j)) (hd : ∀ G, Rp K G d (g i j)) : Evd K G0 H0 Γ (tOp (rI0 g) ta tb) d :=
  ev_op ha hb fun G H v w s e1 e2 Q q => ⟨i, j, e1, e2, q _ G H (Gh.refl s.gh) (hd G)⟩
theorem ev_I {C : Int → Int → Prop} {g : Int → Int → V} (ha : Evd K G0 H0 Γ ta (.int i)) (hb : Evd K G0 H0 Γ tb (.int j)) (hc : C i j) (hd : ∀ G, Rp K G d (g i j)) : Evd K G0 H0 Γ (tOp (rI C g) ta tb) d :=
  ev_op ha hb fun G H v w s e1 e2 Q q => ⟨i, j, e1, e2, hc, q _ G H (Gh.refl s.gh) (hd G)⟩
theorem ev_add (ha : Evd K G0 H0 Γ ta (.int i)) (hb : Evd K G0 H0 Γ tb (.int j)) : Evd K G0 H0 Γ (tOp (rI0 fun i j => .int (i + j)) ta tb) (.int (i + j)) := ev_I0 ha hb fun _ => rfl
theorem ev_sub (ha : Evd K G0 H0 Γ ta (.int i)) (hb : Evd K G0 H0 Γ tb (.int j)) : Evd K G0 H0 Γ (tOp (rI0 fun i j => .int (i - j)) ta tb) (.int (i - j)) := ev_I0 ha hb fun _ => rfl
theorem ev_lt (ha : Evd K G0 H0 Γ ta (.int i)) (hb : Evd K G0 H0 Γ tb (.int j)) : Evd K G0 H0 Γ (tOp (rI0 fun i j => .bl (decide (i < j))) ta tb) (.bl (decide (i < j))) := ev_I0 ha hb fun _ => rfl
theorem ev_le (ha : Evd K G0 H0 Γ ta (.int i)) (hb : Evd K G0 H0 Γ tb (.int j)) : Evd K G0 H0 Γ (tOp (rI0 fun i j => .bl (decide (i ≤ j))) ta tb) (.bl (decide (i ≤ j))) := ev_I0 ha hb fun _ => rfl
theorem ev_gt (ha : Evd K G0 H0 Γ ta (.int i)) (hb : Evd K G0 H0 Γ tb (.int j)) : Evd K G0 H0 Γ (tOp (rI0 fun i j => .bl (decide (j < i))) ta tb) (.bl (decide (j < i))) := ev_I0 ha hb fun _ => rfl
theorem ev_mul {C : Int → Int → Prop} (ha : Evd K G0 H0 Γ ta (.int i)) (hb : Evd K G0 H0 Γ tb (.int j)) (hc : C i j) : Evd K G0 H0 Γ (tOp (rI C fun i j => .int (i * j)) ta tb) (.int (i * j)) := ev_I ha hb hc fun _ => rfl
theorem ev_mod {C : Int → Int → Prop} (ha : Evd K G0 H0 Γ ta (.int i)) (hb : Evd K G0 H0 Γ tb (.int j)) (hc : C i j) : Evd K G0 H0 Γ (tOp (rI C fun i j => .int (i % j)) ta tb) (.int (i % j)) := ev_I ha hb hc fun _ => rfl
theorem ev_fdiv {C : Int → Int → Prop} (ha : Evd K G0 H0 Γ ta (.int i)) (hb : Evd K G0 H0 Γ tb (.int j)) (hc : C i j) : Evd K G0 H0 Γ (tOp (rI C fun i j => .int (i.fdiv j)) ta tb) (.int (i.fdiv j)) := ev_I ha hb hc fun _ => rfl
theorem ev_un {r : V → Hp → VK → Prop} {x : D} (ha : Evd K G0 H0 Γ ta x) (hr : ∀ G H v, Gh G0 H0 G H → Rp K G x v → ∀ Q : VK, (∀ z G2 H2, Gh G H G2 H2 → Rp K G2 d z → Q z H2) → r v H Q) : Evd K G0 H0 Γ (tUn r ta) d := fun σ G H s Q q =>
  ha σ G H s _ fun v G1 H1 g1 r1 => hr G1 H1 v (s.step g1).gh r1 Q fun z G3 H3 g3 r3 => q z G3 H3 (g1.trans g3) r3
theorem ev_neg (ha : Evd K G0 H0 Γ ta (.int i)) : Evd K G0 H0 Γ (tUn (rU fun i => .int (-i)) ta) (.int (-i)) := ev_un ha fun G H v s e Q q => ⟨i, e, q _ G H (Gh.refl s.gh) rfl⟩
theorem dec_int (i j : Int) : decide (V.int i = V.int j) = decide (i = j) := by
  by_cases h : i = j
  · subst h
    simp
  · rw [decide_eq_false h, decide_eq_false fun z => h (V.int.inj z)]
theorem ev_eq (ha : Evd K G0 H0 Γ ta (.int i)) (hb : Evd K G0 H0 Γ tb (.int j)) : Evd K G0 H0 Γ (tOp rEq ta tb) (.bl (decide (i = j))) :=
  ev_op ha hb fun G H v w s e1 e2 Q q => by
    have e1 : v = .int i := e1
    have e2 : w = .int j := e2
    subst e1 e2
    refine ⟨rfl, ?_⟩
    rw [dec_int]
    exact q _ G H (Gh.refl s.gh) rfl
theorem ev_ne (ha : Evd K G0 H0 Γ ta (.int i)) (hb : Evd K G0 H0 Γ tb (.int j)) : Evd K G0 H0 Γ (tOp rNe ta tb) (.bl (!decide (i = j))) :=
  ev_op ha hb fun G H v w s e1 e2 Q q => by
    have e1 : v = .int i := e1
    have e2 : w = .int j := e2
    subst e1 e2
    refine ⟨rfl, ?_⟩
    rw [dec_int]
    exact q _ G H (Gh.refl s.gh) rfl
def isNonD : D → Bool
  | .non => true
  | _ => false
theorem isNonD_eq {G : Hp} : ∀ {d : D} {v : V}, Rp K G d v → decide (v = .non) = isNonD d
  | .int n, v, h => by
    have h : v = .int n := h
    subst h
    rfl
  | .bl n, v, h => by
    have h : v = .bl n := h
    subst h
    rfl
  | .non, v, h => by
    have h : v = .non := h
    subst h
    rfl
  | .tup l, v, h => by
    obtain ⟨a, vs, h, _⟩ := h
    subst h
    rfl
  | .lst l, v, h => by
    obtain ⟨a, vs, h, _⟩ := h
    subst h
    rfl
  | .ins C ns l, v, h => by
    obtain ⟨a, dx, vs, h, _⟩ := h
    subst h
    rfl
theorem ev_isN (ha : Evd K G0 H0 Γ ta d) : Evd K G0 H0 Γ (tIsN ta) (.bl (isNonD d)) := fun σ G H s Q q =>
  ha σ G H s _ fun v G1 H1 g1 r1 => by
    rw [isNonD_eq r1]
    exact q _ G1 H1 g1 rfl
theorem ev_notN (ha : Evd K G0 H0 Γ ta d) : Evd K G0 H0 Γ (tNotN ta) (.bl (!isNonD d)) := fun σ G H s Q q =>
  ha σ G H s _ fun v G1 H1 g1 r1 => by
    rw [isNonD_eq r1]
    exact q _ G1 H1 g1 rfl
/-- a chain of two comparisons of ints -/
theorem ev_chain {p q : Int → Int → Bool} {k : Int} (ha : Evd K G0 H0 Γ ta (.int i)) (hb : Evd K G0 H0 Γ tb (.int j)) (hc : Evd K G0 H0 Γ tc (.int k)) :
    Evd K G0 H0 Γ (tChain (rI0 fun i j => .bl (p i j)) (rI0 fun i j => .bl (q i j)) ta tb tc) (.bl (p i j && q j k)) := fun σ G H s Q hq =>
  ha σ G H s _ fun v G1 H1 g1 r1 => hb σ G1 H1 (s.step g1) _ fun w G2 H2 g2 r2 => by
    refine ⟨i, j, r1, r2, p i j, rfl, ?_⟩
    cases hp : p i j with
    | false => exact iteF (hq _ G2 H2 (g1.trans g2) (show V.bl false = V.bl (p i j && q j k) by rw [hp, Bool.false_and]))
    | true => exact iteT (hc σ G2 H2 ((s.step g1).step g2) _ fun z G3 H3 g3 r3 => ⟨j, k, Rp.mono g3.gg (.int j) _ r2, r3, hq _ G3 H3 ((g1.trans g2).trans g3) (show V.bl (q j k) = V.bl (p i j && q j k) by rw [hp, Bool.true_and])⟩)

/-! tests -/
theorem et_test (ha : Evd K G0 H0 Γ ta (.bl b)) : EvT K G0 H0 Γ (tTest ta) b := fun σ G H s Q q => ha σ G H s _ fun v G1 H1 g1 r1 => ⟨b, r1, q G1 H1 g1⟩
theorem et_b (ha : Evd K G0 H0 Γ ta (.bl b)) : EvT K G0 H0 Γ (tB ta) b := fun σ G H s Q q => ha σ G H s _ fun v G1 H1 g1 r1 => ⟨b, r1, q G1 H1 g1⟩
theorem et_not (h : EvT K G0 H0 Γ t b) : EvT K G0 H0 Γ (tNot t) (!b) := fun σ G H s Q q => h σ G H s _ fun G1 H1 g1 => q G1 H1 g1
theorem et_and (h : EvT K G0 H0 Γ t b) (h2 : b = true → EvT K G0 H0 Γ u c) : EvT K G0 H0 Γ (tAnd t u) (b && c) := fun σ G H s Q q => h σ G H s _ fun G1 H1 g1 => by
  cases b with
  | false => exact iteF (q G1 H1 g1)
  | true => exact iteT (h2 rfl σ G1 H1 (s.step g1) _ fun G2 H2 g2 => q G2 H2 (g1.trans g2))
theorem et_or (h : EvT K G0 H0 Γ t b) (h2 : b = false → EvT K G0 H0 Γ u c) : EvT K G0 H0 Γ (tOr t u) (b || c) := fun σ G H s Q q => h σ G H s _ fun G1 H1 g1 => by
  cases b with
  | true => exact iteT (q G1 H1 g1)
  | false => exact iteF (h2 rfl σ G1 H1 (s.step g1) _ fun G2 H2 g2 => q G2 H2 (g1.trans g2))
theorem ev_and (ha : Evd K G0 H0 Γ ta (.bl b)) (hb : b = true → Evd K G0 H0 Γ tb (.bl c)) : Evd K G0 H0 Γ (tAndV ta tb) (.bl (b && c)) := fun σ G H s Q q => ha σ G H s _ fun v G1 H1 g1 r1 => by
  refine ⟨b, r1, ?_⟩
  cases b with
  | false => exact iteF (q _ G1 H1 g1 rfl)
  | true => exact iteT (hb rfl σ G1 H1 (s.step g1) _ fun v G2 H2 g2 r2 => q v G2 H2 (g1.trans g2) r2)
theorem ev_or (ha : Evd K G0 H0 Γ ta (.bl b)) (hb : b = false → Evd K G0 H0 Γ tb (.bl c)) : Evd K G0 H0 Γ (tOrV ta tb) (.bl (b || c)) := fun σ G H s Q q => ha σ G H s _ fun v G1 H1 g1 r1 => by
  refine ⟨b, r1, ?_⟩
  cases b with
  | true => exact iteT (q _ G1 H1 g1 rfl)
  | false => exact iteF (hb rfl σ G1 H1 (s.step g1) _ fun v G2 H2 g2 r2 => q v G2 H2 (g1.trans g2) r2)
theorem ev_if (ht : EvT K G0 H0 Γ t b) (ha : b = true → Evd K G0 H0 Γ ta d) (hb : b = false → Evd K G0 H0 Γ tb d) : Evd K G0 H0 Γ (tIf t ta tb) d := fun σ G H s Q q => ht σ G H s _ fun G1 H1 g1 => by
  cases b with
  | true => exact iteT (ha rfl σ G1 H1 (s.step g1) _ fun v G2 H2 g2 r2 => q v G2 H2 (g1.trans g2) r2)
  | false => exact iteF (hb rfl σ G1 H1 (s.step g1) _ fun v G2 H2 g2 r2 => q v G2 H2 (g1.trans g2) r2)

/-! arguments, displays -/
theorem ea_nil : EvA K G0 H0 Γ tNil [] := fun σ G H s Q q => q [] G H (Gh.refl s.gh.gh) rfl
theorem ea_cons {tr : TA} (ha : Evd K G0 H0 Γ ta d) (hr : EvA K G0 H0 Γ tr l) : EvA K G0 H0 Γ (tCons ta tr) (d :: l) := fun σ G H s Q q =>
  ha σ G H s _ fun v G1 H1 g1 r1 => hr σ G1 H1 (s.step g1) _ fun vs G2 H2 g2 r2 => q _ G2 H2 (g1.trans g2) ⟨v, vs, rfl, Rp.mono g2.gg _ _ r1, r2⟩
theorem ea_1 (ha : Evd K G0 H0 Γ ta d) : EvA K G0 H0 Γ (tCons ta tNil) [d] := ea_cons ha ea_nil
theorem ea_2 {d2 : D} (ha : Evd K G0 H0 Γ ta d) (hb : Evd K G0 H0 Γ tb d2) : EvA K G0 H0 Γ (tCons ta (tCons tb tNil)) [d, d2] := ea_cons ha (ea_1 hb)
theorem EvA.len {tr : TA} (_ : EvA K G0 H0 Γ tr l) : True := trivial
theorem en_lst {ta : TA} (ha : EvA K G0 H0 Γ ta l) (hz : l.length ≤ sizeLine) : EvN K G0 H0 Γ (tLst ta) l := fun σ G H s Q q =>
  ha σ G H s _ fun vs G1 H1 g1 r1 => ⟨by rw [r1.len]; exact hz, fun p hp => q p vs G1 _ (g1.trans (Gh.alloc g1.gh hp)) (g1.hh.free hp) (g1.gh.free hp) upd_same r1⟩
theorem ev_tup {ta : TA} (ha : EvA K G0 H0 Γ ta l) (hz : l.length ≤ sizeLine) : Evd K G0 H0 Γ (tTup ta) (.tup l) := fun σ G H s Q q =>
  ha σ G H s _ fun vs G1 H1 g1 r1 => ⟨by rw [r1.len]; exact hz, fun p hp => q _ (upd G1 p (.tup vs)) _ (g1.trans (Gh.allocPut g1.gh hp)) ⟨p, vs, rfl, SqT.of upd_same, RpL.mono (same_new (g1.gh.free hp)) _ _ r1⟩⟩

/-! lists -/
theorem lst_seq {G H : Hp} (g : Same G H) {v : V} (r : Rp K G (.lst l) v) : ∃ a vs, v = .ref a ∧ H a = some (.lst vs) ∧ G a = some (.lst vs) ∧ RpL K G l vs := by
  obtain ⟨a, vs, e1, e2, e3⟩ := r
  exact ⟨a, vs, e1, g _ _ e2, e2, e3⟩
theorem ev_len (ha : Evd K G0 H0 Γ ta (.lst l)) : Evd K G0 H0 Γ (tCB (fun xs H Q => ∃ p ys, xs = [.ref p] ∧ (SqL K H p ys ∨ SqT K H p ys) ∧ Q (.int ys.length) H) (tCons ta tNil)) (.int (l.length : Int)) := fun σ G H s Q q =>
  ha σ G H s _ fun v G1 H1 g1 r1 => by
    obtain ⟨a, vs, e1, e2, _, e3⟩ := lst_seq g1.gh r1
    subst e1
    exact ⟨a, vs, rfl, .inl (SqL.of e2), q _ G1 H1 g1 (by rw [e3.len] <;> rfl)⟩
theorem ev_lenO {n : Nat} (h : Γ[n]? = some (.ow l)) : Evd K G0 H0 Γ (tCB (fun xs H Q => ∃ p ys, xs = [.ref p] ∧ (SqL K H p ys ∨ SqT K H p ys) ∧ Q (.int ys.length) H) (tCons (tVar n) tNil)) (.int (l.length : Int)) := fun σ G H s Q q => by
  obtain ⟨o, h1, p, vs, h2, h3, h4, h5, h6⟩ := s.env.get h
  subst h2
  exact ⟨_, h1, p, vs, rfl, .inl (SqL.of h5), q _ G H (Gh.refl s.gh.gh) (by rw [h6.len] <;> rfl)⟩
theorem en_listL (ha : Evd K G0 H0 Γ ta (.lst l)) : EvN K G0 H0 Γ (tCB (fun xs H Q => ∃ p ys, xs = [.ref p] ∧ (SqL K H p ys ∨ SqT K H p ys) ∧ ∀ l, H l = none → Q (.ref l) (upd H l (.lst ys))) (tCons ta tNil)) l := fun σ G H s Q q =>
  ha σ G H s _ fun v G1 H1 g1 r1 => by
    obtain ⟨a, vs, e1, e2, _, e3⟩ := lst_seq g1.gh r1
    subst e1
    exact ⟨a, vs, rfl, .inl (SqL.of e2), fun p hp => q p vs G1 _ (g1.trans (Gh.alloc g1.gh hp)) (g1.hh.free hp) (g1.gh.free hp) upd_same e3⟩
theorem en_listT (ha : Evd K G0 H0 Γ ta (.tup l)) : EvN K G0 H0 Γ (tCB (fun xs H Q => ∃ p ys, xs = [.ref p] ∧ (SqL K H p ys ∨ SqT K H p ys) ∧ ∀ l, H l = none → Q (.ref l) (upd H l (.lst ys))) (tCons ta tNil)) l := fun σ G H s Q q =>
  ha σ G H s _ fun v G1 H1 g1 r1 => by
    obtain ⟨a, vs, e1, e2, e3⟩ := r1
    subst e1
    exact ⟨a, vs, rfl, .inr (sqt_mono g1.gh e2), fun p hp => q p vs G1 _ (g1.trans (Gh.alloc g1.gh hp)) (g1.hh.free hp) (g1.gh.free hp) upd_same e3⟩
/-- xs[k], t[k] by a place -/
theorem atI_get {α : Type} {xs : List α} {i : Int} {k : Nat} {x : α} (e : i = (k : Int)) (h : xs[k]? = some x) : atI xs i = some x := by
  rw [e]
  exact atI_nat h
theorem ev_ixL {k : Nat} (ha : Evd K G0 H0 Γ ta (.lst l)) (hb : Evd K G0 H0 Γ tb (.int i)) (hk : i = (k : Int)) (hd : l[k]? = some d) : Evd K G0 H0 Γ (tOp (rIxL K) ta tb) d :=
  ev_op ha hb fun G H v w s e1 e2 Q q => by
    obtain ⟨a, vs, h1, h2, _, h3⟩ := lst_seq s.gh e1
    obtain ⟨x, h4, h5⟩ := h3.get hd
    exact ⟨a, vs, i, x, h1, e2, SqL.of h2, atI_get hk h4, q _ G H (Gh.refl s.gh) h5⟩
theorem ev_ixT {k : Nat} (ha : Evd K G0 H0 Γ ta (.tup l)) (hb : Evd K G0 H0 Γ tb (.int i)) (hk : i = (k : Int)) (hd : l[k]? = some d) : Evd K G0 H0 Γ (tOp (rIxT K) ta tb) d :=
  ev_op ha hb fun G H v w s e1 e2 Q q => by
    obtain ⟨a, vs, h1, h2, h3⟩ := e1
    obtain ⟨x, h4, h5⟩ := h3.get hd
    exact ⟨a, vs, i, x, h1, e2, sqt_mono s.gh h2, atI_get hk h4, q _ G H (Gh.refl s.gh) h5⟩
theorem atI_end {α : Type} {xs : List α} {x : α} (h : xs[xs.length - 1]? = some x) : atI xs (-1) = some x := by
  have hl : 0 < xs.length := by
    have := (List.getElem?_eq_some_iff.mp h).1
    omega
  unfold atI ixN
  rw [if_neg (by decide), if_pos (by omega)]
  show xs[(-1 + (xs.length : Int)).toNat]? = some x
  rw [show (-1 + (xs.length : Int)).toNat = xs.length - 1 by omega]
  exact h
theorem ev_ixE (ha : Evd K G0 H0 Γ ta (.lst l)) (hb : Evd K G0 H0 Γ tb (.int (-1))) (hd : l[l.length - 1]? = some d) : Evd K G0 H0 Γ (tOp (rIxL K) ta tb) d :=
  ev_op ha hb fun G H v w s e1 e2 Q q => by
    obtain ⟨a, vs, h1, h2, _, h3⟩ := lst_seq s.gh e1
    obtain ⟨x, h4, h5⟩ := h3.get hd
    exact ⟨a, vs, -1, x, h1, e2, SqL.of h2, atI_end (by rw [h3.len]; exact h4), q _ G H (Gh.refl s.gh) h5⟩
/-- of the own list -/
theorem ev_ixO {k n : Nat} (h : Γ[n]? = some (.ow l)) (hb : Evd K G0 H0 Γ tb (.int i)) (hk : i = (k : Int)) (hd : l[k]? = some d) : Evd K G0 H0 Γ (tOp (rIxL K) (tVar n) tb) d := fun σ G H s Q q => by
  obtain ⟨o, h1, p, vs, h2, h3, h4, h5, h6⟩ := s.env.get h
  subst h2
  refine ⟨_, h1, hb σ G H s _ fun w G1 H1 g1 r1 => ?_⟩
  obtain ⟨x, h7, h8⟩ := h6.get hd
  exact ⟨p, vs, i, x, rfl, r1, SqL.of (g1.hh _ _ h5), atI_get hk h7, q _ G1 H1 g1 (Rp.mono g1.gg _ _ h8)⟩
theorem ev_ixOE {n : Nat} (h : Γ[n]? = some (.ow l)) (hb : Evd K G0 H0 Γ tb (.int (-1))) (hd : l[l.length - 1]? = some d) : Evd K G0 H0 Γ (tOp (rIxL K) (tVar n) tb) d := fun σ G H s Q q => by
  obtain ⟨o, h1, p, vs, h2, h3, h4, h5, h6⟩ := s.env.get h
  subst h2
  refine ⟨_, h1, hb σ G H s _ fun w G1 H1 g1 r1 => ?_⟩
  obtain ⟨x, h7, h8⟩ := h6.get hd
  exact ⟨p, vs, -1, x, rfl, r1, SqL.of (g1.hh _ _ h5), atI_end (by rw [h6.len]; exact h7), q _ G1 H1 g1 (Rp.mono g1.gg _ _ h8)⟩
theorem ev_part (ha : Evd K G0 H0 Γ ta (.int i)) : EvO K G0 H0 Γ (tPart ta) (some i) := fun σ G H s Q q => ha σ G H s _ fun v G1 H1 g1 r1 => ⟨i, r1, q G1 H1 g1⟩
theorem ev_nopart : EvO K G0 H0 Γ tNoPart none := fun σ G H s Q q => q G H (Gh.refl s.gh.gh)
def cutD (l : List D) (lo hi : Option Int) : List D := (l.drop (HT.sIx l.length 0 lo)).take (HT.sIx l.length l.length hi - HT.sIx l.length 0 lo)
theorem RpL.cut {G : Hp} {l : List D} {vs : List V} {lo hi : Option Int} (h : RpL K G l vs) : RpL K G (cutD l lo hi) (cutV vs lo hi) := by
  unfold cutD cutV
  rw [h.len]
  exact (h.drop _).take _
theorem en_slice {tl th : TO} {lo hi : Option Int} (ha : Evd K G0 H0 Γ ta (.lst l)) (h1 : EvO K G0 H0 Γ tl lo) (h2 : EvO K G0 H0 Γ th hi) : EvN K G0 H0 Γ (tSl (rSlL K) ta tl th) (cutD l lo hi) := fun σ G H s Q q =>
  ha σ G H s _ fun v G1 H1 g1 r1 => h1 σ G1 H1 (s.step g1) _ fun G2 H2 g2 => h2 σ G2 H2 ((s.step g1).step g2) _ fun G3 H3 g3 => by
    obtain ⟨a, vs, e1, e2, e3, e4⟩ := lst_seq g1.gh r1
    subst e1
    have g : Gh G H G3 H3 := (g1.trans g2).trans g3
    have k : Same H1 H3 := g2.hh.trans g3.hh
    exact ⟨a, vs, rfl, SqL.of (k _ _ e2), fun p hp => q p _ G3 _ (g.trans (Gh.alloc g.gh hp)) (g.hh.free hp) (g.gh.free hp) upd_same (RpL.mono (g2.gg.trans g3.gg) _ _ e4).cut⟩
theorem en_cat (ha : Evd K G0 H0 Γ ta (.lst l)) (hb : Evd K G0 H0 Γ tb (.lst m)) (hz : l.length + m.length ≤ sizeLine) : EvN K G0 H0 Γ (tOp rCat ta tb) (l ++ m) := fun σ G H s Q q =>
  ha σ G H s _ fun v G1 H1 g1 r1 => hb σ G1 H1 (s.step g1) _ fun w G2 H2 g2 r2 => by
    obtain ⟨a, vs, e1, e2, _, e3⟩ := lst_seq g1.gh r1
    obtain ⟨b, ws, f1, f2, _, f3⟩ := lst_seq g2.gh r2
    have g := g1.trans g2
    have k := RpL.mono g2.gg _ _ e3
    exact ⟨a, b, vs, ws, e1, f1, g2.hh _ _ e2, f2, by rw [e3.len, f3.len]; exact hz, fun p hp => q p _ G2 _ (g.trans (Gh.alloc g.gh hp)) (g.hh.free hp) (g.gh.free hp) upd_same (k.append f3)⟩
theorem RpL.reps {G : Hp} {l : List D} {vs : List V} (h : RpL K G l vs) : ∀ n : Nat, RpL K G (List.replicate n l).flatten (List.replicate n vs).flatten
  | 0 => rfl
  | n + 1 => by
    rw [List.replicate_succ, List.flatten_cons, List.replicate_succ, List.flatten_cons]
    exact h.append (RpL.reps h n)
theorem flat1 {α : Type} (d : α) : ∀ n : Nat, (List.replicate n [d]).flatten = List.replicate n d
  | 0 => rfl
  | n + 1 => by
    rw [List.replicate_succ, List.flatten_cons, flat1 d n]
    rfl
/-- [x] * n -/
theorem en_rep (ha : Evd K G0 H0 Γ ta (.lst [d])) (hb : Evd K G0 H0 Γ tb (.int i)) (h1 : -(2 ^ 62) < i) (h2 : i ≤ sizeLine) : EvN K G0 H0 Γ (tOp rRep ta tb) (List.replicate i.toNat d) := fun σ G H s Q q =>
  ha σ G H s _ fun v G1 H1 g1 r1 => hb σ G1 H1 (s.step g1) _ fun w G2 H2 g2 r2 => by
    obtain ⟨a, vs, e1, e2, _, e3⟩ := lst_seq g1.gh r1
    have g := g1.trans g2
    have k := RpL.mono g2.gg _ _ e3
    have hl : vs.length = 1 := e3.len
    have hs : (sizeLine : Int) < 2 ^ 62 := by decide
    refine ⟨a, i, vs, e1, r2, g2.hh _ _ e2, by omega, by omega, by rw [hl]; omega, fun p hp => q p _ G2 _ (g.trans (Gh.alloc g.gh hp)) (g.hh.free hp) (g.gh.free hp) upd_same ?_⟩
    rw [← flat1 d]
    exact k.reps _
/-- == and != of lists of ints -/
theorem dp_ints {G H : Hp} (g : Same G H) {ns : List Int} {v : V} (r : Rp K G (.lst (ns.map D.int)) v) : Dp K H v (.list (ns.map PyData.int)) := by
  obtain ⟨a, vs, e1, e2, e3⟩ := r
  subst e1
  refine .lst (SqL.of (g _ _ e2)) ?_
  rw [e3.ints]
  clear e2 e3
  induction ns with
  | nil => exact .nil
  | cons n ns ih => exact .cons (.int _) ih
end
end Qa

set_option Elab.async false
set_option linter.all false
set_option maxRecDepth 100000
set_option maxHeartbeats 4000000
namespace Qa
open PySem PySem.Spec PyProof.Rows L2

/-! ### statements -/
def Run (K : PySem.W.Frag) (G0 H0 : Hp) (Γ : List Ent) (T : L2.St → Hp → Prop) : Prop := ∀ σ G H, Stt K G0 H0 Γ σ G H → T σ H
def At (K : PySem.W.Frag) (G0 H0 : Hp) (Γ : List Ent) : L2.St → Hp → Prop := fun σ H => ∃ G, Stt K G0 H0 Γ σ G H
def setAll (σ : L2.St) : List Nat → List V → L2.St
  | j :: js, v :: vs => setAll (σ.set j (some v)) js vs
  | _, _ => σ
def setG (Γ : List Ent) : List Nat → List D → List Ent
  | j :: js, d :: ds => setG (Γ.set j (.fz d)) js ds
  | _, _ => Γ
def wipeG (Γ : List Ent) : List Nat → List Ent
  | [] => Γ
  | v :: vs => (wipeG Γ vs).set v .no
structure IterOk (K : PySem.W.Frag) (G1 : Hp) (J : It) (g : TG) (js : List Nat) (items : List (List D)) : Prop where
  go : ∀ i H, Same G1 H → i < items.length → J.go i H
  stop : ∀ H, Same G1 H → J.stop items.length H
  yld : ∀ i H x H' ds, Same G1 H → items[i]? = some ds → J.yld i H x H' → Same H H' ∧ ∃ vs, RpL K G1 ds vs ∧ ∀ (σ : L2.St) (Q : L2.St → Hp → Prop), Q (setAll σ js vs) H' → g x σ H' Q
section
variable (K : PySem.W.Frag) (G0 H0 : Hp) (Γ : List Ent)
def EvI (wi : TI) (g : TG) (js : List Nat) (items : List (List D)) : Prop := ∀ σ G H, Stt K G0 H0 Γ σ G H → ∀ R : It → Hp → Prop, (∀ J G2 H2, Gh G H G2 H2 → IterOk K G2 J g js items → R J H2) → wi σ H R
/-- no way goes on behind it -/
def Dead (te : TE) : Prop := ∀ σ G H, Stt K G0 H0 Γ σ G H → ∀ Q : VK, te σ H Q
end
section
variable {K : PySem.W.Frag} {G0 H0 : Hp} {Γ Γ' : List Ent} {ta tb tc te : TE} {t u : TT} {d e : D} {l m : List D} {i j : Int} {b c : Bool} {De : Ends} {T : L2.St → Hp → Prop} {p q : TS}
theorem EnvOk.setAll {G H : Hp} : ∀ {js : List Nat} {ds : List D} {vs : List V} {Γ : List Ent} {σ : L2.St}, RpL K G ds vs → EnvOk K H0 G H Γ σ → EnvOk K H0 G H (setG Γ js ds) (setAll σ js vs)
  | [], _, _, _, _, _, h => by
    unfold setG Qa.setAll
    exact h
  | j :: js, [], vs, _, _, hr, h => by
    have hr : vs = [] := hr
    subst hr
    unfold setG Qa.setAll
    exact h
  | j :: js, d :: ds, vs, Γ, σ, hr, h => by
    obtain ⟨v, r, e1, e2, e3⟩ := hr
    subst e1
    unfold setG Qa.setAll
    exact EnvOk.setAll e3 (h.set j ⟨v, rfl, e2⟩)
theorem EnvOk.wiped {G H : Hp} {Γ : List Ent} {σ : L2.St} (h : EnvOk K H0 G H Γ σ) : ∀ vs : List Nat, EnvOk K H0 G H (wipeG Γ vs) (wipe σ vs)
  | [] => h
  | v :: vs => (EnvOk.wiped h vs).set v trivial
theorem r_seq (h : Run K G0 H0 Γ (p { De with nx := q De })) : Run K G0 H0 Γ (tSeq p q De) := h
theorem r_le (h : GLe Γ Γ') (k : Run K G0 H0 Γ' T) : Run K G0 H0 Γ T := fun σ G H s => k σ G H (s.le h)
theorem r_at (h : GLe Γ Γ') : Run K G0 H0 Γ (At K G0 H0 Γ') := fun σ G H s => ⟨G, s.le h⟩
theorem Stt.setv {σ : L2.St} {G H : Hp} {v : V} (s : Stt K G0 H0 Γ σ G H) (n : Nat) (r : Rp K G d v) : Stt K G0 H0 (Γ.set n (.fz d)) (σ.set n (some v)) G H := ⟨s.gh, s.env.set n ⟨v, rfl, r⟩⟩
theorem r_asg {n : Nat} (h : Evd K G0 H0 Γ te d) (k : Run K G0 H0 (Γ.set n (.fz d)) De.nx) : Run K G0 H0 Γ (tAsg te (gName n) De) := fun σ G H s =>
  h σ G H s _ fun v G1 H1 g1 r1 => k _ G1 H1 ((s.step g1).setv n r1)
theorem r_asgN {n : Nat} (h : EvN K G0 H0 Γ te l) (k : Run K G0 H0 (Γ.set n (.ow l)) De.nx) : Run K G0 H0 Γ (tAsg te (gName n) De) := fun σ G H s =>
  h σ G H s _ fun p vs G1 H1 g1 h0 h1 h2 r1 => k _ G1 H1 ⟨(s.step g1).gh, (s.step g1).env.set n ⟨p, vs, rfl, s.gh.hh.free h0, h1, h2, r1⟩⟩
theorem r_asg2 {n1 n2 : Nat} {d1 d2 : D} (h : Evd K G0 H0 Γ te (.tup [d1, d2])) (k : Run K G0 H0 ((Γ.set n1 (.fz d1)).set n2 (.fz d2)) De.nx) : Run K G0 H0 Γ (tAsg te (gTup K 2 (gCons (gName n1) (gCons (gName n2) gNil))) De) := fun σ G H s =>
  h σ G H s _ fun v G1 H1 g1 r1 => by
    obtain ⟨a, vs, e1, e2, e3⟩ := r1
    have s1 := s.step g1
    have e2' := sqt_mono s1.gh.gh e2
    obtain ⟨v1, r, x1, x2, v2, r', x3, x4, x5⟩ := e3
    have x5 : r' = [] := x5
    subst x1 x3 x5
    exact ⟨a, _, e1, e2', rfl, v1, _, rfl, v2, _, rfl, rfl, k _ G1 H1 ((s1.setv n1 x2).setv n2 x4)⟩
theorem r_par {n1 n2 : Nat} {d1 d2 : D} {tr : TA} (h : EvA K G0 H0 Γ tr [d1, d2]) (k : Run K G0 H0 ((Γ.set n1 (.fz d1)).set n2 (.fz d2)) De.nx) : Run K G0 H0 Γ (tPar n1 n2 tr De) := fun σ G H s =>
  h σ G H s _ fun vs G1 H1 g1 r1 => by
    have s1 := s.step g1
    obtain ⟨v1, r, x1, x2, v2, r', x3, x4, x5⟩ := r1
    have x5 : r' = [] := x5
    subst x1 x3 x5
    exact ⟨v1, v2, rfl, k _ G1 H1 ((s1.setv n1 x2).setv n2 x4)⟩
theorem r_drop (h : Evd K G0 H0 Γ te d) (k : Run K G0 H0 Γ De.nx) : Run K G0 H0 Γ (tDrop te De) := fun σ G H s =>
  h σ G H s _ fun v G1 H1 g1 r1 => k _ G1 H1 (s.step g1)
/-- the own list of slot n is rewritten -/
theorem Stt.wr {σ : L2.St} {G H : Hp} {a : Addr} {vs : List V} {n : Nat} (s : Stt K G0 H0 Γ σ G H) (hs : sole Γ n = true) (hn : n < Γ.length) (e : σ[n]? = some (some (.ref a))) (h0 : H0 a = none) (h1 : G a = none) (r : RpL K G m vs) :
    Stt K G0 H0 (Γ.set n (.ow m)) σ G (upd H a (.lst vs)) := ⟨s.gh.write h0 h1, s.env.wr hs hn e h0 h1 r⟩
theorem own_at {σ : L2.St} {G H : Hp} {n : Nat} (s : Stt K G0 H0 Γ σ G H) (h : Γ[n]? = some (.ow l)) : n < Γ.length ∧ ∃ a vs, σ[n]? = some (some (.ref a)) ∧ H0 a = none ∧ G a = none ∧ H a = some (.lst vs) ∧ RpL K G l vs := by
  obtain ⟨o, h1, a, vs, h2, h3, h4, h5, h6⟩ := s.env.get h
  subst h2
  exact ⟨(List.getElem?_eq_some_iff.mp h).1, a, vs, h1, h3, h4, h5, h6⟩
theorem r_app {n : Nat} (h : Γ[n]? = some (.ow l)) (hs : sole Γ n = true) (he : Evd K G0 H0 Γ te d) (hz : l.length < sizeLine) (k : Run K G0 H0 (Γ.set n (.ow (l ++ [d]))) De.nx) :
    Run K G0 H0 Γ (tDrop (tBM K "list" rAppend (tVar n) (tCons te tNil)) De) := fun σ G H s => by
  obtain ⟨hn, a, vs, e1, e2, e3, e4, e5⟩ := own_at s h
  refine ⟨_, e1, .inl ⟨rfl, vs, SqL.of e4⟩, he σ G H s _ fun v G1 H1 g1 r1 => ?_⟩
  have s1 := s.step g1
  exact ⟨a, vs, v, rfl, rfl, g1.hh _ _ e4, by rw [e5.len]; exact hz, k _ G1 _ (s1.wr hs hn e1 e2 (g1.fr a (by rw [e4]; exact fun z => nomatch z) e3) ((RpL.mono g1.gg _ _ e5).append (RpL.one r1)))⟩
theorem r_ext {n : Nat} (h : Γ[n]? = some (.ow l)) (hs : sole Γ n = true) (he : Evd K G0 H0 Γ te (.lst m)) (hz : l.length + m.length ≤ sizeLine) (k : Run K G0 H0 (Γ.set n (.ow (l ++ m))) De.nx) :
    Run K G0 H0 Γ (tDrop (tBM K "list" rExtend (tVar n) (tCons te tNil)) De) := fun σ G H s => by
  obtain ⟨hn, a, vs, e1, e2, e3, e4, e5⟩ := own_at s h
  refine ⟨_, e1, .inl ⟨rfl, vs, SqL.of e4⟩, he σ G H s _ fun v G1 H1 g1 r1 => ?_⟩
  have s1 := s.step g1
  obtain ⟨b, ws, f1, f2, _, f3⟩ := lst_seq s1.gh.gh r1
  subst f1
  exact ⟨a, b, vs, ws, rfl, rfl, g1.hh _ _ e4, f2, by rw [e5.len, f3.len]; exact hz, k _ G1 _ (s1.wr hs hn e1 e2 (g1.fr a (by rw [e4]; exact fun z => nomatch z) e3) ((RpL.mono g1.gg _ _ e5).append f3))⟩
theorem RpL.init {G : Hp} {l : List D} {vs : List V} (h : RpL K G l vs) : RpL K G l.dropLast vs.dropLast := by
  rw [List.dropLast_eq_take, List.dropLast_eq_take, h.len]
  exact h.take _
theorem r_pop {n : Nat} (h : Γ[n]? = some (.ow l)) (hs : sole Γ n = true) (hl : l ≠ []) (k : Run K G0 H0 (Γ.set n (.ow l.dropLast)) De.nx) : Run K G0 H0 Γ (tDrop (tBM0 K "list" rPop (tVar n)) De) := fun σ G H s => by
  obtain ⟨hn, a, vs, e1, e2, e3, e4, e5⟩ := own_at s h
  have hp : 0 < vs.length := by
    rw [e5.len]
    exact List.length_pos_iff.mpr hl
  exact ⟨_, e1, .inl ⟨rfl, vs, SqL.of e4⟩, a, vs, vs[vs.length - 1], rfl, rfl, e4, List.getElem?_eq_getElem (by omega), k _ G _ (s.wr hs hn e1 e2 e3 e5.init)⟩
theorem ixN_nat {n k : Nat} (h : k < n) : ixN n (k : Int) = some k := by
  unfold ixN
  rw [if_pos (by omega), if_pos (by omega)]
  simp
theorem r_setI {n : Nat} {ti : TE} {w : Nat} (h : Γ[n]? = some (.ow l)) (hs : sole Γ n = true) (he : Evd K G0 H0 Γ te d) (hi : Evd K G0 H0 Γ ti (.int i)) (hk : i = (w : Int)) (hw : w < l.length) (k : Run K G0 H0 (Γ.set n (.ow (l.set w d))) De.nx) :
    Run K G0 H0 Γ (tAsg te (gSub (tVar n) ti rSetL) De) := fun σ G H s => by
  obtain ⟨hn, a, vs, e1, e2, e3, e4, e5⟩ := own_at s h
  refine he σ G H s _ fun v G1 H1 g1 r1 => ⟨_, e1, hi σ G1 H1 (s.step g1) _ fun z G2 H2 g2 r2 => ?_⟩
  have g := g1.trans g2
  have s2 := s.step g
  refine ⟨a, vs, i, w, rfl, r2, g.hh _ _ e4, by rw [e5.len, hk]; exact ixN_nat hw, ?_⟩
  exact k _ G2 _ (s2.wr hs hn e1 e2 (g.fr a (by rw [e4]; exact fun z => nomatch z) e3) ((RpL.mono g.gg _ _ e5).set w (Rp.mono g2.gg _ _ r1)))
theorem r_if (h : EvT K G0 H0 Γ t b) (h1 : b = true → Run K G0 H0 Γ (p De)) (h2 : b = false → Run K G0 H0 Γ (q De)) : Run K G0 H0 Γ (tIfS t p q De) := fun σ G H s => h σ G H s _ fun G1 H1 g1 => by
  cases b with
  | true => exact iteT (h1 rfl σ G1 H1 (s.step g1))
  | false => exact iteF (h2 rfl σ G1 H1 (s.step g1))
theorem r_next (k : Run K G0 H0 Γ De.nx) : Run K G0 H0 Γ (tNext De) := k
theorem r_ret (h : Evd K G0 H0 Γ te d) (k : ∀ v G H, Gh G0 H0 G H → Rp K G d v → De.rt v H) : Run K G0 H0 Γ (tRet te De) := fun σ G H s => h σ G H s _ fun v G1 H1 g1 r1 => k v G1 H1 (s.step g1).gh r1
theorem r_retN (h : EvN K G0 H0 Γ te l) (k : ∀ p vs G H, Gh G0 H0 G H → H0 p = none → G p = none → H p = some (.lst vs) → RpL K G l vs → De.rt (.ref p) H) : Run K G0 H0 Γ (tRet te De) := fun σ G H s =>
  h σ G H s _ fun p vs G1 H1 g1 h0 h1 h2 r1 => k p vs G1 H1 (s.step g1).gh (s.gh.hh.free h0) h1 h2 r1
theorem r_retO {n : Nat} (h : Γ[n]? = some (.ow l)) (k : ∀ p vs G H, Gh G0 H0 G H → H0 p = none → G p = none → H p = some (.lst vs) → RpL K G l vs → De.rt (.ref p) H) : Run K G0 H0 Γ (tRet (tVar n) De) := fun σ G H s => by
  obtain ⟨hn, a, vs, e1, e2, e3, e4, e5⟩ := own_at s h
  exact ⟨_, e1, k a vs G H s.gh e2 e3 e4 e5⟩
theorem EnvOk.ghL {G G' H : Hp} (g : Same G G') : ∀ {Γ : List Ent} {σ : L2.St}, lone Γ = true → EnvOk K H0 G H Γ σ → EnvOk K H0 G' H Γ σ
  | [], _, _, h => h
  | e :: Γ, σ, hl, h => by
    obtain ⟨o, r, e1, e2, e3⟩ := h
    cases e with
    | no => exact ⟨o, r, e1, trivial, EnvOk.ghL g hl e3⟩
    | fz d =>
      obtain ⟨v, z1, z2⟩ := e2
      exact ⟨o, r, e1, ⟨v, z1, Rp.mono g _ _ z2⟩, EnvOk.ghL g hl e3⟩
    | ex v => exact ⟨o, r, e1, e2, EnvOk.ghL g hl e3⟩
    | ow l => exact absurd (show false = true from hl) Bool.false_ne_true
theorem EnvOk.frz {G G' H : Hp} {v : V} (g : Same G G') : ∀ {Γ : List Ent} {σ : L2.St} {i : Nat}, sole Γ i = true → EnvOk K H0 G H Γ σ → σ[i]? = some (some v) → Rp K G' d v → EnvOk K H0 G' H (Γ.set i (.fz d)) σ
  | [], σ, _, _, h, hs, _ => by
    rw [show σ = [] from h] at hs
    simp at hs
  | e :: Γ, σ, 0, hl, h, hs, hr => by
    obtain ⟨o, r, e1, e2, e3⟩ := h
    rw [e1] at hs
    have z : o = some v := by simpa using hs
    exact ⟨o, r, e1, ⟨v, z, hr⟩, EnvOk.ghL g hl e3⟩
  | e :: Γ, σ, i + 1, hl, h, hs, hr => by
    obtain ⟨o, r, e1, e2, e3⟩ := h
    rw [e1] at hs
    have hs' : r[i]? = some (some v) := by simpa using hs
    cases e with
    | no => exact ⟨o, r, e1, trivial, EnvOk.frz g hl e3 hs' hr⟩
    | fz d =>
      obtain ⟨v, z1, z2⟩ := e2
      exact ⟨o, r, e1, ⟨v, z1, Rp.mono g _ _ z2⟩, EnvOk.frz g hl e3 hs' hr⟩
    | ex v => exact ⟨o, r, e1, e2, EnvOk.frz g hl e3 hs' hr⟩
    | ow l => exact absurd (show false = true from hl) Bool.false_ne_true
/-- the own list is frozen -/
theorem r_freeze {n : Nat} (h : Γ[n]? = some (.ow l)) (hs : sole Γ n = true) (k : Run K G0 H0 (Γ.set n (.fz (.lst l))) T) : Run K G0 H0 Γ T := fun σ G H s => by
  obtain ⟨hn, a, vs, e1, e2, e3, e4, e5⟩ := own_at s h
  exact k σ (upd G a (.lst vs)) H ⟨s.gh.put e2 e3 e4, s.env.frz (same_new e3) hs e1 ⟨a, vs, rfl, upd_same, RpL.mono (same_new e3) _ _ e5⟩⟩

/-! ### what is walked -/
theorem seqL_inj {H : Hp} {a : Addr} {xs ys : List V} (e : H a = some (.lst xs)) (h : H a = some (.lst ys)) : xs = ys := by
  rw [e] at h
  cases h
  rfl
theorem iter_list {G : Hp} {a : Addr} {vs : List V} {ds : List D} {j : Nat} (h : G a = some (.lst vs)) (r : RpL K G ds vs) : IterOk K G (Itl K a) (gName j) [j] (ds.map fun d => [d]) where
  go := fun i H g hi => by
    rw [List.length_map, ← r.len] at hi
    exact ⟨vs, vs[i], SqL.of (g _ _ h), List.getElem?_eq_getElem hi⟩
  stop := fun H g => ⟨vs, SqL.of (g _ _ h), by rw [List.length_map, r.len]; exact Nat.le_refl _⟩
  yld := fun i H x H' ds' g hd hy => by
    obtain ⟨e, hy⟩ := hy
    subst e
    have hx := hy vs (SqL.of (g _ _ h))
    obtain ⟨d, hd', hr⟩ := r.get' hx
    rw [List.getElem?_map, hd'] at hd
    have z : [d] = ds' := by simpa using hd
    subst z
    exact ⟨Same.refl _, [x], RpL.one hr, fun σ Q q => q⟩
theorem ei_list {tl : TE} {ds : List D} {j : Nat} (h : Evd K G0 H0 Γ tl (.lst ds)) : EvI K G0 H0 Γ (iList K tl) (gName j) [j] (ds.map fun d => [d]) := fun σ G H s R q =>
  h σ G H s _ fun v G1 H1 g1 r1 => by
    obtain ⟨a, vs, e1, e2, e3⟩ := r1
    exact ⟨a, e1, ⟨vs, SqL.of (g1.gh _ _ e2)⟩, q _ G1 H1 g1 (iter_list e2 e3)⟩
/-- a list of pairs, taken apart -/
theorem iter_pairs {G : Hp} {a : Addr} {vs : List V} {ps : List (D × D)} {j1 j2 : Nat} (h : G a = some (.lst vs)) (r : RpL K G (ps.map fun p => .tup [p.1, p.2]) vs) :
    IterOk K G (Itl K a) (gTup K 2 (gCons (gName j1) (gCons (gName j2) gNil))) [j1, j2] (ps.map fun p => [p.1, p.2]) where
  go := fun i H g hi => by
    have hl := r.len
    rw [List.length_map] at hi hl
    rw [← hl] at hi
    exact ⟨vs, vs[i], SqL.of (g _ _ h), List.getElem?_eq_getElem hi⟩
  stop := fun H g => ⟨vs, SqL.of (g _ _ h), by rw [List.length_map, r.len, List.length_map]; exact Nat.le_refl _⟩
  yld := fun i H x H' ds' g hd hy => by
    obtain ⟨e, hy⟩ := hy
    subst e
    have hx := hy vs (SqL.of (g _ _ h))
    obtain ⟨d, hd', hr⟩ := r.get' hx
    rw [List.getElem?_map] at hd hd'
    cases hp : ps[i]? with
    | none =>
      rw [hp] at hd
      simp at hd
    | some p =>
      rw [hp] at hd hd'
      have z : [p.1, p.2] = ds' := by simpa using hd
      have z2 : D.tup [p.1, p.2] = d := by simpa using hd'
      subst z z2
      obtain ⟨t, ws, e1, e2, e3⟩ := hr
      have e3' := e3
      obtain ⟨v1, r1, x1, x2, v2, r2, x3, x4, x5⟩ := e3'
      have x5 : r2 = [] := x5
      subst x1 x3 x5
      exact ⟨Same.refl _, [v1, v2], e3, fun σ Q q => ⟨t, _, e1, sqt_mono g e2, rfl, v1, _, rfl, v2, _, rfl, rfl, q⟩⟩
theorem ei_pairs {tl : TE} {ps : List (D × D)} {j1 j2 : Nat} (h : Evd K G0 H0 Γ tl (.lst (ps.map fun p => .tup [p.1, p.2]))) : EvI K G0 H0 Γ (iList K tl) (gTup K 2 (gCons (gName j1) (gCons (gName j2) gNil))) [j1, j2] (ps.map fun p => [p.1, p.2]) := fun σ G H s R q =>
  h σ G H s _ fun v G1 H1 g1 r1 => by
    obtain ⟨a, vs, e1, e2, e3⟩ := r1
    exact ⟨a, e1, ⟨vs, SqL.of (g1.gh _ _ e2)⟩, q _ G1 H1 g1 (iter_pairs e2 e3)⟩
def rngD (lo : Int) (n : Nat) : List (List D) := (List.range n).map fun (i : Nat) => [D.int (lo + (i : Int))]
theorem rngD_len (lo : Int) (n : Nat) : (rngD lo n).length = n := by
  unfold rngD
  rw [List.length_map, List.length_range]
theorem iter_range {G : Hp} {lo : Int} {n : Nat} {j : Nat} : IterOk K G (Itr lo n) (gName j) [j] (rngD lo n) where
  go := fun i H g hi => by
    rw [rngD_len] at hi
    exact hi
  stop := fun H g => by
    rw [rngD_len]
    exact Nat.le_refl _
  yld := fun i H x H' ds' g hd hy => by
    obtain ⟨e, hx⟩ := hy
    subst e hx
    have hi : i < n := by
      have z := (List.getElem?_eq_some_iff.mp hd).1
      rwa [rngD_len] at z
    have z : [D.int (lo + (i : Int))] = ds' := by
      unfold rngD at hd
      rw [List.getElem?_map, List.getElem?_range hi] at hd
      simpa using hd
    subst z
    exact ⟨Same.refl _, [.int (lo + (i : Int))], RpL.one rfl, fun σ Q q => q⟩
theorem ei_range1 {tr : TA} {n : Int} {j : Nat} (h : EvA K G0 H0 Γ tr [.int n]) (h1 : -(2 ^ 62) ≤ n) (h2 : n < 2 ^ 62) : EvI K G0 H0 Γ (iRng1 tr) (gName j) [j] (rngD 0 n.toNat) := fun σ G H s R q =>
  h σ G H s _ fun vs G1 H1 g1 r1 => ⟨n, RpL.ints (ns := [n]) r1, h1, h2, q _ G1 H1 g1 iter_range⟩
theorem ei_range2 {tr : TA} {lo n : Int} {j : Nat} (h : EvA K G0 H0 Γ tr [.int lo, .int n]) (h1 : -(2 ^ 62) ≤ lo ∧ lo < 2 ^ 62 ∧ -(2 ^ 62) ≤ n ∧ n < 2 ^ 62) : EvI K G0 H0 Γ (iRng2 tr) (gName j) [j] (rngD lo (n - lo).toNat) := fun σ G H s R q =>
  h σ G H s _ fun vs G1 H1 g1 r1 => ⟨lo, n, RpL.ints (ns := [lo, n]) r1, h1, q _ G1 H1 g1 iter_range⟩
def numD (ds : List D) : List (List D) := (List.range ds.length).map fun (i : Nat) => [D.int (i : Int), ds.getD i .non]
theorem numD_len (ds : List D) : (numD ds).length = ds.length := by
  unfold numD
  rw [List.length_map, List.length_range]
theorem numD_at {ds : List D} {i : Nat} {es : List D} (h : (numD ds)[i]? = some es) : ∃ d, ds[i]? = some d ∧ es = [.int (i : Int), d] := by
  have hi : i < ds.length := by
    have z := (List.getElem?_eq_some_iff.mp h).1
    rwa [numD_len] at z
  unfold numD at h
  rw [List.getElem?_map, List.getElem?_range hi] at h
  refine ⟨ds[i], List.getElem?_eq_getElem hi, ?_⟩
  have z : [D.int (i : Int), ds.getD i .non] = es := by simpa using h
  rw [← z, List.getD_eq_getElem?_getD, List.getElem?_eq_getElem hi]
  rfl
theorem iter_enum {G : Hp} {a : Addr} {vs : List V} {ds : List D} {j1 j2 : Nat} (h : G a = some (.lst vs)) (r : RpL K G ds vs) : IterOk K G (Ite K a) (gTup K 2 (gCons (gName j1) (gCons (gName j2) gNil))) [j1, j2] (numD ds) where
  go := fun i H g hi => by
    rw [numD_len, ← r.len] at hi
    exact ⟨vs, vs[i], SqL.of (g _ _ h), List.getElem?_eq_getElem hi⟩
  stop := fun H g => ⟨vs, SqL.of (g _ _ h), by rw [numD_len, r.len]; exact Nat.le_refl _⟩
  yld := fun i H x H' ds' g hd hy => by
    obtain ⟨t, y, e1, e2, e3, hy⟩ := hy
    subst e1 e3
    have hx := hy vs (SqL.of (g _ _ h))
    obtain ⟨d, hd', hr⟩ := r.get' hx
    obtain ⟨d2, hd2, z⟩ := numD_at hd
    rw [hd'] at hd2
    cases hd2
    subst z
    exact ⟨same_new e2, [.int (i : Nat), y], ⟨_, _, rfl, rfl, RpL.one hr⟩, fun σ Q q => ⟨t, _, rfl, SqT.of upd_same, rfl, _, _, rfl, y, _, rfl, rfl, q⟩⟩
theorem ei_enum {tr : TA} {ds : List D} {j1 j2 : Nat} (h : EvA K G0 H0 Γ tr [.lst ds]) : EvI K G0 H0 Γ (iEnum K tr) (gTup K 2 (gCons (gName j1) (gCons (gName j2) gNil))) [j1, j2] (numD ds) := fun σ G H s R q =>
  h σ G H s _ fun ws G1 H1 g1 r1 => by
    obtain ⟨v, r, e1, ⟨a, vs, e2, e3, e4⟩, e5⟩ := r1
    have e5 : r = [] := e5
    subst e5 e2
    exact ⟨a, vs, e1, SqL.of (g1.gh _ _ e3), q _ G1 H1 g1 (iter_enum e3 e4)⟩
def twoD (ds es : List D) : List (List D) := (ds.zip es).map fun p => [p.1, p.2]
theorem twoD_len (ds es : List D) : (twoD ds es).length = min ds.length es.length := by
  unfold twoD
  rw [List.length_map, List.length_zip]
theorem twoD_at {ds es : List D} {i : Nat} {xs : List D} (h : (twoD ds es)[i]? = some xs) : ∃ d e, ds[i]? = some d ∧ es[i]? = some e ∧ xs = [d, e] := by
  unfold twoD at h
  rw [List.getElem?_map] at h
  cases hz : (ds.zip es)[i]? with
  | none =>
    rw [hz] at h
    simp at h
  | some p =>
    rw [hz] at h
    have z : [p.1, p.2] = xs := by simpa using h
    obtain ⟨h1, h2⟩ := List.getElem?_zip_eq_some.mp hz
    exact ⟨p.1, p.2, h1, h2, z.symm⟩
theorem iter_zip {G : Hp} {a a2 : Addr} {vs ws : List V} {ds es : List D} {j1 j2 : Nat} (h : G a = some (.lst vs)) (r : RpL K G ds vs) (h2 : G a2 = some (.lst ws)) (r2 : RpL K G es ws) : IterOk K G (Itz K a a2) (gTup K 2 (gCons (gName j1) (gCons (gName j2) gNil))) [j1, j2] (twoD ds es) where
  go := fun i H g hi => by
    rw [twoD_len, ← r.len, ← r2.len] at hi
    exact ⟨vs, ws, vs[i]'(by omega), ws[i]'(by omega), SqL.of (g _ _ h), SqL.of (g _ _ h2), List.getElem?_eq_getElem _, List.getElem?_eq_getElem _⟩
  stop := fun H g => ⟨vs, ws, SqL.of (g _ _ h), SqL.of (g _ _ h2), by rw [twoD_len, r.len, r2.len]; omega⟩
  yld := fun i H x H' ds' g hd hy => by
    obtain ⟨t, y, z, e1, e2, e3, hy, hz⟩ := hy
    subst e1 e3
    obtain ⟨d, hd', hr⟩ := r.get' (hy vs (SqL.of (g _ _ h)))
    obtain ⟨e, he', hr2⟩ := r2.get' (hz ws (SqL.of (g _ _ h2)))
    obtain ⟨d2, e2', hd2, he2, w⟩ := twoD_at hd
    rw [hd'] at hd2
    rw [he'] at he2
    cases hd2
    cases he2
    subst w
    exact ⟨same_new e2, [y, z], ⟨_, _, rfl, hr, RpL.one hr2⟩, fun σ Q q => ⟨t, _, rfl, SqT.of upd_same, rfl, y, _, rfl, z, _, rfl, rfl, q⟩⟩
theorem ei_zip {tr : TA} {ds es : List D} {j1 j2 : Nat} (h : EvA K G0 H0 Γ tr [.lst ds, .lst es]) : EvI K G0 H0 Γ (iZip K tr) (gTup K 2 (gCons (gName j1) (gCons (gName j2) gNil))) [j1, j2] (twoD ds es) := fun σ G H s R q =>
  h σ G H s _ fun xs G1 H1 g1 r1 => by
    obtain ⟨v, r, e1, ⟨a, vs, e2, e3, e4⟩, w, r', f1, ⟨a2, ws, f2, f3, f4⟩, e5⟩ := r1
    have e5 : r' = [] := e5
    subst e5 e2 f1 f2
    exact ⟨a, a2, vs, ws, e1, SqL.of (g1.gh _ _ e3), SqL.of (g1.gh _ _ f3), q _ G1 H1 g1 (iter_zip e3 e4 f3 f4)⟩

/-! ### for, while, comprehensions -/
theorem r_for {wi : TI} {g : TG} {js : List Nat} {items : List (List D)} {tb : TS} (hi : EvI K G0 H0 Γ wi g js items) (Γs : Nat → List Ent) (h0 : GLe Γ (Γs 0))
    (hs : ∀ (G1 : Hp) (i : Nat) (ds : List D), items[i]? = some ds → Run K G1 H0 (setG (Γs i) js ds) (tb { De with nx := At K G1 H0 (Γs (i + 1)), ct := At K G1 H0 (Γs (i + 1)), bk := De.nx }))
    (hd : Run K G0 H0 (Γs items.length) De.nx) : Run K G0 H0 Γ (tFor wi g tb De) := fun σ G H s =>
  hi σ G H s _ fun J G1 H1 g1 it => by
    have s1 := s.step g1
    refine ⟨fun i m σ' H' => m = items.length - i ∧ i ≤ items.length ∧ At K G1 H0 (Γs i) σ' H', ⟨_, rfl, Nat.zero_le _, G1, s1.rebase.le h0⟩, ?_⟩
    rintro i m σ' H' ⟨rfl, hle, G', s'⟩
    have sg : Same G1 H' := s'.gh.gg.trans s'.gh.gh
    by_cases hlt : i < items.length
    · refine .inr ⟨it.go i H' sg hlt, At K G1 H0 (Γs (i + 1)), fun σ2 H2 z => ⟨_, by omega, rfl, hlt, z⟩, fun x H2 y => ?_⟩
      obtain ⟨k, vs, r, q⟩ := it.yld i H' x H2 items[i] sg (List.getElem?_eq_getElem hlt) y
      refine q σ' _ (hs G1 i items[i] (List.getElem?_eq_getElem hlt) _ G' H2 ?_)
      have g2 : Gh G' H' G' H2 := ⟨Same.refl _, k, s'.gh.gh.trans k, fun _ _ z => z⟩
      have s2 := s'.step g2
      exact ⟨s2.gh, s2.env.setAll (RpL.mono s2.gh.gg _ _ r)⟩
    · have e : i = items.length := by omega
      subst e
      exact .inl ⟨it.stop H' sg, hd σ' G' H' (s'.base s1.gh)⟩
theorem r_while {S : Type} {tb : TS} (Γs : S → List Ent) (μ : S → Nat) (x0 : S) (P : S → Prop) (p0 : P x0) (h0 : GLe Γ (Γs x0))
    (hs : ∀ x, P x → ∃ b, EvT K G0 H0 (Γs x) t b ∧ (b = true → ∃ y, P y ∧ μ y < μ x ∧ Run K G0 H0 (Γs x) (tb { De with nx := At K G0 H0 (Γs y), ct := At K G0 H0 (Γs y), bk := De.nx })) ∧ (b = false → Run K G0 H0 (Γs x) De.nx)) :
    Run K G0 H0 Γ (tWhile t tb De) := fun σ G H s => by
  refine ⟨fun m σ' H' => ∃ x, P x ∧ m = μ x ∧ At K G0 H0 (Γs x) σ' H', ⟨_, x0, p0, rfl, G, s.le h0⟩, ?_⟩
  rintro m σ' H' ⟨x, px, rfl, G', s'⟩
  obtain ⟨b, ht, hT, hF⟩ := hs x px
  refine ht σ' G' H' s' _ fun G2 H2 g2 => ?_
  cases b with
  | true =>
    obtain ⟨y, py, hm, hr⟩ := hT rfl
    exact iteT ⟨At K G0 H0 (Γs y), fun σ3 H3 z => ⟨_, hm, y, py, rfl, z⟩, hr σ' G2 H2 (s'.step g2)⟩
  | false => exact iteF (hF rfl σ' G2 H2 (s'.step g2))
/-- .. where a turn may leave, too -/
theorem r_whileN {S : Type} {tb : TS} (Γs : S → List Ent) (μ : S → Nat) (x0 : S) (P : S → Prop) (p0 : P x0) (h0 : GLe Γ (Γs x0))
    (hs : ∀ x, P x → ∃ b, EvT K G0 H0 (Γs x) t b ∧ (b = true → ∃ N : L2.St → Hp → Prop, (∀ σ H, N σ H → ∃ y, P y ∧ μ y < μ x ∧ At K G0 H0 (Γs y) σ H) ∧ Run K G0 H0 (Γs x) (tb { De with nx := N, ct := N, bk := De.nx })) ∧ (b = false → Run K G0 H0 (Γs x) De.nx)) :
    Run K G0 H0 Γ (tWhile t tb De) := fun σ G H s => by
  refine ⟨fun m σ' H' => ∃ x, P x ∧ m = μ x ∧ At K G0 H0 (Γs x) σ' H', ⟨_, x0, p0, rfl, G, s.le h0⟩, ?_⟩
  rintro m σ' H' ⟨x, px, rfl, G', s'⟩
  obtain ⟨b, ht, hT, hF⟩ := hs x px
  refine ht σ' G' H' s' _ fun G2 H2 g2 => ?_
  cases b with
  | true =>
    obtain ⟨N, hN, hr⟩ := hT rfl
    refine iteT ⟨N, fun σ3 H3 z => ?_, hr σ' G2 H2 (s'.step g2)⟩
    obtain ⟨y, py, hm, z⟩ := hN σ3 H3 z
    exact ⟨_, hm, y, py, rfl, z⟩
  | false => exact iteF (hF rfl σ' G2 H2 (s'.step g2))
theorem wipe_set {σ : L2.St} {o : Option V} {j : Nat} : ∀ {vs : List Nat}, j ∈ vs → wipe (σ.set j o) vs = wipe σ vs
  | [], h => absurd h (by simp)
  | v :: vs, h => by
    show (wipe (σ.set j o) vs).set v none = (wipe σ vs).set v none
    by_cases hv : j ∈ vs
    · rw [wipe_set hv]
    · have e : j = v := by
        rcases List.mem_cons.mp h with e | e
        · exact e
        · exact absurd e hv
      subst e
      have key : ∀ (ws : List Nat) (τ : L2.St), (wipe (τ.set j o) ws).set j none = (wipe τ ws).set j none := by
        intro ws
        induction ws with
        | nil =>
          intro τ
          show (τ.set j o).set j none = τ.set j none
          rw [List.set_set]
        | cons w ws ih =>
          intro τ
          show ((wipe (τ.set j o) ws).set w none).set j none = ((wipe τ ws).set w none).set j none
          by_cases hw : w = j
          · subst hw
            rw [List.set_set, List.set_set, ih]
          · rw [List.set_comm _ _ hw, ih, List.set_comm _ _ hw]
      exact key vs σ
theorem wipe_setAll {vs : List Nat} : ∀ {js : List Nat} {ws : List V} {σ : L2.St}, (∀ j ∈ js, j ∈ vs) → wipe (Qa.setAll σ js ws) vs = wipe σ vs
  | [], _, _, _ => rfl
  | j :: js, [], _, _ => rfl
  | j :: js, w :: ws, σ, h => by
    show wipe (Qa.setAll (σ.set j (some w)) js ws) vs = wipe σ vs
    rw [wipe_setAll (fun x hx => h x (List.mem_cons_of_mem _ hx)), wipe_set (h j (List.mem_cons_self ..))]
theorem wipe_wipe (vs : List Nat) (σ : L2.St) : wipe (wipe σ vs) vs = wipe σ vs := by
  have key : ∀ (ws : List Nat), (∀ w ∈ ws, w ∈ vs) → wipe (wipe σ ws) vs = wipe σ vs := by
    intro ws
    induction ws with
    | nil =>
      intro _
      rfl
    | cons w ws ih =>
      intro h
      show wipe ((wipe σ ws).set w none) vs = wipe σ vs
      rw [wipe_set (h w (List.mem_cons_self ..)), ih fun x hx => h x (List.mem_cons_of_mem _ hx)]
  exact key vs fun w h => h
/-- what a comprehension gives: of each item something or nothing -/
theorem en_lc {wi : TI} {g : TG} {tt : TT} {js vs : List Nat} {items : List (List D)} (hi : EvI K G0 H0 Γ wi g js items) (hj : ∀ j ∈ js, j ∈ vs) (hz : items.length ≤ sizeLine) (out : List (Option D)) (ho : out.length = items.length)
    (hs : ∀ (G1 : Hp) (i : Nat) (ds : List D) (o : Option D), items[i]? = some ds → out[i]? = some o → EvT K G1 H0 (setG (wipeG Γ vs) js ds) tt o.isSome ∧ ∀ d, o = some d → Evd K G1 H0 (setG (wipeG Γ vs) js ds) te d) :
    EvN K G0 H0 Γ (tLc wi g tt te vs) (out.filterMap id) := fun σ G H s Q q =>
  hi σ G H s _ fun J G1 H1 g1 it Dl hD => by
    have s1 := s.step g1
    refine ⟨fun i m H' => m = items.length - i ∧ i ≤ items.length ∧ ∃ G' acc, Gh G1 H1 G' H' ∧ G' Dl = none ∧ H' Dl = some (.lst acc) ∧ RpL K G' ((out.take i).filterMap id) acc,
      ⟨_, rfl, Nat.zero_le _, G1, [], Gh.alloc g1.gh hD, g1.gh.free hD, upd_same, by rw [List.take_zero] <;> rfl⟩, ?_⟩
    rintro i m H' ⟨rfl, hle, G', acc, g', f1, f2, f3⟩
    have sg : Same G1 H' := g'.gg.trans g'.gh
    have hacc : acc.length ≤ i := by
      rw [f3.len]
      refine Nat.le_trans (List.length_filterMap_le _ _) ?_
      rw [List.length_take]
      exact Nat.min_le_left _ _
    by_cases hlt : i < items.length
    · refine .inr ⟨it.go i H' sg hlt, fun H2 => i + 1 ≤ items.length ∧ ∃ G2 acc, Gh G1 H1 G2 H2 ∧ G2 Dl = none ∧ H2 Dl = some (.lst acc) ∧ RpL K G2 ((out.take (i + 1)).filterMap id) acc, fun H2 z => ⟨_, by omega, rfl, z⟩, fun x H2 y => ?_⟩
      obtain ⟨k, ws, r, hq⟩ := it.yld i H' x H2 items[i] sg (List.getElem?_eq_getElem hlt) y
      refine hq _ _ ⟨?_, ?_⟩
      · rw [wipe_setAll hj, wipe_wipe]
      have hio : i < out.length := by rw [ho]; exact hlt
      obtain ⟨ht, he⟩ := hs G' i items[i] out[i] (List.getElem?_eq_getElem hlt) (List.getElem?_eq_getElem hio)
      have g2 : Gh G' H' G' H2 := ⟨Same.refl _, k, g'.gh.trans k, fun _ _ z => z⟩
      have sN : Stt K G' H0 (setG (wipeG Γ vs) js items[i]) (Qa.setAll (wipe σ vs) js ws) G' H2 := by
        have sa := (s1.step (g'.trans g2))
        exact ⟨⟨Same.refl _, sa.gh.hh, sa.gh.gh, fun _ _ z => z⟩, (sa.env.wiped vs).setAll (RpL.mono g'.gg _ _ r)⟩
      have dn : H' Dl ≠ none := by
        rw [f2]
        exact fun z => nomatch z
      have tk : (out.take (i + 1)).filterMap id = (out.take i).filterMap id ++ (match out[i] with | some d => [d] | none => []) := by
        rw [List.take_succ_eq_append_getElem hio, List.filterMap_append]
        cases out[i] <;> rfl
      refine ht _ G' H2 sN _ fun G3 H3 g3 => ?_
      have gg3 := g2.trans g3
      cases hoi : out[i] with
      | none =>
        rw [hoi] at tk
        refine iteF ⟨hlt, G3, acc, g'.trans gg3, gg3.fr Dl dn f1, gg3.hh _ _ f2, ?_⟩
        rw [tk, List.append_nil]
        exact RpL.mono gg3.gg _ _ f3
      | some d =>
        rw [hoi] at tk
        refine iteT (he d hoi _ G3 H3 (sN.step g3) _ fun v G4 H4 g4 r4 => ?_)
        have gg4 := gg3.trans g4
        refine ⟨acc, gg4.hh _ _ f2, by omega, hlt, G4, acc ++ [v], ?_, gg4.fr Dl dn f1, upd_same, ?_⟩
        · exact (g'.trans gg4).write hD (gg4.fr Dl dn f1)
        · rw [tk]
          exact (RpL.mono gg4.gg _ _ f3).append (RpL.one r4)
    · have e : i = items.length := by omega
      subst e
      refine .inl ⟨it.stop H' sg, q Dl acc G' H' (g1.trans g') (g1.hh.free hD) f1 f2 ?_⟩
      rw [← ho, List.take_length] at f3
      exact f3
theorem et_yes : EvT K G0 H0 Γ tYes true := fun σ G H s Q q => q G H (Gh.refl s.gh.gh)
/-- .. without a test -/
theorem en_lcAll {wi : TI} {g : TG} {js vs : List Nat} {items : List (List D)} (hi : EvI K G0 H0 Γ wi g js items) (hj : ∀ j ∈ js, j ∈ vs) (hz : items.length ≤ sizeLine) (out : List D) (ho : out.length = items.length)
    (hs : ∀ (G1 : Hp) (i : Nat) (ds : List D) (d : D), items[i]? = some ds → out[i]? = some d → Evd K G1 H0 (setG (wipeG Γ vs) js ds) te d) : EvN K G0 H0 Γ (tLc wi g tYes te vs) out := by
  have h := en_lc (te := te) hi hj hz (out.map some) (by rw [List.length_map]; exact ho) fun G1 i ds o h1 h2 => by
    rw [List.getElem?_map] at h2
    cases hd : out[i]? with
    | none =>
      rw [hd] at h2
      simp at h2
    | some d =>
      rw [hd] at h2
      have z : some d = o := by simpa using h2
      subst z
      exact ⟨et_yes, fun d' e => by
        cases e
        exact hs G1 i ds d h1 hd⟩
  have e : (out.map some).filterMap id = out := by
    rw [List.filterMap_map]
    exact List.filterMap_some
  rw [e] at h
  exact h
end
end Qa

set_option Elab.async false
set_option linter.all false
set_option maxRecDepth 100000
set_option maxHeartbeats 4000000
namespace Qa
open PySem PySem.Spec PyProof.Rows L2

/-! ### further operations -/
section
variable {K : PySem.W.Frag} {G0 H0 : Hp} {Γ Γ' : List Ent} {ta tb tc te : TE} {t u : TT} {tr : TA} {d e : D} {l m : List D} {i j : Int} {b c : Bool} {ns ms : List Int}
theorem ev_callB {r : List V → Hp → VK → Prop} (ha : EvA K G0 H0 Γ tr l) (hr : ∀ G H vs, Gh G0 H0 G H → RpL K G l vs → ∀ Q : VK, (∀ z G2 H2, Gh G H G2 H2 → Rp K G2 d z → Q z H2) → r vs H Q) : Evd K G0 H0 Γ (tCB r tr) d := fun σ G H s Q q =>
  ha σ G H s _ fun vs G1 H1 g1 r1 => hr G1 H1 vs (s.step g1).gh r1 Q fun z G3 H3 g3 r3 => q z G3 H3 (g1.trans g3) r3
theorem ev_abs (ha : Evd K G0 H0 Γ ta (.int i)) : Evd K G0 H0 Γ (tCB (fun xs H Q => ∃ i, xs = [.int i] ∧ Q (.int (if i < 0 then -i else i)) H) (tCons ta tNil)) (.int (i.natAbs : Int)) :=
  ev_callB (ea_1 ha) fun G H vs s r Q q => ⟨i, RpL.ints (ns := [i]) r, q _ G H (Gh.refl s.gh) (show V.int _ = V.int _ by
    congr 1
    by_cases h : i < 0
    · rw [if_pos h]
      omega
    · rw [if_neg h]
      omega)⟩
theorem ev_max (ha : Evd K G0 H0 Γ ta (.int i)) (hb : Evd K G0 H0 Γ tb (.int j)) : Evd K G0 H0 Γ (tCB (fun xs H Q => ∃ i j, xs = [.int i, .int j] ∧ Q (.int (if j > i then j else i)) H) (tCons ta (tCons tb tNil))) (.int (max i j)) :=
  ev_callB (ea_2 ha hb) fun G H vs s r Q q => ⟨i, j, RpL.ints (ns := [i, j]) r, q _ G H (Gh.refl s.gh) (show V.int _ = V.int _ by
    congr 1
    by_cases h : j > i
    · rw [if_pos h]
      omega
    · rw [if_neg h]
      omega)⟩
theorem ev_min (ha : Evd K G0 H0 Γ ta (.int i)) (hb : Evd K G0 H0 Γ tb (.int j)) : Evd K G0 H0 Γ (tCB (fun xs H Q => ∃ i j, xs = [.int i, .int j] ∧ Q (.int (if j < i then j else i)) H) (tCons ta (tCons tb tNil))) (.int (min i j)) :=
  ev_callB (ea_2 ha hb) fun G H vs s r Q q => ⟨i, j, RpL.ints (ns := [i, j]) r, q _ G H (Gh.refl s.gh) (show V.int _ = V.int _ by
    congr 1
    by_cases h : j < i
    · rw [if_pos h]
      omega
    · rw [if_neg h]
      omega)⟩
theorem ev_intb (ha : Evd K G0 H0 Γ ta (.bl b)) : Evd K G0 H0 Γ (tCB (fun xs H Q => (∃ i, xs = [.int i] ∧ Q (.int i) H) ∨ ∃ k, xs = [.bl k] ∧ Q (.int (if k then 1 else 0)) H) (tCons ta tNil)) (.int (if b = true then 1 else 0)) :=
  ev_callB (ea_1 ha) fun G H vs s r Q q => .inr ⟨b, RpL.bools (ns := [b]) r, q _ G H (Gh.refl s.gh) rfl⟩
theorem ints_seq {G H : Hp} (g : Same G H) {v : V} (r : Rp K G (.lst (ns.map D.int)) v) : ∃ a, v = .ref a ∧ SqL K H a (ns.map V.int) := by
  obtain ⟨a, vs, e1, e2, _, e3⟩ := lst_seq g r
  refine ⟨a, e1, ?_⟩
  rw [← e3.ints]
  exact SqL.of e2
theorem ev_sum (ha : Evd K G0 H0 Γ ta (.lst (ns.map D.int))) : Evd K G0 H0 Γ (tCB (rSum K) (tCons ta tNil)) (.int ns.sum) :=
  ev_callB (ea_1 ha) fun G H vs s r Q q => by
    obtain ⟨v, r', e1, e2, e3⟩ := r
    have e3 : r' = [] := e3
    subst e3 e1
    obtain ⟨a, h1, h2⟩ := ints_seq s.gh e2
    subst h1
    exact ⟨a, ns, rfl, h2, q _ G H (Gh.refl s.gh) rfl⟩
theorem ev_all {bs : List Bool} (ha : Evd K G0 H0 Γ ta (.lst (bs.map D.bl))) : Evd K G0 H0 Γ (tCB (rAll K) (tCons ta tNil)) (.bl (bs.all id)) :=
  ev_callB (ea_1 ha) fun G H vs s r Q q => by
    obtain ⟨v, r', e1, e2, e3⟩ := r
    have e3 : r' = [] := e3
    subst e3 e1
    obtain ⟨a, ws, f1, f2, _, f3⟩ := lst_seq s.gh e2
    subst f1
    rw [f3.bools] at f2
    exact ⟨a, bs, rfl, SqL.of f2, q _ G H (Gh.refl s.gh) rfl⟩
/-! lists of ints compared -/
theorem lay_ints : ∀ ns : List Int, PyData.canLayAll0 (ns.map PyData.int) = true
  | [] => by simp [PyData.canLayAll0]
  | n :: ns => by
    rw [List.map_cons]
    simp only [PyData.canLayAll0, PyData.canLay0, lay_ints ns, Bool.and_self]
theorem dep_ints : ∀ ns : List Int, PyData.depthAll (ns.map PyData.int) = 0
  | [] => by simp [PyData.depthAll]
  | n :: ns => by
    rw [List.map_cons]
    simp only [PyData.depthAll, dep_ints ns]
    simp [PyData.depth]
theorem shaped_ints (ns : List Int) : SeqAt.shaped (.list (ns.map PyData.int)) = true := by
  unfold SeqAt.shaped
  simp only [PyData.canLay0, PyData.depth, lay_ints, dep_ints]
  decide
theorem eqv_ints : ∀ ns ms : List Int, PyData.eqvAll (ns.map PyData.int) (ms.map PyData.int) = decide (ns = ms)
  | [], [] => by simp [PyData.eqvAll]
  | [], m :: ms => by simp [PyData.eqvAll]
  | n :: ns, [] => by simp [PyData.eqvAll]
  | n :: ns, m :: ms => by
    rw [List.map_cons, List.map_cons]
    simp only [PyData.eqvAll, PyData.eqv, eqv_ints ns ms]
    by_cases h : n = m
    · subst h
      simp
    · simp [h]
theorem ev_eqL (ha : Evd K G0 H0 Γ ta (.lst (ns.map D.int))) (hb : Evd K G0 H0 Γ tb (.lst (ms.map D.int))) : Evd K G0 H0 Γ (tOp (rEqD K) ta tb) (.bl (decide (ns = ms))) :=
  ev_op ha hb fun G H v w s e1 e2 Q q => ⟨_, _, dp_ints s.gh e1, dp_ints s.gh e2, shaped_ints ns, shaped_ints ms, q _ G H (Gh.refl s.gh) (show V.bl _ = V.bl _ by
    congr 1
    simp only [PyData.eqv, eqv_ints])⟩
theorem dp_at {H : Hp} {a : Addr} (h : H a = some (.lst (ns.map V.int))) : Dp K H (.ref a) (.list (ns.map PyData.int)) := by
  refine .lst (SqL.of h) ?_
  clear h
  induction ns with
  | nil => exact .nil
  | cons n ns ih => exact .cons (.int _) ih
/-- found != [], found the own list -/
theorem ev_neO {n : Nat} (h : Γ[n]? = some (.ow (ns.map D.int))) (hb : Evd K G0 H0 Γ tb (.lst [])) : Evd K G0 H0 Γ (tOp (rNeD K) (tVar n) tb) (.bl (!decide (ns = []))) := fun σ G H s Q q => by
  obtain ⟨hn, a, vs, e1, e2, e3, e4, e5⟩ := own_at s h
  refine ⟨_, e1, hb σ G H s _ fun w G1 H1 g1 r1 => ?_⟩
  have e6 := g1.hh _ _ e4
  rw [e5.ints] at e6
  refine ⟨_, _, dp_at e6, dp_ints (ns := []) (s.step g1).gh.gh r1, shaped_ints ns, shaped_ints [], q _ G1 H1 g1 ?_⟩
  show V.bl _ = V.bl _
  congr 1
  have z := eqv_ints ns []
  rw [List.map_nil] at z
  simp only [PyData.eqv, List.map_nil, z]
abbrev rowD (r : List Int) : D := .lst (r.map D.int)
abbrev rowsD (rs : List (List Int)) : D := .lst (rs.map rowD)
theorem lay_rows : ∀ rs : List (List Int), PyData.canLayAll0 (rs.map fun r => .list (r.map PyData.int)) = true
  | [] => by simp [PyData.canLayAll0]
  | r :: rs => by
    rw [List.map_cons]
    simp only [PyData.canLayAll0, PyData.canLay0, lay_ints, lay_rows rs, Bool.and_self]
theorem dep_rows : ∀ rs : List (List Int), PyData.depthAll (rs.map fun r => .list (r.map PyData.int)) ≤ 1
  | [] => by simp [PyData.depthAll]
  | r :: rs => by
    rw [List.map_cons]
    simp only [PyData.depthAll, PyData.depth, dep_ints]
    have := dep_rows rs
    omega
theorem shaped_rows (rs : List (List Int)) : SeqAt.shaped (.list (rs.map fun r => .list (r.map PyData.int))) = true := by
  unfold SeqAt.shaped
  have h := dep_rows rs
  simp only [PyData.canLay0, PyData.depth, lay_rows, Bool.true_and]
  exact decide_eq_true (by omega)
theorem dp_rows {G H : Hp} (g : Same G H) : ∀ {rs : List (List Int)} {vs : List V}, RpL K G (rs.map rowD) vs → DpAll K H vs (rs.map fun r => .list (r.map PyData.int))
  | [], vs, h => by
    rw [show vs = [] from h]
    exact .nil
  | r :: rs, vs, h => by
    obtain ⟨v, r', e1, e2, e3⟩ := h
    subst e1
    exact .cons (dp_ints g e2) (dp_rows g e3)
/-- rows == [] -/
theorem ev_eqR {rs : List (List Int)} (ha : Evd K G0 H0 Γ ta (rowsD rs)) (hb : Evd K G0 H0 Γ tb (.lst [])) : Evd K G0 H0 Γ (tOp (rEqD K) ta tb) (.bl (decide (rs = []))) :=
  ev_op ha hb fun G H v w s e1 e2 Q q => by
    obtain ⟨a, vs, f1, f2, _, f3⟩ := lst_seq s.gh e1
    subst f1
    refine ⟨_, _, .lst (SqL.of f2) (dp_rows s.gh f3), dp_ints (ns := []) s.gh e2, shaped_rows rs, shaped_ints [], q _ G H (Gh.refl s.gh) ?_⟩
    show V.bl _ = V.bl _
    congr 1
    cases rs with
    | nil => simp [PyData.eqv, PyData.eqvAll]
    | cons r rs => simp [PyData.eqv, PyData.eqvAll]

/-! attributes -/
def ixS : List Str → Str → Nat → Option Nat
  | [], _, _ => none
  | n :: ns, f, k => if n = f then some k else ixS ns f (k + 1)
theorem zip_look {f : Str} {v : V} : ∀ {ns : List Str} {vs : List V} {k j : Nat}, ixS ns f j = some (j + k) → vs[k]? = some v → (ns.zip vs).lookup f = some v
  | [], _, _, _, h, _ => by cases h
  | n :: ns, [], k, j, h, hv => by simp at hv
  | n :: ns, w :: vs, k, j, h, hv => by
    unfold ixS at h
    by_cases hn : n = f
    · rw [if_pos hn] at h
      have e : k = 0 := by
        have := Option.some.inj h
        omega
      subst e hn
      have z : w = v := by simpa using hv
      subst z
      simp [List.zip, List.lookup]
    · rw [if_neg hn] at h
      cases k with
      | zero =>
        exfalso
        have low : ∀ (ms : List Str) (x y : Nat), ixS ms f x = some y → x ≤ y := by
          intro ms
          induction ms with
          | nil =>
            intro x y z
            cases z
          | cons m ms ih =>
            intro x y z
            unfold ixS at z
            by_cases hm : m = f
            · rw [if_pos hm] at z
              have := Option.some.inj z
              omega
            · rw [if_neg hm] at z
              have := ih _ _ z
              omega
        have := low _ _ _ h
        omega
      | succ k =>
        have z := zip_look (ns := ns) (vs := vs) (k := k) (j := j + 1) (by rw [h]; congr 1; omega) (by simpa using hv)
        have e : (f == n) = false := beq_eq_false_iff_ne.mpr fun q => hn q.symm
        rw [List.zip_cons_cons]
        simp only [List.lookup, e]
        exact z
theorem zip_none {f : Str} : ∀ {ns : List Str} {vs : List V} {j : Nat}, ixS ns f j = none → (ns.zip vs).lookup f = none
  | [], _, _, _ => by simp
  | n :: ns, [], _, _ => by simp
  | n :: ns, w :: vs, j, h => by
    unfold ixS at h
    by_cases hn : n = f
    · rw [if_pos hn] at h
      cases h
    · rw [if_neg hn] at h
      have e : (f == n) = false := beq_eq_false_iff_ne.mpr fun q => hn q.symm
      rw [List.zip_cons_cons]
      simp only [List.lookup, e]
      exact zip_none h
theorem ev_fld {C : Addr} {fs : List Str} {f : Str} {k : Nat} (ha : Evd K G0 H0 Γ ta (.ins C fs l)) (hc : Cls K C) (hn : NoAttr K C f) (hk : ixS fs f 0 = some (0 + k)) (hd : l[k]? = some d) : Evd K G0 H0 Γ (tFld K ta f) d := fun σ G H s Q q =>
  ha σ G H s _ fun v G1 H1 g1 r1 => by
    obtain ⟨a, dx, vs, e1, e2, e3, e4⟩ := r1
    obtain ⟨w, h1, h2⟩ := e4.get hd
    exact ⟨a, C, dx, _, w, e1, g1.gh _ _ e2, hc, hn, zip_look hk h1, q _ G1 H1 g1 h2⟩

/-! ### what a def promises, in data -/
/-- asked what pre says of the arguments, it gives what pre says -/
def SpF (K : PySem.W.Frag) (pre : List D → D → Prop) : Sp := fun vs H Q _ => ∃ G ds d, Same G H ∧ RpL K G ds vs ∧ pre ds d ∧ ∀ v G' H', Gh G H G' H' → Rp K G' d v → Q v H'
/-- .. a new list -/
def SpN (K : PySem.W.Frag) (pre : List D → List D → Prop) : Sp := fun vs H Q _ => ∃ G ds l, Same G H ∧ RpL K G ds vs ∧ pre ds l ∧
  ∀ p ws G' H', Gh G H G' H' → H p = none → G' p = none → H' p = some (.lst ws) → RpL K G' l ws → Q (.ref p) H'
/-- the error of that number is wished for, from the heap H0 on -/
def Er (CR : Addr) (E : XK) (H0 : Hp) (c : Int) : Prop := ∀ dd H', Same H0 H' → H0 dd = none → H' dd = some (.xd [("code", .int c)]) → E (.ref CR) (some dd) H'
/-- .. or it raises the error of a number -/
def SpX (K : PySem.W.Frag) (CR : Addr) (pre : List D → Except Int D → Prop) : Sp := fun vs H Q E => ∃ G ds r, Same G H ∧ RpL K G ds vs ∧ pre ds r ∧
  (∀ d, r = .ok d → ∀ v G' H', Gh G H G' H' → Rp K G' d v → Q v H') ∧ (∀ c, r = .error c → Er CR E H c)
theorem Er.later {CR : Addr} {E : XK} {H0 H : Hp} {c : Int} (h : Er CR E H0 c) (k : Same H0 H) : Er CR E H c := fun dd H' e h0 h1 => h dd H' (k.trans e) (k.free h0) h1
def EvX (K : PySem.W.Frag) (G0 H0 : Hp) (Γ : List Ent) (te : TE) (r : Except Int D) : Prop := ∀ σ G H, Stt K G0 H0 Γ σ G H → ∀ Q : VK, (∀ d v G2 H2, r = .ok d → Gh G H G2 H2 → Rp K G2 d v → Q v H2) → te σ H Q
variable {CR : Addr} {E : XK} {pre : List D → D → Prop} {preN : List D → List D → Prop} {preX : List D → Except Int D → Prop} {r : Except Int D}
theorem ev_call (ha : EvA K G0 H0 Γ tr l) (hp : pre l d) : Evd K G0 H0 Γ (tCall (SpF K pre) [] E tr) d := fun σ G H s Q q =>
  ha σ G H s _ fun vs G1 H1 g1 r1 => ⟨G1, l, d, (s.step g1).gh.gh, by rw [List.append_nil]; exact r1, hp, fun v G2 H2 g2 r2 => q v G2 H2 (g1.trans g2) r2⟩
theorem en_call (ha : EvA K G0 H0 Γ tr l) (hp : preN l m) : EvN K G0 H0 Γ (tCall (SpN K preN) [] E tr) m := fun σ G H s Q q =>
  ha σ G H s _ fun vs G1 H1 g1 r1 => ⟨G1, l, m, (s.step g1).gh.gh, by rw [List.append_nil]; exact r1, hp, fun p ws G2 H2 g2 h0 h1 h2 r2 => q p ws G2 H2 (g1.trans g2) (g1.hh.free h0) h1 h2 r2⟩
theorem ex_call (ha : EvA K G0 H0 Γ tr l) (hp : preX l r) (hE : ∀ c, r = .error c → Er CR E H0 c) : EvX K G0 H0 Γ (tCall (SpX K CR preX) [] E tr) r := fun σ G H s Q q =>
  ha σ G H s _ fun vs G1 H1 g1 r1 => ⟨G1, l, r, (s.step g1).gh.gh, by rw [List.append_nil]; exact r1, hp, fun d h v G2 H2 g2 r2 => q d v G2 H2 h (g1.trans g2) r2, fun c h => (hE c h).later (s.step g1).gh.hh⟩
/-! methods -/
theorem ev_meth {C : Addr} {fs : List Str} {n : Str} (ho : Evd K G0 H0 Γ ta (.ins C fs m)) (hn : ixS fs n 0 = none) (ha : EvA K G0 H0 Γ tr l) (hp : pre (.ins C fs m :: l) d) : Evd K G0 H0 Γ (tMeth C n (SpF K pre) [] E ta tr) d := fun σ G H s Q q =>
  ho σ G H s _ fun v G1 H1 g1 r1 => by
    obtain ⟨a, dx, vs, e1, e2, e3⟩ := id r1
    refine ⟨a, dx, _, e1, g1.gh _ _ e2, zip_none hn, ha σ G1 H1 (s.step g1) _ fun ws G2 H2 g2 r2 => ⟨G2, _, d, ((s.step g1).step g2).gh.gh, (by rw [List.append_nil]; exact ⟨v, ws, rfl, Rp.mono g2.gg _ _ r1, r2⟩ : RpL K G2 (.ins C fs m :: l) (v :: (ws ++ []))), hp, fun z G3 H3 g3 r3 => q z G3 H3 ((g1.trans g2).trans g3) r3⟩⟩
theorem en_meth {C : Addr} {fs : List Str} {n : Str} {out : List D} (ho : Evd K G0 H0 Γ ta (.ins C fs m)) (hn : ixS fs n 0 = none) (ha : EvA K G0 H0 Γ tr l) (hp : preN (.ins C fs m :: l) out) : EvN K G0 H0 Γ (tMeth C n (SpN K preN) [] E ta tr) out := fun σ G H s Q q =>
  ho σ G H s _ fun v G1 H1 g1 r1 => by
    obtain ⟨a, dx, vs, e1, e2, e3⟩ := id r1
    refine ⟨a, dx, _, e1, g1.gh _ _ e2, zip_none hn, ha σ G1 H1 (s.step g1) _ fun ws G2 H2 g2 r2 => ⟨G2, _, out, ((s.step g1).step g2).gh.gh, (by rw [List.append_nil]; exact ⟨v, ws, rfl, Rp.mono g2.gg _ _ r1, r2⟩ : RpL K G2 (.ins C fs m :: l) (v :: (ws ++ []))), hp, fun p us G3 H3 g3 h0 h1 h2 r3 => q p us G3 H3 ((g1.trans g2).trans g3) ((g1.trans g2).hh.free h0) h1 h2 r3⟩⟩
theorem ex_meth {C : Addr} {fs : List Str} {n : Str} (ho : Evd K G0 H0 Γ ta (.ins C fs m)) (hn : ixS fs n 0 = none) (ha : EvA K G0 H0 Γ tr l) (hp : preX (.ins C fs m :: l) r) (hE : ∀ c, r = .error c → Er CR E H0 c) : EvX K G0 H0 Γ (tMeth C n (SpX K CR preX) [] E ta tr) r := fun σ G H s Q q =>
  ho σ G H s _ fun v G1 H1 g1 r1 => by
    obtain ⟨a, dx, vs, e1, e2, e3⟩ := id r1
    refine ⟨a, dx, _, e1, g1.gh _ _ e2, zip_none hn, ha σ G1 H1 (s.step g1) _ fun ws G2 H2 g2 r2 => ?_⟩
    have s2 := (s.step g1).step g2
    exact ⟨G2, _, r, s2.gh.gh, (by rw [List.append_nil]; exact ⟨v, ws, rfl, Rp.mono g2.gg _ _ r1, r2⟩ : RpL K G2 (.ins C fs m :: l) (v :: (ws ++ []))), hp, fun d h z G3 H3 g3 r3 => q d z G3 H3 h ((g1.trans g2).trans g3) r3, fun c h => (hE c h).later s2.gh.hh⟩
/-! what may raise, in statements and around -/
theorem EvX.ok (h : EvX K G0 H0 Γ te r) (e : r = .ok d) : Evd K G0 H0 Γ te d := fun σ G H s Q q => h σ G H s Q fun d' v G2 H2 e' g r' => by
  rw [e] at e'
  cases e'
  exact q v G2 H2 g r'
theorem EvX.dead (h : EvX K G0 H0 Γ te r) {c : Int} (e : r = .error c) : Dead K G0 H0 Γ te := fun σ G H s Q => h σ G H s Q fun d' v G2 H2 e' _ _ => by
  rw [e] at e'
  cases e'
theorem dead_call {sp : Sp} {tr : TA} (h : Dead K G0 H0 Γ ta) : Dead K G0 H0 Γ (tCall sp [] E (tCons ta tr)) := fun σ G H s Q => h σ G H s _
theorem dead_tup {tr : TA} (h : Dead K G0 H0 Γ ta) : Dead K G0 H0 Γ (tTup (tCons ta tr)) := fun σ G H s Q => h σ G H s _
theorem dead_op2 {rr : R2} (ha : Evd K G0 H0 Γ ta d) (h : Dead K G0 H0 Γ tb) : Dead K G0 H0 Γ (tOp rr ta tb) := fun σ G H s Q => ha σ G H s _ fun v G1 H1 g1 r1 => h σ G1 H1 (s.step g1) _
theorem r_asgX {n : Nat} {De : Ends} (h : EvX K G0 H0 Γ te r) (k : ∀ d, r = .ok d → Run K G0 H0 (Γ.set n (.fz d)) De.nx) : Run K G0 H0 Γ (tAsg te (gName n) De) := fun σ G H s =>
  h σ G H s _ fun d v G1 H1 e g1 r1 => k d e _ G1 H1 ((s.step g1).setv n r1)
theorem r_asgX2 {n1 n2 : Nat} {De : Ends} (h : EvX K G0 H0 Γ te r) (h2 : ∀ d, r = .ok d → ∃ d1 d2, d = .tup [d1, d2]) (k : ∀ d1 d2, r = .ok (.tup [d1, d2]) → Run K G0 H0 ((Γ.set n1 (.fz d1)).set n2 (.fz d2)) De.nx) :
    Run K G0 H0 Γ (tAsg te (gTup K 2 (gCons (gName n1) (gCons (gName n2) gNil))) De) := by
  cases r with
  | error c => exact fun σ G H s => h.dead rfl σ G H s _
  | ok d =>
    obtain ⟨d1, d2, e⟩ := h2 d rfl
    subst e
    exact r_asg2 (h.ok rfl) (k d1 d2 rfl)
theorem r_dropX {De : Ends} (h : EvX K G0 H0 Γ te r) (k : ∀ d, r = .ok d → Run K G0 H0 Γ De.nx) : Run K G0 H0 Γ (tDrop te De) := fun σ G H s =>
  h σ G H s _ fun d v G1 H1 e g1 r1 => k d e _ G1 H1 (s.step g1)
theorem r_dead_asg {De : Ends} {g : TG} (h : Dead K G0 H0 Γ te) : Run K G0 H0 Γ (tAsg te g De) := fun σ G H s => h σ G H s _
theorem r_dead_ret {De : Ends} (h : Dead K G0 H0 Γ te) : Run K G0 H0 Γ (tRet te De) := fun σ G H s => h σ G H s _
theorem r_retX {De : Ends} (h : EvX K G0 H0 Γ te r) (k : ∀ d v G H, r = .ok d → Gh G0 H0 G H → Rp K G d v → De.rt v H) : Run K G0 H0 Γ (tRet te De) := fun σ G H s => h σ G H s _ fun d v G1 H1 e g1 r1 => k d v G1 H1 e (s.step g1).gh r1

/-! ### an own list lent to a call that gives a tuple of ints -/
theorem ev_lend {n : Nat} (h : Γ[n]? = some (.ow l)) (hs : sole Γ n = true) (he : Evd K G0 H0 (Γ.set n (.fz (.lst l))) te (.tup (ns.map D.int))) : Evd K G0 H0 Γ te (.tup (ns.map D.int)) := fun σ G H s Q q => by
  obtain ⟨hn, a, vs, e1, e2, e3, e4, e5⟩ := own_at s h
  have s' : Stt K G0 H0 (Γ.set n (.fz (.lst l))) σ (upd G a (.lst vs)) H := ⟨s.gh.put e2 e3 e4, s.env.frz (same_new e3) hs e1 ⟨a, vs, rfl, upd_same, RpL.mono (same_new e3) _ _ e5⟩⟩
  refine he σ _ H s' Q fun v G2 H2 g r => ?_
  have ga : G2 a = some (.lst vs) := g.gg _ _ upd_same
  have cut : ∀ {b : Addr} {o : HO}, b ≠ a → G2 b = some o → (fun b => if b = a then none else G2 b : Hp) b = some o := fun hb e => by
    show (if _ = a then none else _) = _
    rw [if_neg hb]
    exact e
  have uncut : ∀ {b : Addr} {o : HO}, (fun b => if b = a then none else G2 b : Hp) b = some o → G2 b = some o := fun {b o} e => by
    have e' : (if b = a then none else G2 b) = some o := e
    by_cases hb : b = a
    · rw [if_pos hb] at e'
      cases e'
    · rwa [if_neg hb] at e'
  refine q v (fun b => if b = a then none else G2 b) H2 ⟨fun b o e => ?_, g.hh, fun b o e => g.gh _ _ (uncut e), fun b h1 h2 => ?_⟩ ?_
  · have hb : b ≠ a := ne_of_none e e3
    exact cut hb (g.gg _ _ (by rw [upd_ne hb]; exact e))
  · show (if b = a then none else G2 b) = none
    by_cases hb : b = a
    · rw [if_pos hb]
    · rw [if_neg hb]
      exact g.fr b h1 (by rw [upd_ne hb]; exact h2)
  · obtain ⟨t, ws, f1, f2, f3⟩ := r
    have f4 := f3.ints
    subst f4
    refine ⟨t, _, f1, ?_, rpl_ints ns⟩
    rcases f2 with (f2 | ⟨o, f2⟩) | f2
    · exact .inl (.inl (cut (ne_of f2 ga fun z => nomatch z) f2))
    · exact .inl (.inr ⟨o, cut (ne_of f2 ga fun z => nomatch z) f2⟩)
    · exact .inr f2

/-! ### a def's body begins -/
theorem env_start {G H : Hp} : ∀ {ds : List D} {vs : List V}, RpL K G ds vs → ∀ n : Nat, EnvOk K H0 G H (ds.map Ent.fz ++ List.replicate n Ent.no) (vs.map some ++ List.replicate n none)
  | [], vs, h, n => by
    rw [show vs = [] from h]
    induction n with
    | zero => exact rfl
    | succ n ih => exact ⟨none, _, rfl, trivial, ih⟩
  | d :: ds, vs, h, n => by
    obtain ⟨v, r, e1, e2, e3⟩ := h
    subst e1
    exact ⟨some v, _, rfl, ⟨v, rfl, e2⟩, env_start e3 n⟩
theorem Run.go {G H : Hp} {ds : List D} {vs : List V} {N : List Str} {T : L2.St → Hp → Prop} (n : Nat) (hG : Same G H) (hr : RpL K G ds vs) (hN : N.length = ds.length + n) (h : Run K G H (ds.map Ent.fz ++ List.replicate n Ent.no) T) : T (L2.start N vs) H := by
  unfold L2.start
  rw [hr.len, hN, show ds.length + n - ds.length = n by omega]
  exact h _ G H ⟨Gh.refl hG, env_start hr n⟩
end
end Qa

set_option Elab.async false
set_option linter.all false
set_option maxRecDepth 100000
set_option maxHeartbeats 4000000
namespace Qa
open PySem PySem.Spec PyProof.Rows L2

/-! ### defs of the text, as a caller sees them -/
structure Dfn (K : PySem.W.Frag) (mg : Str → Option Value) (name : Str) (st : Stmt) (ps : List Str) : Type where
  f : Addr
  fd : FuncData
  F : Fun K name name st f fd
  m : mg name = some (.ref f)
  b : Binds K fd ps []
structure Mtd (K : PySem.W.Frag) (C : Addr) (name qual : Str) (st : Stmt) (ps : List Str) : Type where
  f : Addr
  fd : FuncData
  F : Fun K name qual st f fd
  m : Meth K C name f
  b : Binds K fd ps []
section
variable {X : Cx} {CX : CXT} {x : Str} {st : Stmt} {ps : List Str} {sp : Sp} {k j : Nat} {E : XK} {e o : Expr} {es : List Expr} {t : TA} {ta : TE} {p pos apos : Pos} {C : Addr} {qual : Str}
theorem pe_own (d : Dfn X.K X.mg x st ps) (G : FnOk X.prog X.w X.K X.mg X.base CX j d.f d.fd ps sp) (hr : Room k X.A) (ha : PA X (e :: es) t) (hx : Passes CX X E) (hj : j ≤ k := by decide) (hg : Gl X x := by rfl)
    (hdb : (x == ("__debug__" : Str)) = false := by decide) (he : starEach (e :: es) X.env = (false, eval e X.env) :: starEach es X.env := by rfl) (hpl : (backTo pos (starEach es X.env)).any (·.1) = false := by rfl) :
    PE X (.Call (.Name x p) (e :: es) [] pos) (tCall sp [] E t) := pe_call G (hr.mono hj) hg d.m d.F.kp d.b .nil hx ha hdb he hpl
theorem pe_gi {n : Int} (h : ∃ t, X.mg x = some (.int n t)) (hg : Gl X x := by rfl) (hd : (x == ("__debug__" : Str)) = false := by decide) : PE X (.Name x pos) (tC (.int n)) := by
  obtain ⟨t, h⟩ := h
  exact pe_glob hg h ⟨t, rfl⟩ hd
theorem pe_gt {a : Addr} (h : X.mg x = some (.ref a)) (hg : Gl X x := by rfl) (hd : (x == ("__debug__" : Str)) = false := by decide) : PE X (.Name x pos) (tC (.ref a)) := pe_glob hg h rfl hd
/-- a context that lets nothing out, within one that does -/
theorem PS.inox {st : Stmt} {t : TS} (h : PS X.nox st t) : PS X st t := by
  have z := (pss_one h).nox
  refine ⟨fun pins s σ H D I q => ?_⟩
  have y := (h.run pins s σ H D (I.wish _) q)
  exact wpAny_mono y (fun f s' r => SP.unwish r) fun _ _ x => x.elim
end

/-! ### rules with the written part told apart -/
section
variable {X : Cx} {e o a b : Expr} {es : List Expr} {ta tb te to : TE} {t : TA} {pos apos cpos p : Pos} {tg : Expr}
theorem pg_tupk (K : PySem.W.Frag) {ts : List Expr} {k : Nat} {t : TGs} {n : Nat} (h : PGs X ts t) (hK : X.K = K := by rfl) (hc : X.calm = true := by rfl) (hn : (assignEach ts X.env).length = n := by rfl) (hst : (assignEach ts X.env).findIdx? (·.1) = none := by rfl) : PG X (.Tuple ts k pos) (gTup K n t) := by
  subst hK
  exact pg_tup hc h hn hst
theorem ix_listk (K : PySem.W.Frag) (hK : X.K = K := by rfl) : IxR X (rIxL K) := by
  subst hK
  exact ix_list
theorem ix_tupk (K : PySem.W.Frag) (hK : X.K = K := by rfl) : IxR X (rIxT K) := by
  subst hK
  exact ix_tup
theorem sl_listk (K : PySem.W.Frag) (hK : X.K = K := by rfl) : SlR X (rSlL K) := by
  subst hK
  exact sl_list
theorem call_lenk (K : PySem.W.Frag) (hK : X.K = K := by rfl) : CallR X (.builtin "len") (fun xs H Q => ∃ p ys, xs = [.ref p] ∧ (SqL K H p ys ∨ SqT K H p ys) ∧ Q (.int ys.length) H) := by
  subst hK
  exact call_len_seq
theorem call_listk (K : PySem.W.Frag) (hK : X.K = K := by rfl) : CallR X (.type "list") (fun xs H Q => ∃ p ys, xs = [.ref p] ∧ (SqL K H p ys ∨ SqT K H p ys) ∧ ∀ l, H l = none → Q (.ref l) (upd H l (.lst ys))) := by
  subst hK
  exact call_list_of
theorem cr_sumk (K : PySem.W.Frag) (hc : X.calm = true) (hK : X.K = K := by rfl) : CallR X (.builtin "sum") (rSum K) := by
  subst hK
  exact cr_sum hc
theorem cr_allk (K : PySem.W.Frag) (hc : X.calm = true) (hK : X.K = K := by rfl) : CallR X (.builtin "all") (rAll K) := by
  subst hK
  exact cr_all hc
theorem op_eqDk (K : PySem.W.Frag) (hu : X.A.units + 64 < cLine) (hK : X.K = K := by rfl) : OpR X (compareOp .Eq) (rEqD K) := by
  subst hK
  exact op_eqD hu
theorem op_neDk (K : PySem.W.Frag) (hu : X.A.units + 64 < cLine) (hK : X.K = K := by rfl) : OpR X (compareOp .NotEq) (rNeD K) := by
  subst hK
  exact op_neD hu
theorem pe_fldk (K : PySem.W.Frag) {f : Str} (he : PE X e ta) (hK : X.K = K := by rfl) (hb : attributeBase e f X.env (eval e X.env) = eval e X.env := by rfl) : PE X (.Attribute e f pos) (tFld K ta f) := by
  subst hK
  exact pe_fld he hb
theorem pi_listk (K : PySem.W.Frag) {l : Expr} {tl : TE} (hl : PE X l tl) (hK : X.K = K := by rfl) : PI X tg l (iList K tl) := by
  subst hK
  exact pi_list hl
theorem pi_enumk (K : PySem.W.Frag) {tpos : Pos} {elts : List Expr} {kk : Nat} (hm : X.mg "enumerate" = none) (ha : PA X [e] t) (hK : X.K = K := by rfl) (hg : Gl X "enumerate" := by rfl) (hs : starEach [e] X.env = [(false, eval e X.env)] := by rfl) :
    PI X (.Tuple elts kk tpos) (.Call (.Name "enumerate" p) [e] [] pos) (iEnum K t) := by
  subst hK
  exact pi_enum hg hm ha hs
theorem pi_zipk (K : PySem.W.Frag) {e2 : Expr} {tpos : Pos} {elts : List Expr} {kk : Nat} (hm : X.mg "zip" = none) (ha : PA X [e, e2] t) (hK : X.K = K := by rfl) (hg : Gl X "zip" := by rfl)
    (hs : starEach [e, e2] X.env = (false, eval e X.env) :: starEach [e2] X.env := by rfl) (hpl : (backTo pos (starEach [e2] X.env)).any (·.1) = false := by rfl) :
    PI X (.Tuple elts kk tpos) (.Call (.Name "zip" p) [e, e2] [] pos) (iZip K t) := by
  subst hK
  exact pi_zip hg hm ha hs hpl
end

/-! ### products of great numbers -/
def BB : Nat := 50000000
def sm (x : Int) : Prop := x.natAbs < 2 ^ BB
theorem sm_of {x : Int} {n : Nat} (h : x.natAbs < 2 ^ n) (hn : n ≤ BB) : sm x := Nat.lt_of_lt_of_le h (Nat.pow_le_pow_right (by decide) hn)
theorem sm_log {x : Int} (h : sm x) : Builtin.Int.intBits x ≤ BB := by
  unfold Builtin.Int.intBits
  split
  · exact Nat.zero_le _
  · rename_i hx
    have hne : x.natAbs ≠ 0 := by
      intro z
      exact hx (by simp [Int.natAbs_eq_zero.mp z])
    exact (Nat.log2_lt hne).mpr h
theorem mul_ok {i j : Int} (hi : sm i) (hj : sm j) : IntMulOk i j := by
  have h1 := sm_log hi
  have h2 := sm_log hj
  have e : bitsLine = 134217728 := by decide
  have eb : BB = 50000000 := rfl
  unfold IntMulOk
  intro z
  rw [Bool.and_eq_true] at z
  have z2 := z.2
  unfold Builtin.Int.intTooBig at z2
  have z3 := of_decide_eq_true z2
  rw [e] at z3
  omega
section
variable {X : Cx}
theorem op_mulB : OpR X (binaryOp .Mult) (rI (fun i j => sm i ∧ sm j) fun i j => .int (i * j)) := opI fun _ _ _ _ _ _ _ hc q => mul_int q (mul_ok hc.1 hc.2)
end

/-! ### // of great numbers: what stands ahead of stock's own long division -/
structure Seer (X : Cx) : Prop where
  tree : X.prog.given.tree = none
  base : X.base.NoSeer
  stk : ∃ env l, X.stack = env :: l ∧ env.scope.isGenerator = false ∧ env.scope.isCoroutine = false ∧ env.builtins = builtinsNs ∧ env.globals = mainGlobals
section
variable {X : Cx}
theorem op_fdivP {k : Nat} (S : Seer X) (hr : Room k X.A) (hk : 35 ≤ k := by decide) : OpR X (binaryOp .FloorDiv) (rI (fun _ j => j ≠ 0) fun i j => .int (i.fdiv j)) := by
  intro pins s σ H x y v u Q I rx ry h
  obtain ⟨i, j, rfl, rfl, hc, q⟩ := h
  obtain ⟨t, rfl⟩ := rx
  obtain ⟨t', rfl⟩ := ry
  obtain ⟨env, l, e1, e2, e3, e4, e5⟩ := S.stk
  have hd : X.A.depth + Builtin.pylongFrames < recursionLimit := by
    have := hr.dp
    have e : Builtin.pylongFrames = 100 := rfl
    omega
  have hs : SeerAt (model X.prog X.w) X.A s.heap := SeerAt.of (S.base.keeps I.bk) S.tree (by rw [I.ok.frames, e1]) e2 e3 e4 e5
  exact floordiv_int hc ⟨.int (i.fdiv j), H, I.tok _, ⟨_, rfl⟩, q⟩ (.inr (PylongRoom.of I.nolimit hd hs))
end
/-- what the written part tells of the tables that are looked at -/
structure SeerK (P : Program) (K : PySem.W.Frag) : Prop where
  tree : P.given.tree = none
  a1 : PySem.W.nsIn K cStatics "sys.audit-hooks" = some none
  a2 : PySem.W.nsIn K cStatics "sys.dict" = some none
  a3 : PySem.W.nsIn K sysModules "_pylong" = some none
  bm : ∃ bm ob, PySem.W.nsIn K mainGlobals "__builtins__" = some (some (.ref bm)) ∧ K.lookup bm = some ob ∧ ob.cls = .type "module" ∧ ob.dict = some builtinsNs
end Qa

set_option Elab.async false
set_option linter.all false
set_option maxRecDepth 100000
set_option maxHeartbeats 4000000
namespace Qa
open PySem PySem.Spec PyProof.Rows L2
/-- the i-th statement of the text -/
def top (i : Nat) : Stmt := PySem.Challenge.pw_quietaids_s01_answers.main.body.getD i (.Pass ⟨0, 0, 0, 0⟩)
structure Ini (K : PySem.W.Frag) (name qual : Str) (st : Stmt) (ps : List Str) : Type where
  f : Addr
  fd : FuncData
  F : Fun K name qual st f fd
  b : Binds K fd ps []
abbrev s_Refused_init : Stmt := (inClass (top 9) 0)
abbrev s_want : Stmt := (top 10)
abbrev s_want_within : Stmt := (top 11)
abbrev s_want_row : Stmt := (top 12)
abbrev s_want_filter : Stmt := (top 13)
abbrev s_common : Stmt := (top 17)
abbrev s_fraction : Stmt := (top 18)
abbrev s_plus : Stmt := (top 19)
abbrev s_less : Stmt := (top 20)
abbrev s_times : Stmt := (top 21)
abbrev s_over : Stmt := (top 22)
abbrev s_trimmed : Stmt := (top 24)
abbrev s_padded : Stmt := (top 25)
abbrev s_product : Stmt := (top 26)
abbrev s_sum_of : Stmt := (top 27)
abbrev s_scaled : Stmt := (top 28)
abbrev s_less_row : Stmt := (top 29)
abbrev s_divisor_of : Stmt := (top 30)
abbrev s_reduced : Stmt := (top 31)
abbrev s_plain : Stmt := (top 32)
abbrev s_Band_init : Stmt := (inClass (top 35) 0)
abbrev s_product_of : Stmt := (top 36)
abbrev s_Aid_init : Stmt := (inClass (top 37) 0)
abbrev s_Aid_band_at : Stmt := (inClass (top 37) 1)
abbrev s_Aid_together : Stmt := (inClass (top 37) 2)
abbrev s_Aid_ring_at : Stmt := (inClass (top 37) 3)
abbrev s_Aid_ring : Stmt := (inClass (top 37) 4)
abbrev s_Aid_heard : Stmt := (inClass (top 37) 5)
abbrev s_made_fractions : Stmt := (top 39)
abbrev s_weighed : Stmt := (top 40)
abbrev s_answers_to : Stmt := (top 41)
abbrev s_clicked : Stmt := (top 42)
abbrev s_without : Stmt := (top 43)
abbrev s_loudness : Stmt := (top 44)
abbrev s_let_go : Stmt := (top 45)
abbrev s_has_step : Stmt := (top 47)
abbrev s_step_of : Stmt := (top 48)
abbrev s_told_steps : Stmt := (top 49)
abbrev s_is_quiet : Stmt := (top 50)
abbrev s_are_alike : Stmt := (top 51)
abbrev s_leads_on : Stmt := (top 52)
abbrev s_is_proof : Stmt := (top 53)
abbrev s_rows_in : Stmt := (top 54)
abbrev s_with_size : Stmt := (top 63)
abbrev s_rows_told : Stmt := (top 64)
abbrev s_fractions_told : Stmt := (top 65)
abbrev s_band_told : Stmt := (top 66)
abbrev s_ring : Stmt := (top 67)
abbrev s_quiet : Stmt := (top 68)
abbrev s_steps : Stmt := (top 69)
abbrev s_check : Stmt := (top 70)
abbrev s_loud : Stmt := (top 71)
abbrev s_play : Stmt := (top 72)
abbrev s_freed : Stmt := (top 73)
abbrev s_is_quiet_at : Stmt := (top 74)
abbrev s_volume : Stmt := (top 75)
abbrev s_alone : Stmt := (top 76)
abbrev s_row_asked : Stmt := (top 77)
abbrev s_ends : Stmt := (top 78)
abbrev s_told_whole : Stmt := (top 79)
abbrev s_click : Stmt := (top 80)
abbrev s_quiet_at : Stmt := (top 81)
abbrev s_want_number : Stmt := (top 85)
abbrev s_want_gain : Stmt := (top 86)
abbrev s_leak : Stmt := (top 87)
abbrev s_put_band : Stmt := (top 88)
abbrev s_put_gain : Stmt := (top 89)
abbrev s_mute : Stmt := (top 90)
abbrev s_later : Stmt := (top 91)
abbrev s_turn : Stmt := (top 92)
abbrev s_changed : Stmt := (top 93)
abbrev s_of_ring : Stmt := (top 94)
abbrev s_of_others : Stmt := (top 95)
abbrev s_Desk_init : Stmt := (inClass (top 96) 0)
abbrev s_Desk_told_by : Stmt := (inClass (top 96) 1)
abbrev s_Desk_answer : Stmt := (inClass (top 96) 2)
abbrev s_lists_from : Stmt := (top 100)
abbrev s_answers : Stmt := (top 101)
structure Txt (K : PySem.W.Frag) (mg : Str → Option Value) : Type where
  CR : Addr
  CA : Addr
  CB : Addr
  CD : Addr
  b_abs : mg "abs" = none
  b_len : mg "len" = none
  b_max : mg "max" = none
  b_min : mg "min" = none
  b_list : mg "list" = none
  b_enumerate : mg "enumerate" = none
  b_zip : mg "zip" = none
  b_range : mg "range" = none
  b_all : mg "all" = none
  b_int : mg "int" = none
  b_sum : mg "sum" = none
  b_ValueError : mg "ValueError" = none
  c_BAD : ∃ t, mg "BAD" = some (.int (-1) t)
  c_NO_BAND : ∃ t, mg "NO_BAND" = some (.int (-3) t)
  c_NO_RING : ∃ t, mg "NO_RING" = some (.int (-5) t)
  c_MISFIT : ∃ t, mg "MISFIT" = some (.int (-6) t)
  c_LOUD : ∃ t, mg "LOUD" = some (.int (-8) t)
  c_MOST_UPPER : ∃ t, mg "MOST_UPPER" = some (.int (4) t)
  c_MOST_LOWER : ∃ t, mg "MOST_LOWER" = some (.int (3) t)
  c_MOST_OF_FILTERS : ∃ t, mg "MOST_OF_FILTERS" = some (.int (100) t)
  a_NOUGHT : Addr
  c_NOUGHT : mg "NOUGHT" = some (.ref a_NOUGHT) ∧ ∀ H : Hp, SqT K H a_NOUGHT [.int 0, .int 1]
  a_ONE : Addr
  c_ONE : mg "ONE" = some (.ref a_ONE) ∧ ∀ H : Hp, SqT K H a_ONE [.int 1, .int 1]
  c_MOST_BANDS : ∃ t, mg "MOST_BANDS" = some (.int (3) t)
  c_MOST_CHECKED : ∃ t, mg "MOST_CHECKED" = some (.int (200) t)
  c_MOST_INPUTS : ∃ t, mg "MOST_INPUTS" = some (.int (16) t)
  c_MOST_TOLD : ∃ t, mg "MOST_TOLD" = some (.int (12) t)
  c_FAR : ∃ t, mg "FAR" = some (.int (1000) t)
  c_FAR_IN_ROWS : ∃ t, mg "FAR_IN_ROWS" = some (.int (1000000) t)
  c_MOST_VOLUME : ∃ t, mg "MOST_VOLUME" = some (.int (60) t)
  c_MOST_PARTS : ∃ t, mg "MOST_PARTS" = some (.int (100) t)
  c_MOST_GAIN : ∃ t, mg "MOST_GAIN" = some (.int (1000) t)
  c_MOST_LATER : ∃ t, mg "MOST_LATER" = some (.int (3) t)
  a_WHOLE : Addr
  c_WHOLE : mg "WHOLE" = some (.ref a_WHOLE) ∧ ∀ H : Hp, SqT K H a_WHOLE [.int 0, .int 3, .int 3, .int 1, .int 0, .int 0, .int 0, .int 0, .int 0, .int 0, .int 1, .int 2, .int 0, .int 0, .int 0, .int 2, .int 1, .int 0, .int 1, .int 2]
  a_LISTS : Addr
  c_LISTS : mg "LISTS" = some (.ref a_LISTS) ∧ ∀ H : Hp, SqT K H a_LISTS [.int 2, .int 2, .int 0, .int 0, .int 0, .int 0, .int 0, .int 1, .int 0, .int 1, .int 1, .int 0, .int 0, .int 1, .int 0, .int 0, .int 0, .int 0, .int 0, .int 0]
  Refused_init : Ini K "__init__" "Refused.__init__" s_Refused_init ["self", "code"]
  want : Dfn K mg "want" s_want ["truth", "code"]
  want_within : Dfn K mg "want_within" s_want_within ["number", "least", "most"]
  want_row : Dfn K mg "want_row" s_want_row ["row", "least_long", "most_long", "far"]
  want_filter : Dfn K mg "want_filter" s_want_filter ["upper", "lower"]
  common : Dfn K mg "common" s_common ["one", "other"]
  fraction : Dfn K mg "fraction" s_fraction ["top", "bottom"]
  plus : Dfn K mg "plus" s_plus ["one", "other"]
  less : Dfn K mg "less" s_less ["one", "other"]
  times : Dfn K mg "times" s_times ["one", "other"]
  over : Dfn K mg "over" s_over ["one", "other"]
  trimmed : Dfn K mg "trimmed" s_trimmed ["row"]
  padded : Dfn K mg "padded" s_padded ["row", "size"]
  product : Dfn K mg "product" s_product ["one", "other"]
  sum_of : Dfn K mg "sum_of" s_sum_of ["one", "other"]
  scaled : Dfn K mg "scaled" s_scaled ["row", "by"]
  less_row : Dfn K mg "less_row" s_less_row ["one", "other"]
  divisor_of : Dfn K mg "divisor_of" s_divisor_of ["row"]
  reduced : Dfn K mg "reduced" s_reduced ["row"]
  plain : Dfn K mg "plain" s_plain ["row"]
  Band_init : Ini K "__init__" "Band.__init__" s_Band_init ["self", "gain", "upper", "lower"]
  product_of : Dfn K mg "product_of" s_product_of ["rows"]
  Aid_init : Ini K "__init__" "Aid.__init__" s_Aid_init ["self"]
  Aid_band_at : Mtd K CA "band_at" "Aid.band_at" s_Aid_band_at ["self", "i"]
  Aid_together : Mtd K CA "together" "Aid.together" s_Aid_together ["self", "volume"]
  Aid_ring_at : Mtd K CA "ring_at" "Aid.ring_at" s_Aid_ring_at ["self", "volume"]
  Aid_ring : Mtd K CA "ring" "Aid.ring" s_Aid_ring ["self"]
  Aid_heard : Mtd K CA "heard" "Aid.heard" s_Aid_heard ["self"]
  made_fractions : Dfn K mg "made_fractions" s_made_fractions ["row"]
  weighed : Dfn K mg "weighed" s_weighed ["row", "heard", "t", "first"]
  answers_to : Dfn K mg "answers_to" s_answers_to ["upper", "lower", "inputs"]
  clicked : Dfn K mg "clicked" s_clicked ["upper", "lower", "n"]
  without : Dfn K mg "without" s_without ["row", "far", "part"]
  loudness : Dfn K mg "loudness" s_loudness ["upper", "lower"]
  let_go : Dfn K mg "let_go" s_let_go ["row", "told"]
  has_step : Dfn K mg "has_step" s_has_step ["row"]
  step_of : Dfn K mg "step_of" s_step_of ["row"]
  told_steps : Dfn K mg "told_steps" s_told_steps ["row"]
  is_quiet : Dfn K mg "is_quiet" s_is_quiet ["row"]
  are_alike : Dfn K mg "are_alike" s_are_alike ["one", "other"]
  leads_on : Dfn K mg "leads_on" s_leads_on ["row", "after"]
  is_proof : Dfn K mg "is_proof" s_is_proof ["row", "rows"]
  rows_in : Dfn K mg "rows_in" s_rows_in ["numbers"]
  with_size : Dfn K mg "with_size" s_with_size ["row"]
  rows_told : Dfn K mg "rows_told" s_rows_told ["rows"]
  fractions_told : Dfn K mg "fractions_told" s_fractions_told ["some"]
  band_told : Dfn K mg "band_told" s_band_told ["band"]
  ring : Dfn K mg "ring" s_ring ["aid"]
  quiet : Dfn K mg "quiet" s_quiet ["aid"]
  steps : Dfn K mg "steps" s_steps ["aid"]
  check : Dfn K mg "check" s_check ["aid", "numbers"]
  loud : Dfn K mg "loud" s_loud ["aid"]
  play : Dfn K mg "play" s_play ["aid", "inputs"]
  freed : Dfn K mg "freed" s_freed ["aid", "n", "told"]
  is_quiet_at : Dfn K mg "is_quiet_at" s_is_quiet_at ["aid", "n", "d"]
  volume : Dfn K mg "volume" s_volume ["aid", "d", "m"]
  alone : Dfn K mg "alone" s_alone ["aid"]
  row_asked : Dfn K mg "row_asked" s_row_asked ["numbers"]
  ends : Dfn K mg "ends" s_ends ["aid"]
  told_whole : Dfn K mg "told_whole" s_told_whole ["aid"]
  click : Dfn K mg "click" s_click ["aid", "n"]
  quiet_at : Dfn K mg "quiet_at" s_quiet_at ["aid", "n", "d"]
  want_number : Dfn K mg "want_number" s_want_number ["i"]
  want_gain : Dfn K mg "want_gain" s_want_gain ["n", "d"]
  leak : Dfn K mg "leak" s_leak ["aid", "upper", "lower"]
  put_band : Dfn K mg "put_band" s_put_band ["aid", "i", "n", "d", "upper", "lower"]
  put_gain : Dfn K mg "put_gain" s_put_gain ["aid", "i", "n", "d"]
  mute : Dfn K mg "mute" s_mute ["aid", "i"]
  later : Dfn K mg "later" s_later ["aid", "i", "k"]
  turn : Dfn K mg "turn" s_turn ["aid", "i"]
  changed : Dfn K mg "changed" s_changed ["aid", "call", "n", "rows"]
  of_ring : Dfn K mg "of_ring" s_of_ring ["aid", "call", "rows"]
  of_others : Dfn K mg "of_others" s_of_others ["aid", "call", "n", "rows"]
  Desk_init : Ini K "__init__" "Desk.__init__" s_Desk_init ["self"]
  Desk_told_by : Mtd K CD "told_by" "Desk.told_by" s_Desk_told_by ["self", "call", "n", "rows"]
  Desk_answer : Mtd K CD "answer" "Desk.answer" s_Desk_answer ["self", "call", "n", "rows"]
  lists_from : Dfn K mg "lists_from" s_lists_from ["calls", "at", "many"]
  answers : Dfn K mg "answers" s_answers ["calls"]
  g_Aid : mg "Aid" = some (.ref CA)
  cl_CA : Cls K CA
  mk_Aid : Mk K CA Aid_init.f
  n_leak_upper : NoAttr K CA "leak_upper"
  n_leak_lower : NoAttr K CA "leak_lower"
  n_bands : NoAttr K CA "bands"
  g_Band : mg "Band" = some (.ref CB)
  cl_CB : Cls K CB
  mk_Band : Mk K CB Band_init.f
  n_gain : NoAttr K CB "gain"
  n_upper : NoAttr K CB "upper"
  n_lower : NoAttr K CB "lower"
  g_Desk : mg "Desk" = some (.ref CD)
  cl_CD : Cls K CD
  mk_Desk : Mk K CD Desk_init.f
  n_aid : NoAttr K CD "aid"
  g_Refused : mg "Refused" = some (.ref CR)
  ox : OexC K CR
  xf : XfC K CR
  noC : PySem.W.findIn K (.ref CR) "code" = some none
  iR : PySem.W.findIn K (.ref CR) "__init__" = some (some (.ref Refused_init.f))
  tR : PySem.W.typeIn K (.ref Refused_init.f) = some (.type "function")
  te : PySem.W.exmOne K (.ref CR) (.ref CR) = some true
  vV : PySem.W.findCls K (.type "ValueError") (.type "type") "__init__" = some (.val (.builtin "ValueError.__init__"))
/-- the base that the library's own long division looks at -/
structure SeerB (P : Program) (base : Heap) : Prop where
  tree : P.given.tree = none
  seer : base.NoSeer
theorem sk {X : Cx} (S : SeerB X.prog X.base) {env : Env} {l : List Env} (h : X.stack = env :: l := by rfl) (h1 : env.scope.isGenerator = false := by rfl) (h2 : env.scope.isCoroutine = false := by rfl) (h3 : env.builtins = builtinsNs := by rfl) (h4 : env.globals = mainGlobals := by rfl) : Seer X :=
  ⟨S.tree, S.seer, env, l, h, h1, h2, h3, h4⟩
theorem px {X : Cx} {E : XK} (hs : X.stack = X.env :: X.outer) (hf : X.env.frame = some X.env.locals) (hex : X.ex = []) {E1 : Value → Shared → Prop}
    (hx : X.xe = fun e s' => wpAny (model X.prog X.w) X.A (leaving X.env e) (fun _ s'' => L2.CX X.prog X.w X.outer X.H_0 X.s_0 E e s'') E1 s') : Passes (L2.CX X.prog X.w) X E := passes_call (takes_of hs hf hex hx) fun _ _ _ _ h => h
end Qa

set_option linter.all false
namespace Qa
open Vbhlae

/-- a fraction of the specification, from a rational -/
def oq (x : Rat) : Q := ⟨x.num, x.den⟩
theorem frac_oq (n : Int) (d : Nat) : frac n d = oq (mkRat n d) := by
  unfold frac oq
  by_cases h : d = 0
  · subst h
    simp [Rat.mkRat_zero]
  · rw [if_neg h, Rat.mkRat_def, dif_neg h, Rat.normalize_eq]
theorem mk_eq (n : Int) (d : Nat) : mkRat n d = (n : Rat) / (d : Rat) := by
  rw [Rat.mkRat_eq_div]
theorem num_den (x : Rat) : (x.num : Rat) / (x.den : Rat) = x := by
  rw [← mk_eq, Rat.mkRat_self]
theorem den_ne (x : Rat) : (x.den : Rat) ≠ 0 := by
  intro h
  exact x.den_nz (by exact_mod_cast h)
theorem oq_add (x y : Rat) : Q.add (oq x) (oq y) = oq (x + y) := by
  unfold Q.add
  rw [frac_oq]
  congr 1
  show mkRat (x.num * (y.den : Int) + y.num * (x.den : Int)) (x.den * y.den) = x + y
  rw [mk_eq]
  have hx := den_ne x
  have hy := den_ne y
  have e1 := num_den x
  have e2 := num_den y
  have c : ((x.num * (y.den : Int) + y.num * (x.den : Int) : Int) : Rat) = (x.num : Rat) * (y.den : Rat) + (y.num : Rat) * (x.den : Rat) := by push_cast; rfl
  have c2 : ((x.den * y.den : Nat) : Rat) = (x.den : Rat) * (y.den : Rat) := by push_cast; rfl
  rw [c, c2]
  generalize (x.num : Rat) = a at *
  generalize (x.den : Rat) = b at *
  generalize (y.num : Rat) = a' at *
  generalize (y.den : Rat) = b' at *
  subst e1 e2
  grind
theorem oq_neg (x : Rat) : Q.neg (oq x) = oq (-x) := by
  unfold Q.neg oq
  rw [Rat.neg_num, Rat.neg_den]
theorem oq_sub (x y : Rat) : Q.sub (oq x) (oq y) = oq (x - y) := by
  unfold Q.sub
  rw [oq_neg, oq_add, Rat.sub_eq_add_neg]
theorem oq_mul (x y : Rat) : Q.mul (oq x) (oq y) = oq (x * y) := by
  unfold Q.mul
  rw [frac_oq]
  congr 1
  show mkRat (x.num * y.num) (x.den * y.den) = x * y
  rw [mk_eq]
  have hx := den_ne x
  have hy := den_ne y
  have e1 := num_den x
  have e2 := num_den y
  have c : ((x.num * y.num : Int) : Rat) = (x.num : Rat) * (y.num : Rat) := by push_cast; rfl
  have c2 : ((x.den * y.den : Nat) : Rat) = (x.den : Rat) * (y.den : Rat) := by push_cast; rfl
  rw [c, c2]
  generalize (x.num : Rat) = a at *
  generalize (x.den : Rat) = b at *
  generalize (y.num : Rat) = a' at *
  generalize (y.den : Rat) = b' at *
  subst e1 e2
  grind
theorem oq_div (x y : Rat) : Q.div (oq x) (oq y) = oq (x / y) := by
  unfold Q.div
  show (if y.num = 0 then (⟨0, 1⟩ : Q) else frac (if y.num < 0 then -(x.num * (y.den : Int)) else x.num * (y.den : Int)) (x.den * y.num.natAbs)) = oq (x / y)
  by_cases h : y.num = 0
  · rw [if_pos h]
    have : y = 0 := by
      rw [← num_den y, h, Rat.div_def]
      show (0 : Rat) * _ = 0
      rw [Rat.zero_mul]
    subst this
    rw [Rat.div_def, Rat.inv_zero, Rat.mul_zero]
    rfl
  · rw [if_neg h, frac_oq]
    congr 1
    rw [mk_eq]
    have hx := den_ne x
    have hy := den_ne y
    have hn : (y.num : Rat) ≠ 0 := by exact_mod_cast h
    have e1 := num_den x
    have e2 := num_den y
    by_cases hs : y.num < 0
    · rw [if_pos hs]
      have c : ((-(x.num * (y.den : Int)) : Int) : Rat) = -((x.num : Rat) * (y.den : Rat)) := by push_cast; rfl
      have c2 : ((x.den * y.num.natAbs : Nat) : Rat) = (x.den : Rat) * -(y.num : Rat) := by
        rw [← Rat.intCast_natCast]
        have : ((x.den * y.num.natAbs : Nat) : Int) = (x.den : Int) * -y.num := by
          rw [Int.natCast_mul]
          congr 1
          omega
        rw [this]
        push_cast
        rfl
      rw [c, c2]
      generalize (x.num : Rat) = a at *
      generalize (x.den : Rat) = b at *
      generalize (y.num : Rat) = a' at *
      generalize (y.den : Rat) = b' at *
      subst e1 e2
      grind
    · rw [if_neg hs]
      have c : ((x.num * (y.den : Int) : Int) : Rat) = (x.num : Rat) * (y.den : Rat) := by push_cast; rfl
      have c2 : ((x.den * y.num.natAbs : Nat) : Rat) = (x.den : Rat) * (y.num : Rat) := by
        have : ((x.den * y.num.natAbs : Nat) : Int) = (x.den : Int) * y.num := by
          rw [Int.natCast_mul]
          congr 1
          omega
        rw [← Rat.intCast_natCast, this]
        push_cast
        rfl
      rw [c, c2]
      generalize (x.num : Rat) = a at *
      generalize (x.den : Rat) = b at *
      generalize (y.num : Rat) = a' at *
      generalize (y.den : Rat) = b' at *
      subst e1 e2
      grind
theorem oq_whole (n : Int) : Q.whole n = oq (n : Rat) := rfl
theorem oq_zero : (⟨0, 1⟩ : Q) = oq 0 := rfl
theorem oq_one : (⟨1, 1⟩ : Q) = oq 1 := rfl
/-! ### Python's fraction -/
theorem mk_num {n : Int} {d : Nat} (h : d ≠ 0) : (mkRat n d).num = n / (Nat.gcd n.natAbs d : Int) := by
  rw [Rat.mkRat_def, dif_neg h, Rat.normalize_eq]
theorem mk_den {n : Int} {d : Nat} (h : d ≠ 0) : (mkRat n d).den = d / Nat.gcd n.natAbs d := by
  rw [Rat.mkRat_def, dif_neg h, Rat.normalize_eq]
def byOf (t b : Int) : Int := if b < 0 then -(Nat.gcd t.natAbs b.natAbs : Int) else (Nat.gcd t.natAbs b.natAbs : Int)
theorem byOf_ne {t b : Int} (h : b ≠ 0) : byOf t b ≠ 0 := by
  have : 0 < Nat.gcd t.natAbs b.natAbs := Nat.gcd_pos_of_pos_right _ (by omega)
  unfold byOf
  split <;> omega
theorem fdiv_exact {g k : Int} (h : g ≠ 0) : (g * k).fdiv g = k := by
  rw [Int.mul_fdiv_cancel_left _ h]
theorem div_pos_eq {t b : Int} (hb : 0 < b) : (t : Rat) / (b : Rat) = mkRat t b.natAbs := by
  rw [mk_eq, ← Rat.intCast_natCast]
  congr 2
  omega
theorem div_neg_eq {t b : Int} (hb : b < 0) : (t : Rat) / (b : Rat) = mkRat (-t) b.natAbs := by
  rw [mk_eq, ← Rat.intCast_natCast]
  have e : ((b.natAbs : Int)) = -b := by omega
  rw [e]
  have hn : (b : Rat) ≠ 0 := by
    have : b ≠ 0 := by omega
    exact_mod_cast this
  push_cast
  grind
theorem fr_num {t b : Int} (hb : b ≠ 0) : t.fdiv (byOf t b) = ((t : Rat) / (b : Rat)).num := by
  have hg : (Nat.gcd t.natAbs b.natAbs : Int) ≠ 0 := by
    have : 0 < Nat.gcd t.natAbs b.natAbs := Nat.gcd_pos_of_pos_right _ (by omega)
    omega
  obtain ⟨k, hk⟩ : (Nat.gcd t.natAbs b.natAbs : Int) ∣ t := by
    exact Int.ofNat_dvd_left.mpr (Nat.gcd_dvd_left _ _)
  by_cases hs : b < 0
  · rw [div_neg_eq hs, mk_num (by omega), Int.natAbs_neg]
    unfold byOf
    rw [if_pos hs]
    generalize (Nat.gcd t.natAbs b.natAbs : Int) = g at *
    subst hk
    have e : g * k = (-g) * (-k) := by rw [Int.neg_mul_neg]
    have e2 : -(g * k) = g * (-k) := by rw [Int.mul_neg]
    rw [e2, Int.mul_ediv_cancel_left _ hg, e, fdiv_exact (by omega)]
  · rw [div_pos_eq (by omega), mk_num (by omega)]
    unfold byOf
    rw [if_neg hs]
    generalize (Nat.gcd t.natAbs b.natAbs : Int) = g at *
    subst hk
    rw [Int.mul_ediv_cancel_left _ hg, fdiv_exact hg]
theorem fr_den {t b : Int} (hb : b ≠ 0) : b.fdiv (byOf t b) = (((t : Rat) / (b : Rat)).den : Int) := by
  have hp : 0 < Nat.gcd t.natAbs b.natAbs := Nat.gcd_pos_of_pos_right _ (by omega)
  have hg : (Nat.gcd t.natAbs b.natAbs : Int) ≠ 0 := by omega
  obtain ⟨k, hk⟩ : (Nat.gcd t.natAbs b.natAbs) ∣ b.natAbs := Nat.gcd_dvd_right _ _
  by_cases hs : b < 0
  · rw [div_neg_eq hs, mk_den (by omega), Int.natAbs_neg]
    unfold byOf
    rw [if_pos hs]
    have hb' : b = -((b.natAbs : Nat) : Int) := by omega
    generalize Nat.gcd t.natAbs b.natAbs = g at *
    generalize b.natAbs = c at *
    subst hk hb'
    rw [Nat.mul_div_cancel_left _ hp]
    have e : -((g * k : Nat) : Int) = (-(g : Int)) * (k : Int) := by push_cast; rw [Int.neg_mul]
    rw [e, fdiv_exact (by omega)]
  · rw [div_pos_eq (by omega), mk_den (by omega)]
    unfold byOf
    rw [if_neg hs]
    have hb' : b = ((b.natAbs : Nat) : Int) := by omega
    generalize Nat.gcd t.natAbs b.natAbs = g at *
    generalize b.natAbs = c at *
    subst hk hb'
    rw [Nat.mul_div_cancel_left _ hp]
    have e : ((g * k : Nat) : Int) = (g : Int) * (k : Int) := by push_cast; rfl
    rw [e, fdiv_exact hg]
theorem cn (x : Rat) : ((x.den : Int) : Rat) = (x.den : Rat) := Rat.intCast_natCast _
theorem fr_add (x y : Rat) : ((x.num * (y.den : Int) + y.num * (x.den : Int) : Int) : Rat) / (((x.den : Int) * (y.den : Int) : Int) : Rat) = x + y := by
  have hx := den_ne x
  have hy := den_ne y
  have e1 := num_den x
  have e2 := num_den y
  push_cast
  generalize (x.num : Rat) = a at *
  generalize (x.den : Rat) = b at *
  generalize (y.num : Rat) = a' at *
  generalize (y.den : Rat) = b' at *
  subst e1 e2
  grind
theorem fr_sub (x y : Rat) : ((x.num * (y.den : Int) - y.num * (x.den : Int) : Int) : Rat) / (((x.den : Int) * (y.den : Int) : Int) : Rat) = x - y := by
  have hx := den_ne x
  have hy := den_ne y
  have e1 := num_den x
  have e2 := num_den y
  push_cast
  generalize (x.num : Rat) = a at *
  generalize (x.den : Rat) = b at *
  generalize (y.num : Rat) = a' at *
  generalize (y.den : Rat) = b' at *
  subst e1 e2
  grind
theorem fr_mul (x y : Rat) : ((x.num * y.num : Int) : Rat) / (((x.den : Int) * (y.den : Int) : Int) : Rat) = x * y := by
  have hx := den_ne x
  have hy := den_ne y
  have e1 := num_den x
  have e2 := num_den y
  push_cast
  generalize (x.num : Rat) = a at *
  generalize (x.den : Rat) = b at *
  generalize (y.num : Rat) = a' at *
  generalize (y.den : Rat) = b' at *
  subst e1 e2
  grind
theorem fr_div {x y : Rat} (h : y ≠ 0) : ((x.num * (y.den : Int) : Int) : Rat) / (((x.den : Int) * y.num : Int) : Rat) = x / y := by
  have hx := den_ne x
  have hy := den_ne y
  have e1 := num_den x
  have e2 := num_den y
  push_cast
  generalize (x.num : Rat) = a at *
  generalize (x.den : Rat) = b at *
  generalize (y.num : Rat) = a' at *
  generalize (y.den : Rat) = b' at *
  subst e1 e2
  grind
end Qa

set_option linter.all false
namespace Qa
open Vbhlae

/-! ### rows -/
theorem at_lt {r : List Int} {i : Nat} (h : i < r.length) : at_ r i = r[i] := by
  unfold at_
  rw [List.getD_eq_getElem?_getD, List.getElem?_eq_getElem h]
  rfl
theorem at_ge {r : List Int} {i : Nat} (h : r.length ≤ i) : at_ r i = 0 := by
  unfold at_
  rw [List.getD_eq_getElem?_getD, List.getElem?_eq_none h]
  rfl
theorem at_append_l {r s : List Int} {i : Nat} (h : i < r.length) : at_ (r ++ s) i = at_ r i := by
  rw [at_lt h, at_lt (by rw [List.length_append]; omega), List.getElem_append_left h]
theorem at_ext {r s : List Int} (hl : r.length = s.length) (h : ∀ i, i < r.length → at_ r i = at_ s i) : r = s := by
  refine List.ext_getElem hl fun i h1 h2 => ?_
  have := h i h1
  rwa [at_lt h1, at_lt h2] at this
theorem at_map {f : Int → Int} {r : List Int} {i : Nat} (h : i < r.length) : at_ (r.map f) i = f (at_ r i) := by
  rw [at_lt (by rw [List.length_map]; exact h), at_lt h, List.getElem_map]
theorem at_map0 {f : Int → Int} (h0 : f 0 = 0) (r : List Int) (i : Nat) : at_ (r.map f) i = f (at_ r i) := by
  by_cases h : i < r.length
  · exact at_map h
  · rw [at_ge (by rw [List.length_map]; omega), at_ge (by omega), h0]
theorem at_range {f : Nat → Int} {n i : Nat} (h : i < n) : at_ ((List.range n).map f) i = f i := by
  rw [at_lt (by rw [List.length_map, List.length_range]; exact h), List.getElem_map, List.getElem_range]
theorem at_mem {r : List Int} {i : Nat} (h : i < r.length) : at_ r i ∈ r := by
  rw [at_lt h]
  exact List.getElem_mem h
theorem at_all {r : List Int} {p : Int → Prop} (h : ∀ x ∈ r, p x) (h0 : p 0) (i : Nat) : p (at_ r i) := by
  by_cases hi : i < r.length
  · exact h _ (at_mem hi)
  · rw [at_ge (by omega)]
    exact h0
/-! trim -/
theorem trim_append_zero (r : List Int) : trim (r ++ [0]) = trim r := by
  unfold trim
  rw [List.reverse_append]
  rfl
theorem trim_append_ne (r : List Int) {x : Int} (h : x ≠ 0) : trim (r ++ [x]) = r ++ [x] := by
  unfold trim
  rw [List.reverse_append]
  show ((x :: r.reverse).dropWhile fun y => y == 0).reverse = r ++ [x]
  rw [List.dropWhile_cons_of_neg (by simpa using h), List.reverse_cons, List.reverse_reverse]
theorem trim_nil : trim [] = [] := rfl
theorem split_last {r : List Int} (h : r ≠ []) : r = r.dropLast ++ [at_ r (r.length - 1)] := by
  have hl : r.length - 1 < r.length := by
    have := List.length_pos_iff.mpr h
    omega
  rw [at_lt hl, ← List.getLast_eq_getElem h, List.dropLast_concat_getLast]
theorem trim_drop {r : List Int} (h : r ≠ []) (h0 : at_ r (r.length - 1) = 0) : trim r.dropLast = trim r := by
  conv => rhs; rw [split_last h, h0]
  rw [trim_append_zero]
theorem trim_done {r : List Int} (h : r = [] ∨ at_ r (r.length - 1) ≠ 0) : trim r = r := by
  by_cases hr : r = []
  · subst hr
    rfl
  · have h2 := h.resolve_left hr
    conv => lhs; rw [split_last hr]
    rw [trim_append_ne _ h2]
    exact (split_last hr).symm
theorem trim_len_le (r : List Int) : (trim r).length ≤ r.length := by
  unfold trim
  rw [List.length_reverse]
  have := (List.dropWhile_sublist (fun x : Int => x == 0) (l := r.reverse)).length_le
  rwa [List.length_reverse] at this
theorem trim_end (r : List Int) : trim r = [] ∨ at_ (trim r) ((trim r).length - 1) ≠ 0 := by
  suffices ∀ n, ∀ r : List Int, r.length = n → (trim r = [] ∨ at_ (trim r) ((trim r).length - 1) ≠ 0) from this _ r rfl
  intro n
  induction n with
  | zero =>
    intro r h
    have : r = [] := List.length_eq_zero_iff.mp h
    subst this
    exact .inl rfl
  | succ n ih =>
    intro r h
    have hr : r ≠ [] := by
      intro z
      subst z
      cases h
    by_cases h0 : at_ r (r.length - 1) = 0
    · rw [← trim_drop hr h0]
      exact ih _ (by rw [List.length_dropLast]; omega)
    · rw [trim_done (.inr h0)]
      exact .inr h0
theorem trim_at (r : List Int) (i : Nat) : at_ (trim r) i = at_ r i := by
  suffices ∀ n, ∀ r : List Int, r.length = n → at_ (trim r) i = at_ r i from this _ r rfl
  intro n
  induction n with
  | zero =>
    intro r h
    have : r = [] := List.length_eq_zero_iff.mp h
    subst this
    rfl
  | succ n ih =>
    intro r h
    have hr : r ≠ [] := by
      intro z
      subst z
      cases h
    by_cases h0 : at_ r (r.length - 1) = 0
    · rw [← trim_drop hr h0, ih _ (by rw [List.length_dropLast]; omega)]
      by_cases hi : i < r.length - 1
      · rw [at_lt (by rw [List.length_dropLast]; exact hi), at_lt (by omega), List.getElem_dropLast]
      · rw [at_ge (by rw [List.length_dropLast]; omega)]
        by_cases he : i = r.length - 1
        · rw [he, h0]
        · rw [at_ge (by omega)]
    · rw [trim_done (.inr h0)]
theorem trim_mem {r : List Int} {x : Int} (h : x ∈ trim r) : x ∈ r := by
  unfold trim at h
  rw [List.mem_reverse] at h
  have := (List.dropWhile_sublist (fun x : Int => x == 0) (l := r.reverse)).subset h
  rwa [List.mem_reverse] at this
theorem trim_ne {r : List Int} (h : at_ r 0 ≠ 0) : trim r ≠ [] := by
  intro z
  have := trim_at r 0
  rw [z] at this
  exact h this.symm
theorem trim_trim (r : List Int) : trim (trim r) = trim r := trim_done (trim_end r)
/-- rows alike but for zeros at their ends -/
def Alk (a b : List Int) : Prop := ∀ i, at_ a i = at_ b i
theorem trim_alk {a b : List Int} (h : Alk a b) : trim a = trim b := by
  have key : ∀ {a b : List Int}, Alk a b → (trim a).length ≤ (trim b).length := by
    intro a b h
    rcases Nat.lt_or_ge (trim b).length (trim a).length with hl | hl
    · exfalso
      have ne : trim a ≠ [] := by
        intro z
        rw [z] at hl
        exact Nat.not_lt_zero _ hl
      have h1 := (trim_end a).resolve_left ne
      rw [trim_at, h, ← trim_at b] at h1
      exact h1 (at_ge (by omega))
    · exact hl
  refine at_ext (Nat.le_antisymm (key h) (key fun i => (h i).symm)) fun i _ => ?_
  rw [trim_at, trim_at]
  exact h i
/-! gcd -/
theorem common_foldl (r : List Int) (g : Nat) : r.foldl (fun g x => Nat.gcd g x.natAbs) g = Nat.gcd g (common r) := by
  induction r generalizing g with
  | nil =>
    show g = Nat.gcd g 0
    rw [Nat.gcd_zero_right]
  | cons x r ih =>
    show r.foldl _ (Nat.gcd g x.natAbs) = Nat.gcd g (r.foldl _ (Nat.gcd 0 x.natAbs))
    rw [ih, ih, Nat.gcd_zero_left, Nat.gcd_assoc]
theorem common_cons (x : Int) (r : List Int) : common (x :: r) = Nat.gcd x.natAbs (common r) := by
  show r.foldl _ (Nat.gcd 0 x.natAbs) = _
  rw [common_foldl, Nat.gcd_zero_left]
theorem common_dvd : ∀ {r : List Int} {x : Int}, x ∈ r → (common r : Int) ∣ x
  | y :: r, x, h => by
    rw [common_cons]
    rcases List.mem_cons.mp h with e | h
    · subst e
      exact Int.ofNat_dvd_left.mpr (Nat.gcd_dvd_left _ _)
    · exact Int.dvd_trans (Int.ofNat_dvd.mpr (Nat.gcd_dvd_right _ _)) (common_dvd h)
theorem common_ne {r : List Int} {x : Int} (h : x ∈ r) (h0 : x ≠ 0) : common r ≠ 0 := by
  intro z
  have := common_dvd h
  rw [z] at this
  exact h0 (Int.zero_dvd.mp this)
theorem common_take {r : List Int} {i : Nat} (h : i < r.length) : common (r.take (i + 1)) = Nat.gcd (common (r.take i)) (at_ r i).natAbs := by
  rw [List.take_succ_eq_append_getElem h]
  unfold common
  rw [List.foldl_append, at_lt h]
  rfl
/-- Python's reduced -/
def redM (r : List Int) : List Int := (trim r).map fun x => x / (common (trim r) : Int)
theorem plain_eq (r : List Int) : plain r = if at_ (redM r) 0 < 0 then (redM r).map (fun x => -x) else redM r := rfl
theorem redM_len (r : List Int) : (redM r).length = (trim r).length := by
  unfold redM
  rw [List.length_map]
theorem trim_common {r : List Int} (h : trim r ≠ []) : common (trim r) ≠ 0 := by
  have hl : (trim r).length - 1 < (trim r).length := by
    have := List.length_pos_iff.mpr h
    omega
  exact common_ne (at_mem hl) ((trim_end r).resolve_left h)
theorem div_abs (x : Int) (g : Nat) : (x / (g : Int)).natAbs ≤ x.natAbs := by
  by_cases hg : g = 0
  · subst hg
    rw [show ((0 : Nat) : Int) = 0 from rfl, Int.ediv_zero]
    exact Nat.zero_le _
  · rcases Int.le_total 0 x with h | h
    · have h1 : 0 ≤ x / (g : Int) := Int.ediv_nonneg h (by omega)
      have h2 : x / (g : Int) ≤ x := Int.ediv_le_self _ h
      omega
    · have h1 : x ≤ x / (g : Int) := by
        rw [Int.le_ediv_iff_mul_le (by omega)]
        have : x * (g : Int) ≤ x * 1 := Int.mul_le_mul_of_nonpos_left h (by omega)
        omega
      have h2 : x / (g : Int) ≤ 0 := Int.ediv_nonpos_of_nonpos_of_neg h (by omega)
      omega
theorem redM_mem {r : List Int} {y : Int} (h : y ∈ redM r) : ∃ x ∈ r, y.natAbs ≤ x.natAbs := by
  unfold redM at h
  obtain ⟨x, hx, e⟩ := List.mem_map.mp h
  subst e
  exact ⟨x, trim_mem hx, div_abs _ _⟩
theorem plain_mem {r : List Int} {y : Int} (h : y ∈ plain r) : ∃ x ∈ r, y.natAbs ≤ x.natAbs := by
  rw [plain_eq] at h
  split at h
  · obtain ⟨z, hz, e⟩ := List.mem_map.mp h
    obtain ⟨x, h1, h2⟩ := redM_mem hz
    exact ⟨x, h1, by omega⟩
  · exact redM_mem h
theorem plain_len (r : List Int) : (plain r).length = (trim r).length := by
  rw [plain_eq]
  split
  · rw [List.length_map, redM_len]
  · exact redM_len r
/-! the product, entry by entry -/
def inn (f : List Int) (i : Nat) (a : Int) (b : List Int) : Nat → List Int
  | 0 => f
  | j + 1 => (inn f i a b j).set (i + j) (at_ (inn f i a b j) (i + j) + a * at_ b j)
def outp (a b : List Int) : Nat → List Int
  | 0 => List.replicate (a.length + b.length - 1) 0
  | i + 1 => inn (outp a b i) i (at_ a i) b b.length
theorem inn_len (f : List Int) (i : Nat) (a : Int) (b : List Int) : ∀ j, (inn f i a b j).length = f.length
  | 0 => rfl
  | j + 1 => by
    unfold inn
    rw [List.length_set, inn_len f i a b j]
theorem outp_len (a b : List Int) : ∀ i, (outp a b i).length = a.length + b.length - 1
  | 0 => by
    unfold outp
    rw [List.length_replicate]
  | i + 1 => by
    unfold outp
    rw [inn_len, outp_len a b i]
theorem at_set {f : List Int} {k n : Nat} {x : Int} (hk : k < f.length) : at_ (f.set k x) n = if n = k then x else at_ f n := by
  by_cases h : n = k
  · subst h
    rw [if_pos rfl, at_lt (by rw [List.length_set]; exact hk), List.getElem_set_self]
  · rw [if_neg h]
    unfold at_
    rw [List.getD_eq_getElem?_getD, List.getD_eq_getElem?_getD, List.getElem?_set_ne (Ne.symm h)]
theorem inn_at {f : List Int} {i : Nat} {a : Int} {b : List Int} (n : Nat) : ∀ j, i + j ≤ f.length → at_ (inn f i a b j) n = at_ f n + (if i ≤ n ∧ n < i + j then a * at_ b (n - i) else 0)
  | 0, _ => by
    rw [if_neg (by omega), Int.add_zero]
    rfl
  | j + 1, h => by
    unfold inn
    rw [at_set (by rw [inn_len]; omega)]
    by_cases hn : n = i + j
    · subst hn
      rw [if_pos rfl, inn_at (i + j) j (by omega), if_neg (by omega), if_pos (by omega), Int.add_zero, show i + j - i = j by omega]
    · rw [if_neg hn, inn_at n j (by omega)]
      by_cases hc : i ≤ n ∧ n < i + j
      · rw [if_pos hc, if_pos (by omega)]
      · rw [if_neg hc, if_neg (by omega)]
theorem sum_range_succ (f : Nat → Int) (n : Nat) : ((List.range (n + 1)).map f).sum = ((List.range n).map f).sum + f n := by
  rw [List.range_succ, List.map_append, List.sum_append]
  simp
theorem sum_range_zero (f : Nat → Int) (k : Nat) : ∀ n, k ≤ n → (∀ i, k ≤ i → f i = 0) → ((List.range n).map f).sum = ((List.range k).map f).sum
  | 0, h, _ => by
    rw [show k = 0 by omega]
  | n + 1, h, hf => by
    by_cases hk : k = n + 1
    · rw [hk]
    · rw [sum_range_succ, sum_range_zero f k n (by omega) hf, hf n (by omega), Int.add_zero]
theorem outp_at {a b : List Int} (n : Nat) (hn : n < a.length + b.length - 1) : ∀ i, i ≤ a.length → at_ (outp a b i) n = ((List.range i).map fun t => if t ≤ n then at_ a t * at_ b (n - t) else 0).sum
  | 0, _ => by
    unfold outp
    show at_ (List.replicate (a.length + b.length - 1) 0) n = 0
    rw [at_lt (by rw [List.length_replicate]; exact hn), List.getElem_replicate]
  | i + 1, hi => by
    by_cases hb : b = []
    · subst hb
      unfold outp
      rw [sum_range_succ]
      show at_ (outp a [] i) n = _
      rw [outp_at n hn i (by omega)]
      have : at_ ([] : List Int) (n - i) = 0 := rfl
      rw [this]
      simp
    have hbl : 0 < b.length := List.length_pos_iff.mpr hb
    unfold outp
    rw [inn_at n b.length (by rw [outp_len]; omega), outp_at n hn i (by omega), sum_range_succ]
    congr 1
    by_cases hc : i ≤ n ∧ n < i + b.length
    · rw [if_pos hc, if_pos hc.1]
    · rw [if_neg hc]
      by_cases h1 : i ≤ n
      · rw [if_pos h1, at_ge (r := b) (by omega), Int.mul_zero]
      · rw [if_neg h1]
theorem prod_eq {a b : List Int} (ha : a ≠ []) (hb : b ≠ []) : outp a b a.length = chain a b := by
  have hla := List.length_pos_iff.mpr ha
  have hlb := List.length_pos_iff.mpr hb
  unfold chain
  rw [if_neg (by simp [ha, hb])]
  refine at_ext (by rw [outp_len, List.length_map, List.length_range]) fun n hn => ?_
  rw [outp_len] at hn
  rw [outp_at n hn _ (Nat.le_refl _), at_range hn]
  have e1 := sum_range_zero (fun t => if t ≤ n then at_ a t * at_ b (n - t) else 0) a.length (max a.length (n + 1)) (by omega) fun i h => by
    rw [at_ge (r := a) h, Int.zero_mul]
    split <;> rfl
  have e2 := sum_range_zero (fun t => if t ≤ n then at_ a t * at_ b (n - t) else 0) (n + 1) (max a.length (n + 1)) (by omega) fun i h => by
    rw [if_neg (by omega)]
  rw [← e1, e2]
  congr 1
  refine List.map_congr_left fun t ht => ?_
  rw [if_pos (by have := List.mem_range.mp ht; omega)]
/-! padding, sums -/
def padTo (r : List Int) (n : Nat) : List Int := r ++ List.replicate (n - r.length) 0
theorem padTo_len (r : List Int) (n : Nat) : (padTo r n).length = max r.length n := by
  unfold padTo
  rw [List.length_append, List.length_replicate]
  omega
theorem padTo_at (r : List Int) (n i : Nat) : at_ (padTo r n) i = at_ r i := by
  unfold padTo
  by_cases h : i < r.length
  · exact at_append_l h
  · rw [at_ge (r := r) (by omega)]
    by_cases h2 : i < (r ++ List.replicate (n - r.length) 0).length
    · rw [at_lt h2, List.getElem_append_right (by omega), List.getElem_replicate]
    · exact at_ge (by omega)
theorem plus_len (a b : List Int) : (plus a b).length = max a.length b.length := by
  unfold plus
  rw [List.length_map, List.length_range]
theorem plus_at (a b : List Int) (i : Nat) : at_ (plus a b) i = at_ a i + at_ b i := by
  by_cases h : i < max a.length b.length
  · exact at_range h
  · rw [at_ge (by rw [plus_len]; omega), at_ge (r := a) (by omega), at_ge (r := b) (by omega)]
    rfl
theorem times_at (k : Int) (a : List Int) (i : Nat) : at_ (times k a) i = k * at_ a i := at_map0 (Int.mul_zero k) a i
theorem times_len (k : Int) (a : List Int) : (times k a).length = a.length := List.length_map ..
theorem chain_len {a b : List Int} (ha : a ≠ []) (hb : b ≠ []) : (chain a b).length = a.length + b.length - 1 := by
  rw [← prod_eq ha hb, outp_len]
theorem chain_ne {a b : List Int} (ha : a ≠ []) (hb : b ≠ []) : chain a b ≠ [] := by
  have h1 := List.length_pos_iff.mpr ha
  have h2 := List.length_pos_iff.mpr hb
  intro z
  have := chain_len ha hb
  rw [z] at this
  simp only [List.length_nil] at this
  omega
end Qa

set_option linter.all false
namespace Qa
open Vbhlae

/-! ### steps -/
theorem red_len (r : List Int) : (reduced r).length = r.length - 1 := by
  show ((List.range (r.length - 1)).map _).length = _
  rw [List.length_map, List.length_range]
theorem red_at {r : List Int} {i : Nat} (h : i < r.length - 1) : at_ (reduced r) i = at_ r 0 * at_ r i - at_ r (r.length - 1) * at_ r (r.length - 1 - i) := at_range h
theorem sq_lt {a b : Int} (h : a.natAbs < b.natAbs) : 0 < b * b - a * a := by
  have h1 : a.natAbs * a.natAbs < b.natAbs * b.natAbs := Nat.mul_lt_mul'' h h
  have h2 : (a.natAbs * a.natAbs : Int) = a * a := Int.natAbs_mul_self' a
  have h3 : (b.natAbs * b.natAbs : Int) = b * b := Int.natAbs_mul_self' b
  have h4 : ((a.natAbs * a.natAbs : Nat) : Int) < ((b.natAbs * b.natAbs : Nat) : Int) := by exact_mod_cast h1
  push_cast at h4
  omega
theorem smaller_iff (r : List Int) : smaller r = true ↔ (at_ r (r.length - 1)).natAbs < (at_ r 0).natAbs := by
  unfold smaller
  exact decide_eq_true_iff
theorem red_first {r : List Int} (h1 : 1 < r.length) (h2 : smaller r = true) : 0 < at_ (reduced r) 0 := by
  rw [red_at (by omega), Nat.sub_zero]
  exact sq_lt ((smaller_iff r).mp h2)
theorem div_pos_of {x : Int} {g : Nat} (hg : g ≠ 0) (hd : (g : Int) ∣ x) (h : 0 < x) : 0 < x / (g : Int) := by
  obtain ⟨k, e⟩ := hd
  subst e
  rw [Int.mul_ediv_cancel_left _ (by omega)]
  rcases Int.lt_or_le 0 k with hk | hk
  · exact hk
  · have := Int.mul_nonpos_of_nonneg_of_nonpos (a := (g : Int)) (b := k) (by omega) hk
    omega
theorem redM_at {r : List Int} (i : Nat) : at_ (redM r) i = at_ r i / (common (trim r) : Int) := by
  unfold redM
  rw [at_map0 (f := fun x => x / (common (trim r) : Int)) (Int.zero_ediv _), trim_at]
theorem trim_dvd (r : List Int) (i : Nat) : (common (trim r) : Int) ∣ at_ r i := by
  rw [← trim_at]
  exact at_all (p := fun x => (common (trim r) : Int) ∣ x) (fun x hx => common_dvd hx) (Int.dvd_zero _) i
theorem redM_pos {r : List Int} (h : 0 < at_ r 0) : 0 < at_ (redM r) 0 := by
  rw [redM_at]
  exact div_pos_of (trim_common (trim_ne (by omega))) (trim_dvd r 0) h
theorem redM_neg {r : List Int} (h : at_ r 0 < 0) : at_ (redM r) 0 < 0 := by
  rw [redM_at]
  obtain ⟨k, e⟩ := trim_dvd r 0
  have hg := trim_common (trim_ne (r := r) (by omega))
  rw [e, Int.mul_ediv_cancel_left _ (by omega)]
  rw [e] at h
  rcases Int.lt_or_le k 0 with hk | hk
  · exact hk
  · have := Int.mul_nonneg (a := (common (trim r) : Int)) (b := k) (by omega) hk
    omega
/-- a plain row's first number is above 0 -/
theorem plain_pos {r : List Int} (h : at_ r 0 ≠ 0) : 0 < at_ (plain r) 0 := by
  rw [plain_eq]
  rcases Int.lt_or_gt_of_ne h with h | h
  · have := redM_neg h
    rw [if_pos this, at_map0 (f := fun x => -x) rfl]
    omega
  · have := redM_pos h
    rw [if_neg (by omega)]
    exact this
theorem plain_of_pos {r : List Int} (h : 0 < at_ r 0) : plain r = redM r := by
  have := redM_pos h
  rw [plain_eq, if_neg (by omega)]
theorem plain_alk {a b : List Int} (h : Alk a b) : plain a = plain b := by
  unfold plain
  rw [trim_alk h]
theorem common_map_mul (g : Nat) : ∀ r : List Int, common (r.map fun x => (g : Int) * x) = g * common r
  | [] => (Nat.mul_zero g).symm
  | x :: r => by
    rw [List.map_cons, common_cons, common_cons, common_map_mul g r, Int.natAbs_mul, Int.natAbs_natCast, Nat.gcd_mul_left]
theorem common_map_neg : ∀ r : List Int, common (r.map fun x => -x) = common r
  | [] => rfl
  | x :: r => by
    rw [List.map_cons, common_cons, common_cons, common_map_neg r, Int.natAbs_neg]
theorem common_quot {r : List Int} (h : common r ≠ 0) : common (r.map fun x => x / (common r : Int)) = 1 := by
  have e : r = (r.map fun x => x / (common r : Int)).map fun x => (common r : Int) * x := by
    rw [List.map_map]
    conv => lhs; rw [← List.map_id r]
    refine List.map_congr_left fun x hx => ?_
    exact (Int.mul_ediv_cancel' (common_dvd hx)).symm
  have e2 := congrArg common e
  rw [common_map_mul] at e2
  have h3 : common r * 1 = common r * common (r.map fun x => x / (common r : Int)) := by
    rw [Nat.mul_one]
    exact e2
  exact (Nat.eq_of_mul_eq_mul_left (by omega) h3).symm
theorem trim_map {f : Int → Int} (h0 : f 0 = 0) (hn : ∀ x, x ≠ 0 → f x ≠ 0) (r : List Int) (h : trim r = r) : trim (r.map f) = r.map f := by
  by_cases hr : r = []
  · subst hr
    rfl
  · refine trim_done (.inr ?_)
    rw [List.length_map, at_map0 h0]
    refine hn _ ?_
    rcases trim_end r with z | z
    · rw [h] at z
      exact absurd z hr
    · rwa [h] at z
theorem trim_redM (r : List Int) : trim (redM r) = redM r := by
  by_cases hr : trim r = []
  · unfold redM
    rw [hr]
    rfl
  · have hg := trim_common hr
    refine trim_done (.inr ?_)
    rw [redM_len, redM_at]
    have h1 := (trim_end r).resolve_left hr
    rw [trim_at] at h1
    obtain ⟨k, e⟩ := trim_dvd r ((trim r).length - 1)
    rw [e, Int.mul_ediv_cancel_left _ (by omega)]
    intro z
    rw [e, z, Int.mul_zero] at h1
    exact h1 rfl
theorem trim_plain (r : List Int) : trim (plain r) = plain r := by
  rw [plain_eq]
  split
  · exact trim_map (f := fun x => -x) rfl (fun x h => by omega) _ (trim_redM r)
  · exact trim_redM r
theorem common_redM {r : List Int} (h : trim r ≠ []) : common (redM r) = 1 := common_quot (trim_common h)
theorem redM_redM {r : List Int} (h : trim r ≠ []) : redM (redM r) = redM r := by
  show (trim (redM r)).map (fun x => x / (common (trim (redM r)) : Int)) = redM r
  rw [trim_redM, common_redM h]
  conv => rhs; rw [← List.map_id (redM r)]
  exact List.map_congr_left fun x _ => Int.ediv_one x
theorem common_plain {r : List Int} (h : trim r ≠ []) : common (plain r) = 1 := by
  rw [plain_eq]
  split
  · rw [common_map_neg, common_redM h]
  · exact common_redM h
theorem plain_plain {r : List Int} (h : at_ r 0 ≠ 0) : plain (plain r) = plain r := by
  rw [plain_of_pos (plain_pos h)]
  show (trim (plain r)).map (fun x => x / (common (trim (plain r)) : Int)) = plain r
  rw [trim_plain, common_plain (trim_ne h)]
  conv => rhs; rw [← List.map_id (plain r)]
  exact List.map_congr_left fun x _ => Int.ediv_one x
/-! stepsFrom -/
theorem steps_stop {f : Nat} {r : List Int} (h : ¬ (1 < r.length ∧ smaller r = true)) : stepsFrom (f + 1) r = [r] := by
  unfold stepsFrom
  by_cases h1 : r.length ≤ 1
  · rw [if_pos h1]
  · rw [if_neg h1]
    have : smaller r = false := by
      cases q : smaller r
      · rfl
      · exact absurd ⟨by omega, q⟩ h
    rw [if_pos this]
theorem steps_go {f : Nat} {r : List Int} (h1 : 1 < r.length) (h2 : smaller r = true) : stepsFrom (f + 1) r = r :: stepsFrom f (plain (reduced r)) := by
  rw [stepsFrom, if_neg (by omega), h2, if_neg (fun z => nomatch z)]
theorem plain_red_len (r : List Int) : (plain (reduced r)).length ≤ r.length - 1 := by
  rw [plain_len]
  have := trim_len_le (reduced r)
  rwa [red_len] at this
/-- enough fuel is enough -/
theorem steps_fuel : ∀ {f g : Nat} {r : List Int}, r.length < f → r.length < g → stepsFrom f r = stepsFrom g r
  | 0, _, _, h, _ => absurd h (Nat.not_lt_zero _)
  | _, 0, _, _, h => absurd h (Nat.not_lt_zero _)
  | f + 1, g + 1, r, hf, hg => by
    by_cases h : 1 < r.length ∧ smaller r = true
    · rw [steps_go h.1 h.2, steps_go h.1 h.2]
      have := plain_red_len r
      rw [steps_fuel (f := f) (g := g) (by omega) (by omega)]
    · rw [steps_stop h, steps_stop h]
theorem steps_ne : ∀ {f : Nat} {r : List Int}, stepsFrom (f + 1) r ≠ []
  | f, r => by
    by_cases h : 1 < r.length ∧ smaller r = true
    · rw [steps_go h.1 h.2]
      exact fun z => nomatch z
    · rw [steps_stop h]
      exact fun z => nomatch z
/-! bits -/
def bl (n : Nat) (r : List Int) : Prop := ∀ x ∈ r, x.natAbs < 2 ^ n
theorem bl_at {n : Nat} {r : List Int} (h : bl n r) (i : Nat) : (at_ r i).natAbs < 2 ^ n := at_all h (Nat.two_pow_pos n) i
theorem bl_mono {n m : Nat} {r : List Int} (h : bl n r) (hm : n ≤ m) : bl m r := fun x hx => Nat.lt_of_lt_of_le (h x hx) (Nat.pow_le_pow_right (by decide) hm)
theorem mul_bit {a b : Int} {n m : Nat} (ha : a.natAbs < 2 ^ n) (hb : b.natAbs < 2 ^ m) : (a * b).natAbs < 2 ^ (n + m) := by
  rw [Int.natAbs_mul, Nat.pow_add]
  exact Nat.mul_lt_mul'' ha hb
theorem add_bit {a b : Int} {n : Nat} (ha : a.natAbs < 2 ^ n) (hb : b.natAbs < 2 ^ n) : (a + b).natAbs < 2 ^ (n + 1) := by
  have := Int.natAbs_add_le a b
  rw [Nat.pow_succ]
  omega
theorem sub_bit {a b : Int} {n : Nat} (ha : a.natAbs < 2 ^ n) (hb : b.natAbs < 2 ^ n) : (a - b).natAbs < 2 ^ (n + 1) := by
  rw [Int.sub_eq_add_neg]
  exact add_bit ha (by rwa [Int.natAbs_neg])
theorem red_bl {n : Nat} {r : List Int} (h : bl n r) : bl (2 * n + 1) (reduced r) := by
  intro x hx
  obtain ⟨i, hi, e⟩ := List.mem_map.mp hx
  subst e
  have e : n + n = 2 * n := by omega
  have h1 := mul_bit (bl_at h 0) (bl_at h i)
  have h2 := mul_bit (bl_at h (r.length - 1)) (bl_at h (r.length - 1 - i))
  rw [e] at h1 h2
  exact sub_bit h1 h2
theorem plain_bl {n : Nat} {r : List Int} (h : bl n r) : bl n (plain r) := by
  intro y hy
  obtain ⟨x, hx, hxy⟩ := plain_mem hy
  exact Nat.lt_of_le_of_lt hxy (h x hx)
/-! how great the steps grow -/
def Bd (c : Nat) (r : List Int) : Prop := ∃ n, bl n r ∧ (n + 1) * 2 ^ r.length ≤ c
theorem Bd.bits {c : Nat} {r : List Int} (h : Bd c r) : ∃ n, bl n r ∧ n ≤ c := by
  obtain ⟨n, h1, h2⟩ := h
  have : 0 < 2 ^ r.length := Nat.two_pow_pos _
  have h3 : (n + 1) * 1 ≤ (n + 1) * 2 ^ r.length := Nat.mul_le_mul_left _ this
  exact ⟨n, h1, by omega⟩
theorem Bd.plain {c : Nat} {r : List Int} (h : Bd c r) : Bd c (plain r) := by
  obtain ⟨n, h1, h2⟩ := h
  refine ⟨n, plain_bl h1, Nat.le_trans (Nat.mul_le_mul_left _ (Nat.pow_le_pow_right (by decide) ?_)) h2⟩
  rw [plain_len]
  exact trim_len_le r
theorem Bd.red {c : Nat} {r : List Int} (h : Bd c r) (hl : 1 ≤ r.length) : Bd c (reduced r) := by
  obtain ⟨n, h1, h2⟩ := h
  refine ⟨2 * n + 1, red_bl h1, ?_⟩
  rw [red_len]
  have e : (2 * n + 1 + 1) * 2 ^ (r.length - 1) = (n + 1) * 2 ^ r.length := by
    obtain ⟨k, hk⟩ : ∃ k, r.length = k + 1 := ⟨r.length - 1, by omega⟩
    rw [hk, Nat.add_sub_cancel, Nat.pow_succ, show 2 * n + 1 + 1 = (n + 1) * 2 by omega, Nat.mul_assoc, Nat.mul_comm 2]
  rw [e]
  exact h2
theorem Bd.mono {c c' : Nat} {r : List Int} (h : Bd c r) (hc : c ≤ c') : Bd c' r := by
  obtain ⟨n, h1, h2⟩ := h
  exact ⟨n, h1, Nat.le_trans h2 hc⟩
/-! rows alike, by their plain forms -/
def likeM (a b : List Int) : Bool := !decide (trim a = []) && (!decide (trim b = []) && decide (redM a = redM b))
theorem at_inj {a b : List Int} (h : a = b) (i : Nat) : at_ a i = at_ b i := by rw [h]
theorem like_iff (a b : List Int) : likeM a b = true ↔ trim a ≠ [] ∧ trim b ≠ [] ∧ redM a = redM b := by
  unfold likeM
  simp
theorem along_iff (a b : List Int) : alongside a b = true ↔ (trim a).length = (trim b).length ∧ 0 < at_ a 0 * at_ b 0 ∧ ∀ i, i < (trim a).length → at_ a i * at_ b 0 = at_ b i * at_ a 0 := by
  show ((trim a).length == (trim b).length && (decide (0 < at_ (trim a) 0 * at_ (trim b) 0) && (List.range (trim a).length).all fun i => at_ (trim a) i * at_ (trim b) 0 == at_ (trim b) i * at_ (trim a) 0)) = true ↔ _
  simp only [trim_at, Bool.and_eq_true, beq_iff_eq, decide_eq_true_eq, List.all_eq_true, List.mem_range]
theorem like_along {a b : List Int} (hb : at_ b 0 ≠ 0) : alongside a b = likeM a b := by
  rw [Bool.eq_iff_iff, along_iff, like_iff]
  constructor
  · rintro ⟨h1, h2, h3⟩
    have ha : at_ a 0 ≠ 0 := by
      intro z
      rw [z, Int.zero_mul] at h2
      exact absurd h2 (by decide)
    have na := trim_ne ha
    have nb := trim_ne hb
    refine ⟨na, nb, ?_⟩
    have ga := trim_common na
    have gb := trim_common nb
    -- the two divisors stand as the first numbers do
    have cross : (common (trim a) : Int) * at_ b 0 = (common (trim b) : Int) * at_ a 0 := by
      have e : (trim a).map (fun x => ((at_ b 0).natAbs : Int) * x) = (trim b).map (fun x => ((at_ a 0).natAbs : Int) * x) := by
        refine at_ext (by rw [List.length_map, List.length_map, h1]) fun i hi => ?_
        rw [List.length_map] at hi
        rw [at_map0 (f := fun x => ((at_ b 0).natAbs : Int) * x) (Int.mul_zero _), at_map0 (f := fun x => ((at_ a 0).natAbs : Int) * x) (Int.mul_zero _), trim_at, trim_at]
        have h := h3 i hi
        rcases Int.lt_or_gt_of_ne ha with pa | pa
        · have pb : at_ b 0 < 0 := by
            rcases Int.lt_or_gt_of_ne hb with q | q
            · exact q
            · have := Int.mul_neg_of_neg_of_pos pa q
              omega
          have e1 : ((at_ b 0).natAbs : Int) = - at_ b 0 := by omega
          have e2 : ((at_ a 0).natAbs : Int) = - at_ a 0 := by omega
          rw [e1, e2, Int.neg_mul, Int.neg_mul, Int.mul_comm (at_ b 0), Int.mul_comm (at_ a 0), h]
        · have pb : 0 < at_ b 0 := by
            rcases Int.lt_or_gt_of_ne hb with q | q
            · have := Int.mul_neg_of_pos_of_neg pa q
              omega
            · exact q
          have e1 : ((at_ b 0).natAbs : Int) = at_ b 0 := by omega
          have e2 : ((at_ a 0).natAbs : Int) = at_ a 0 := by omega
          rw [e1, e2, Int.mul_comm (at_ b 0), Int.mul_comm (at_ a 0), h]
      have e2 := congrArg common e
      rw [common_map_mul, common_map_mul] at e2
      have e3 : ((at_ b 0).natAbs : Int) * (common (trim a) : Int) = ((at_ a 0).natAbs : Int) * (common (trim b) : Int) := by exact_mod_cast e2
      rcases Int.lt_or_gt_of_ne ha with pa | pa
      · have pb : at_ b 0 < 0 := by
          rcases Int.lt_or_gt_of_ne hb with q | q
          · exact q
          · have := Int.mul_neg_of_neg_of_pos pa q
            omega
        have e1 : ((at_ b 0).natAbs : Int) = - at_ b 0 := by omega
        have e2 : ((at_ a 0).natAbs : Int) = - at_ a 0 := by omega
        rw [e1, e2, Int.neg_mul, Int.neg_mul] at e3
        rw [Int.mul_comm, Int.mul_comm (common (trim b) : Int)]
        omega
      · have pb : 0 < at_ b 0 := by
          rcases Int.lt_or_gt_of_ne hb with q | q
          · have := Int.mul_neg_of_pos_of_neg pa q
            omega
          · exact q
        have e1 : ((at_ b 0).natAbs : Int) = at_ b 0 := by omega
        have e2 : ((at_ a 0).natAbs : Int) = at_ a 0 := by omega
        rw [e1, e2] at e3
        rw [Int.mul_comm, Int.mul_comm (common (trim b) : Int)]
        exact e3
    refine at_ext (by rw [redM_len, redM_len, h1]) fun i hi => ?_
    rw [redM_len] at hi
    rw [redM_at, redM_at]
    obtain ⟨x, ex⟩ := trim_dvd a i
    obtain ⟨y, ey⟩ := trim_dvd b i
    have h := h3 i hi
    rw [ex, ey] at h ⊢
    rw [Int.mul_ediv_cancel_left _ (by omega), Int.mul_ediv_cancel_left _ (by omega)]
    have nz : (common (trim a) : Int) * at_ b 0 ≠ 0 := Int.mul_ne_zero (by omega) hb
    refine Int.eq_of_mul_eq_mul_left nz ?_
    have t1 : (common (trim a) : Int) * x * at_ b 0 = (common (trim a) : Int) * at_ b 0 * x := by
      rw [Int.mul_right_comm]
    have t2 : (common (trim b) : Int) * y * at_ a 0 = (common (trim b) : Int) * at_ a 0 * y := by
      rw [Int.mul_right_comm]
    rw [← t1, h, t2, cross]
  · rintro ⟨na, nb, e⟩
    have ga := trim_common na
    have gb := trim_common nb
    have fa : ∀ i, at_ a i = (common (trim a) : Int) * at_ (redM a) i := fun i => by
      rw [redM_at]
      exact (Int.mul_ediv_cancel' (trim_dvd a i)).symm
    have fb : ∀ i, at_ b i = (common (trim b) : Int) * at_ (redM a) i := fun i => by
      rw [e, redM_at]
      exact (Int.mul_ediv_cancel' (trim_dvd b i)).symm
    refine ⟨?_, ?_, fun i _ => ?_⟩
    · rw [← redM_len a, ← redM_len b, e]
    · rw [fa, fb]
      rw [fb] at hb
      have hc : at_ (redM a) 0 ≠ 0 := fun z => hb (by rw [z, Int.mul_zero])
      have t : (common (trim a) : Int) * at_ (redM a) 0 * ((common (trim b) : Int) * at_ (redM a) 0) = ((common (trim a) : Int) * (common (trim b) : Int)) * (at_ (redM a) 0 * at_ (redM a) 0) := by
        simp only [Int.mul_assoc, Int.mul_left_comm]
      rw [t]
      refine Int.mul_pos (Int.mul_pos (by omega) (by omega)) ?_
      rcases Int.lt_or_gt_of_ne hc with q | q
      · exact Int.mul_pos_of_neg_of_neg q q
      · exact Int.mul_pos q q
    · rw [fa i, fb 0, fb i, fa 0]
      simp only [Int.mul_assoc, Int.mul_left_comm, Int.mul_comm]
theorem like_plain {b x : List Int} (h : 0 < at_ x 0) : likeM b (plain x) = likeM b x := by
  have nx := trim_ne (r := x) (by omega)
  rw [Bool.eq_iff_iff, like_iff, like_iff, plain_of_pos h, trim_redM, redM_redM nx]
  have : redM x ≠ [] := by
    intro z
    have := redM_len x
    rw [z] at this
    exact nx (List.length_eq_zero_iff.mp this.symm)
  exact ⟨fun ⟨p, _, r⟩ => ⟨p, nx, r⟩, fun ⟨p, _, r⟩ => ⟨p, this, r⟩⟩
/-! proofs -/
def leadsM (a b : List Int) : Bool := (decide (1 < (trim a).length) && smaller (trim a)) && likeM b (plain (reduced (trim a)))
def chainM : List (List Int) → Bool
  | a :: b :: l => leadsM a b && chainM (b :: l)
  | _ => true
def lastM : List (List Int) → Bool
  | [] => false
  | [a] => decide ((trim a).length = 1)
  | _ :: b :: l => lastM (b :: l)
def proofM (r : List Int) : List (List Int) → Bool
  | [] => false
  | a :: l => likeM a r && (chainM (a :: l) && lastM (a :: l))
theorem proof_eq : ∀ (l : List (List Int)) (r : List Int), at_ r 0 ≠ 0 → isProof r l = proofM r l
  | [], _, _ => rfl
  | a :: l, r, hr => by
    rw [isProof, proofM, like_along hr]
    cases hl : likeM a r with
    | false => rfl
    | true =>
      rw [Bool.true_and, Bool.true_and]
      obtain ⟨na, _, _⟩ := (like_iff a r).mp hl
      have la := List.length_pos_iff.mpr na
      cases l with
      | nil =>
        show (if ((trim a).length == 1) = true then true else smaller (trim a) && isProof (reduced (trim a)) []) = (true && decide ((trim a).length = 1))
        by_cases h1 : (trim a).length = 1
        · rw [if_pos (by simpa using h1), decide_eq_true h1]
          rfl
        · rw [if_neg (by simpa using h1), decide_eq_false h1]
          show (smaller (trim a) && false) = _
          rw [Bool.and_false]
          rfl
      | cons b l =>
        show (if ((trim a).length == 1) = true then false else smaller (trim a) && isProof (reduced (trim a)) (b :: l)) = ((leadsM a b && chainM (b :: l)) && lastM (b :: l))
        by_cases h1 : (trim a).length = 1
        · rw [if_pos (by simpa using h1)]
          unfold leadsM
          rw [decide_eq_false (by omega)]
          rfl
        · rw [if_neg (by simpa using h1)]
          unfold leadsM
          rw [decide_eq_true (show 1 < (trim a).length by omega), Bool.true_and]
          cases hs : smaller (trim a) with
          | false => rfl
          | true =>
            have hp := red_first (by omega) hs
            rw [Bool.true_and, Bool.true_and, proof_eq (b :: l) _ (by omega), like_plain hp]
            show (likeM b (reduced (trim a)) && (chainM (b :: l) && lastM (b :: l))) = _
            rw [Bool.and_assoc]
end Qa

set_option linter.all false
namespace Qa
open Vbhlae

/-! ### sums of rationals -/
def qat (l : List Rat) (i : Nat) : Rat := l.getD i 0
def sr (f : Nat → Rat) : Nat → Rat
  | 0 => 0
  | n + 1 => sr f n + f n
theorem sr_ext {f g : Nat → Rat} : ∀ {n : Nat}, (∀ i, i < n → f i = g i) → sr f n = sr g n
  | 0, _ => rfl
  | n + 1, h => by
    unfold sr
    rw [sr_ext (n := n) fun i hi => h i (by omega), h n (by omega)]
theorem sr_more {f : Nat → Rat} {k : Nat} : ∀ {n : Nat}, k ≤ n → (∀ i, k ≤ i → i < n → f i = 0) → sr f n = sr f k
  | 0, h, _ => by
    rw [show k = 0 by omega]
  | n + 1, h, hf => by
    by_cases hk : k = n + 1
    · rw [hk]
    · show sr f n + f n = sr f k
      rw [sr_more (n := n) (by omega) fun i h1 h2 => hf i h1 (by omega), hf n (by omega) (by omega), Rat.add_zero]
theorem qat_ge {l : List Rat} {i : Nat} (h : l.length ≤ i) : qat l i = 0 := by
  unfold qat
  rw [List.getD_eq_getElem?_getD, List.getElem?_eq_none h]
  rfl
theorem qat_lt {l : List Rat} {i : Nat} (h : i < l.length) : qat l i = l[i] := by
  unfold qat
  rw [List.getD_eq_getElem?_getD, List.getElem?_eq_getElem h]
  rfl
theorem qat_append_l {l m : List Rat} {i : Nat} (h : i < l.length) : qat (l ++ m) i = qat l i := by
  rw [qat_lt h, qat_lt (by rw [List.length_append]; omega), List.getElem_append_left h]
theorem qat_rev {l : List Rat} {i : Nat} (h : i < l.length) : qat l.reverse i = qat l (l.length - 1 - i) := by
  rw [qat_lt (by rw [List.length_reverse]; exact h), qat_lt (by omega), List.getElem_reverse]
theorem sum_sr {l : List Q} : ∀ {n : Nat} {f : Nat → Rat}, Q.sum ((List.range n).map fun i => oq (f i)) = oq (sr f n) := by
  intro n f
  unfold Q.sum
  induction n with
  | zero => rfl
  | succ n ih =>
    rw [List.range_succ, List.map_append, List.foldl_append, ih]
    show Q.add (oq (sr f n)) (oq (f n)) = oq (sr f n + f n)
    exact oq_add _ _
theorem getD_oq (l : List Rat) (i : Nat) : (l.map oq).getD i ⟨0, 1⟩ = oq (qat l i) := by
  unfold qat
  rw [List.getD_eq_getElem?_getD, List.getD_eq_getElem?_getD, List.getElem?_map]
  cases l[i]? <;> rfl

/-! ### what a filter answers -/
def nextR (up low : List Int) (ins outs : List Rat) : Rat :=
  (sr (fun i => (at_ up i : Rat) * qat ins i) up.length - sr (fun i => (at_ low (i + 1) : Rat) * qat outs i) (low.length - 1)) / (at_ low 0 : Rat)
def playR (up low : List Int) : List Rat → List Rat → List Rat → List Rat
  | _, _, [] => []
  | ins, outs, x :: r => nextR up low (x :: ins) outs :: playR up low (x :: ins) (nextR up low (x :: ins) outs :: outs) r
theorem next_oq (up low : List Int) (ins outs : List Rat) : nextOut up low (ins.map oq) (outs.map oq) = oq (nextR up low ins outs) := by
  show Q.div (Q.sub (Q.sum ((List.range up.length).map fun i => (Q.whole (at_ up i)).mul ((ins.map oq).getD i ⟨0, 1⟩))) (Q.sum ((List.range (low.length - 1)).map fun i => (Q.whole (at_ low (i + 1))).mul ((outs.map oq).getD i ⟨0, 1⟩)))) (Q.whole (at_ low 0)) = _
  simp only [getD_oq, oq_whole, oq_mul]
  rw [sum_sr (l := []), sum_sr (l := []), oq_sub, oq_div]
  rfl
theorem play_oq (up low : List Int) : ∀ (l ins outs : List Rat), playFrom up low (ins.map oq) (outs.map oq) (l.map oq) = (playR up low ins outs l).map oq
  | [], _, _ => rfl
  | x :: r, ins, outs => by
    show nextOut up low ((x :: ins).map oq) (outs.map oq) :: playFrom up low ((x :: ins).map oq) (nextOut up low ((x :: ins).map oq) (outs.map oq) :: outs.map oq) (r.map oq) = _
    rw [next_oq]
    show oq _ :: playFrom up low ((x :: ins).map oq) ((nextR up low (x :: ins) outs :: outs).map oq) (r.map oq) = _
    rw [play_oq up low r]
    rfl
theorem next_alk {up up' low low' : List Int} (h : Alk up up') (h2 : Alk low low') (ins outs : List Rat) : nextR up low ins outs = nextR up' low' ins outs := by
  have key : ∀ (a b : List Int) (f : Nat → Rat) (s : Nat), Alk a b → sr (fun i => (at_ a (i + s) : Rat) * f i) (a.length - s) = sr (fun i => (at_ b (i + s) : Rat) * f i) (b.length - s) := by
    intro a b f s hab
    have z : ∀ {c : List Int} {i : Nat}, c.length - s ≤ i → ((at_ c (i + s) : Int) : Rat) * f i = 0 := by
      intro c i hi
      rw [at_ge (by omega)]
      show (0 : Rat) * _ = 0
      exact Rat.zero_mul _
    have e1 := sr_more (f := fun i => (at_ a (i + s) : Rat) * f i) (k := a.length - s) (n := max (a.length - s) (b.length - s)) (by omega) fun i h1 _ => z h1
    have e2 := sr_more (f := fun i => (at_ b (i + s) : Rat) * f i) (k := b.length - s) (n := max (a.length - s) (b.length - s)) (by omega) fun i h1 _ => z h1
    rw [← e1, ← e2]
    refine sr_ext fun i _ => ?_
    rw [hab]
  have k0 := key up up' (qat ins) 0 h
  have k1 := key low low' (qat outs) 1 h2
  simp only [Nat.add_zero, Nat.sub_zero] at k0
  unfold nextR
  rw [k0, k1, h2 0]
theorem play_alk {up up' low low' : List Int} (h : Alk up up') (h2 : Alk low low') : ∀ (l ins outs : List Rat), playR up low ins outs l = playR up' low' ins outs l
  | [], _, _ => rfl
  | x :: r, ins, outs => by
    unfold playR
    rw [next_alk h h2, play_alk h h2 r]

/-! ### the program's own sums -/
def wS (row : List Int) (heard : List Rat) (t first : Nat) (n : Nat) : Rat := sr (fun i => (at_ row (first + i) : Rat) * qat heard (t - (first + i))) n
def wN (row : List Int) (t first : Nat) : Nat := min row.length (t + 1) - first
def stepA (up low : List Int) (ins : List Rat) (t : Nat) (found : List Rat) : Rat := (wS up ins t 0 (wN up t 0) - wS low found t 1 (wN low t 1)) / (at_ low 0 : Rat)
def ansM (up low : List Int) (ins : List Rat) : Nat → List Rat
  | 0 => []
  | t + 1 => ansM up low ins t ++ [stepA up low ins t (ansM up low ins t)]
theorem ansM_len (up low : List Int) (ins : List Rat) : ∀ t, (ansM up low ins t).length = t
  | 0 => rfl
  | t + 1 => by
    unfold ansM
    rw [List.length_append, ansM_len up low ins t]
    rfl
theorem stepA_next {up low : List Int} {ins found : List Rat} {t : Nat} (ht : t < ins.length) (hf : found.length = t) : stepA up low ins t found = nextR up low (ins.take (t + 1)).reverse found.reverse := by
  have l1 : (ins.take (t + 1)).length = t + 1 := by
    rw [List.length_take]
    omega
  unfold stepA nextR wS
  congr 2
  · rw [sr_more (f := fun i => (at_ up i : Rat) * qat (ins.take (t + 1)).reverse i) (k := wN up t 0) (n := up.length) (by unfold wN; omega) fun i h1 h2 => by
      unfold wN at h1
      rw [qat_ge (by rw [List.length_reverse, l1]; omega), Rat.mul_zero]]
    · refine sr_ext fun i hi => ?_
      unfold wN at hi
      rw [qat_rev (by rw [l1]; omega), l1, Nat.zero_add]
      congr 1
      have e : qat (ins.take (t + 1)) (t + 1 - 1 - i) = qat ins (t - i) := by
        rw [qat_lt (by rw [l1]; omega), List.getElem_take, qat_lt (by omega)]
        congr 1
      exact e.symm
  · rw [sr_more (f := fun i => (at_ low (i + 1) : Rat) * qat found.reverse i) (k := wN low t 1) (n := low.length - 1) (by unfold wN; omega) fun i h1 h2 => by
      unfold wN at h1
      rw [qat_ge (by rw [List.length_reverse, hf]; omega), Rat.mul_zero]]
    · refine sr_ext fun i hi => ?_
      unfold wN at hi
      rw [qat_rev (by rw [hf]; omega), hf, Nat.add_comm 1 i]
      congr 2
      omega
theorem play_ans {up low : List Int} : ∀ (l2 l1 : List Rat), playR up low l1.reverse (ansM up low (l1 ++ l2) l1.length).reverse l2 = (ansM up low (l1 ++ l2) (l1.length + l2.length)).drop l1.length
  | [], l1 => by
    show [] = _
    rw [List.drop_eq_nil_of_le]
    rw [ansM_len]
    simp
  | x :: r, l1 => by
    have e1 : l1 ++ x :: r = (l1 ++ [x]) ++ r := by rw [List.append_assoc]; rfl
    have hx : x :: l1.reverse = ((l1 ++ x :: r).take (l1.length + 1)).reverse := by
      rw [e1, List.take_left' (by simp), List.reverse_append]
      rfl
    have st := stepA_next (up := up) (low := low) (ins := l1 ++ x :: r) (found := ansM up low (l1 ++ x :: r) l1.length) (t := l1.length) (by simp) (ansM_len ..)
    have e2 : nextR up low (x :: l1.reverse) (ansM up low (l1 ++ x :: r) l1.length).reverse :: (ansM up low (l1 ++ x :: r) l1.length).reverse = (ansM up low (l1 ++ x :: r) (l1.length + 1)).reverse := by
      show _ = (ansM up low (l1 ++ x :: r) l1.length ++ [_]).reverse
      rw [List.reverse_append, st, hx]
      rfl
    unfold playR
    rw [e2]
    have ih := play_ans (up := up) (low := low) r (l1 ++ [x])
    rw [List.reverse_append, ← e1, List.length_append] at ih
    have ih : playR up low (x :: l1.reverse) (ansM up low (l1 ++ x :: r) (l1.length + 1)).reverse r = (ansM up low (l1 ++ x :: r) (l1.length + 1 + r.length)).drop (l1.length + 1) := ih
    rw [ih]
    have ll : l1.length + (x :: r).length = l1.length + 1 + r.length := by
      rw [List.length_cons]
      omega
    rw [ll, List.drop_eq_getElem_cons (i := l1.length) (by rw [ansM_len]; omega)]
    congr 1
    -- the item at that place
    have pre : ∀ (k n : Nat) (h : n < k), qat (ansM up low (l1 ++ x :: r) k) n = stepA up low (l1 ++ x :: r) n (ansM up low (l1 ++ x :: r) n) := by
      intro k
      induction k with
      | zero =>
        intro n h
        omega
      | succ k ih =>
        intro n h
        show qat (ansM up low (l1 ++ x :: r) k ++ [_]) n = _
        by_cases hn : n < k
        · rw [qat_append_l (by rw [ansM_len]; exact hn), ih n hn]
        · have : n = k := by omega
          subst this
          rw [qat_lt (by rw [List.length_append, ansM_len]; simp), List.getElem_append_right (by rw [ansM_len]; exact Nat.le_refl _)]
          simp
    have := pre (l1.length + 1 + r.length) l1.length (by omega)
    rw [qat_lt (by rw [ansM_len]; omega)] at this
    rw [this, st, hx]
theorem ans_play (up low : List Int) (l : List Rat) : ansM up low l l.length = playR up low [] [] l := by
  have := play_ans (up := up) (low := low) l []
  simp only [List.reverse_nil, List.nil_append, List.length_nil, Nat.zero_add, List.drop_zero] at this
  rw [← this]
  rfl
end Qa

set_option linter.all false
namespace Qa
open Vbhlae

/-! ### let go -/
theorem sr_split {f : Nat → Rat} {k : Nat} : ∀ {n : Nat}, k ≤ n → sr f n = sr f k + sr (fun i => f (k + i)) (n - k)
  | 0, h => by
    rw [show k = 0 by omega]
    show (0 : Rat) = 0 + 0
    rw [Rat.add_zero]
  | n + 1, h => by
    by_cases hk : k = n + 1
    · subst hk
      rw [Nat.sub_self]
      show sr f (n + 1) = sr f (n + 1) + 0
      rw [Rat.add_zero]
    · have e : n + 1 - k = (n - k) + 1 := by omega
      rw [e]
      show sr f n + f n = sr f k + (sr (fun i => f (k + i)) (n - k) + f (k + (n - k)))
      rw [sr_split (k := k) (n := n) (by omega), show k + (n - k) = n by omega, Rat.add_assoc]
theorem sr_cast (f : Nat → Int) : ∀ n, ((((List.range n).map f).sum : Int) : Rat) = sr (fun i => (f i : Rat)) n
  | 0 => rfl
  | n + 1 => by
    rw [sum_range_succ]
    push_cast
    rw [sr_cast f n]
    rfl
def clickL (n : Nat) : List Rat := ((1 : Rat) :: List.replicate n 0).take n
theorem clickL_len (n : Nat) : (clickL n).length = n := by
  unfold clickL
  rw [List.length_take, List.length_cons, List.length_replicate]
  omega
theorem clickL_at {n i : Nat} (h : i < n) : qat (clickL n) i = if i = 0 then 1 else 0 := by
  rw [qat_lt (by rw [clickL_len]; exact h)]
  unfold clickL
  rw [List.getElem_take]
  cases i with
  | zero => rfl
  | succ i =>
    rw [List.getElem_cons_succ, List.getElem_replicate]
    rfl
def goU (low told : List Int) : List Int := upperOf low told ++ [0]
theorem goU_at (low told : List Int) (t : Nat) : ((at_ (goU low told) t : Int) : Rat) = -sr (fun s => (at_ low (t + 1 + s) : Rat) * (at_ told s : Rat)) (low.length - 1 - t) := by
  have hl : (upperOf low told).length = low.length - 1 := by
    unfold upperOf
    rw [List.length_map, List.length_range]
  by_cases h : t < low.length - 1
  · unfold goU
    rw [at_append_l (by rw [hl]; exact h)]
    unfold upperOf
    rw [at_range h]
    push_cast
    rw [sr_cast]
    congr 1
    refine sr_ext fun i _ => ?_
    push_cast
    rw [show t + i + 1 = t + 1 + i by omega]
  · rw [show low.length - 1 - t = 0 by omega]
    show _ = -(0 : Rat)
    have : at_ (goU low told) t = 0 := by
      by_cases he : t = low.length - 1
      · unfold goU
        rw [at_lt (by rw [List.length_append, hl]; simp; omega), List.getElem_append_right (by rw [hl]; omega)]
        simp [hl, he]
      · exact at_ge (by unfold goU; rw [List.length_append, hl]; simp; omega)
    rw [this]
    rfl
theorem wS_click {up : List Int} {n t : Nat} (h : t < n) : wS up (clickL n) t 0 (wN up t 0) = (at_ up t : Rat) := by
  unfold wS wN
  by_cases ht : t < up.length
  · rw [show min up.length (t + 1) - 0 = t + 1 by omega]
    show sr _ t + _ = _
    rw [sr_more (k := 0) (by omega) fun i _ hi => by
      rw [clickL_at (by omega), if_neg (by omega), Rat.mul_zero]]
    show (0 : Rat) + (at_ up (0 + t) : Rat) * qat (clickL n) (t - (0 + t)) = _
    rw [Rat.zero_add, clickL_at (by omega), if_pos (by omega), Rat.mul_one, Nat.zero_add]
  · rw [at_ge (by omega), sr_more (k := 0) (by omega) fun i _ hi => by
      rw [clickL_at (by omega), if_neg (by omega), Rat.mul_zero]]
    rfl
theorem wS_low {low : List Int} {found st : List Rat} {t : Nat} (hf : found.length = t) :
    sr (fun i => (at_ low (i + 1) : Rat) * qat (found.reverse ++ st) i) (low.length - 1) = wS low found t 1 (wN low t 1) + sr (fun s => (at_ low (t + 1 + s) : Rat) * qat st s) (low.length - 1 - t) := by
  have lr : found.reverse.length = t := by rw [List.length_reverse, hf]
  have left : ∀ k, k ≤ t → sr (fun i => (at_ low (i + 1) : Rat) * qat (found.reverse ++ st) i) k = sr (fun i => (at_ low (1 + i) : Rat) * qat found (t - (1 + i))) k := fun k hk => sr_ext fun i hi => by
    rw [qat_append_l (by rw [lr]; omega), qat_rev (by rw [hf]; omega), hf, Nat.add_comm 1 i]
    congr 2
    omega
  unfold wS wN
  by_cases h : t ≤ low.length - 1
  · rw [sr_split h, left t (Nat.le_refl _), show min low.length (t + 1) - 1 = t by omega]
    congr 1
    refine sr_ext fun i _ => ?_
    rw [show t + i + 1 = t + 1 + i by omega]
    congr 1
    unfold qat
    rw [List.getD_eq_getElem?_getD, List.getD_eq_getElem?_getD, List.getElem?_append_right (by rw [lr]; omega), lr]
    congr 2
    omega
  · rw [left _ (by omega), show min low.length (t + 1) - 1 = low.length - 1 by omega, show low.length - 1 - t = 0 by omega]
    show _ = _ + (0 : Rat)
    rw [Rat.add_zero]
theorem freed_step {low told : List Int} {found ins : List Rat} {n t : Nat} (ht : t < n) (hf : found.length = t) :
    nextR [] low ins (found.reverse ++ told.map fun (x : Int) => (x : Rat)) = stepA (goU low told) low (clickL n) t found := by
  unfold nextR stepA
  rw [wS_click ht, goU_at, wS_low hf]
  congr 1
  have e : sr (fun s => (at_ low (t + 1 + s) : Rat) * qat (told.map fun (x : Int) => (x : Rat)) s) (low.length - 1 - t) = sr (fun s => (at_ low (t + 1 + s) : Rat) * (at_ told s : Rat)) (low.length - 1 - t) := sr_ext fun i _ => by
    congr 1
    unfold qat at_
    rw [List.getD_eq_getElem?_getD, List.getD_eq_getElem?_getD, List.getElem?_map]
    cases told[i]? <;> rfl
  rw [e]
  show (0 : Rat) - _ = _
  generalize sr (fun s => (at_ low (t + 1 + s) : Rat) * (at_ told s : Rat)) (low.length - 1 - t) = a
  generalize wS low found t 1 (wN low t 1) = b
  grind
theorem ansM_at (up low : List Int) (ins : List Rat) : ∀ (k n : Nat) (h : n < k), qat (ansM up low ins k) n = stepA up low ins n (ansM up low ins n)
  | 0, n, h => absurd h (Nat.not_lt_zero _)
  | k + 1, n, h => by
    show qat (ansM up low ins k ++ [_]) n = _
    by_cases hn : n < k
    · rw [qat_append_l (by rw [ansM_len]; exact hn), ansM_at up low ins k n hn]
    · have : n = k := by omega
      subst this
      rw [qat_lt (by rw [List.length_append, ansM_len]; simp), List.getElem_append_right (by rw [ansM_len]; exact Nat.le_refl _)]
      simp
theorem freed_go {low told : List Int} {n : Nat} : ∀ (m t : Nat) (ins : List Rat), t + m = n → playR [] low ins ((ansM (goU low told) low (clickL n) t).reverse ++ told.map fun (x : Int) => (x : Rat)) (List.replicate m 0) = (ansM (goU low told) low (clickL n) n).drop t
  | 0, t, ins, h => by
    rw [List.drop_eq_nil_of_le (by rw [ansM_len]; omega)]
    rfl
  | m + 1, t, ins, h => by
    rw [List.replicate_succ]
    unfold playR
    have st := freed_step (low := low) (told := told) (ins := 0 :: ins) (n := n) (t := t) (found := ansM (goU low told) low (clickL n) t) (by omega) (ansM_len ..)
    rw [st, List.drop_eq_getElem_cons (by rw [ansM_len]; omega)]
    have hq := ansM_at (goU low told) low (clickL n) n t (by omega)
    rw [qat_lt (by rw [ansM_len]; omega)] at hq
    rw [hq]
    congr 1
    have e : stepA (goU low told) low (clickL n) t (ansM (goU low told) low (clickL n) t) :: ((ansM (goU low told) low (clickL n) t).reverse ++ told.map fun (x : Int) => (x : Rat)) = (ansM (goU low told) low (clickL n) (t + 1)).reverse ++ told.map fun (x : Int) => (x : Rat) := by
      show _ = (ansM (goU low told) low (clickL n) t ++ [_]).reverse ++ _
      rw [List.reverse_append]
      rfl
    rw [e]
    exact freed_go m (t + 1) _ (by omega)
theorem whole_map (l : List Int) : l.map Q.whole = (l.map fun (x : Int) => (x : Rat)).map oq := by
  rw [List.map_map]
  rfl
theorem freed_eq (low told : List Int) (n : Nat) : Vbhlae.freed low (told.map Q.whole) n = (ansM (goU low told) low (clickL n) n).map oq := by
  have h1 := freed_go (low := low) (told := told) (n := n) n 0 [] (by omega)
  have h2 := play_oq [] low (List.replicate n 0) [] (told.map fun (x : Int) => (x : Rat))
  rw [List.map_replicate] at h2
  unfold Vbhlae.freed
  rw [whole_map, show (⟨0, 1⟩ : Q) = oq 0 from rfl]
  rw [show playFrom [] low [] _ _ = _ from h2]
  congr 1

/-! ### how loud -/
def woR (row far : List Rat) (part : Rat) : List Rat := (List.range (row.length - 1)).map fun i => qat row i - part * qat far (row.length - 1 - i)
theorem woR_len (row far : List Rat) (part : Rat) : (woR row far part).length = row.length - 1 := by
  unfold woR
  rw [List.length_map, List.length_range]
theorem woR_at {row far : List Rat} {part : Rat} {i : Nat} (h : i < row.length - 1) : qat (woR row far part) i = qat row i - part * qat far (row.length - 1 - i) := by
  rw [qat_lt (by rw [woR_len]; exact h)]
  unfold woR
  rw [List.getElem_map, List.getElem_range]
/-- of a below, of b above; n: how many numbers behind the first -/
def loudR : Nat → List Rat → List Rat → Rat
  | 0, a, b => qat b 0 * qat b 0 / qat a 0
  | n + 1, a, b => qat b (n + 1) * qat b (n + 1) / qat a 0 + loudR n (woR a a (qat a (n + 1) / qat a 0)) (woR b a (qat b (n + 1) / qat a 0))
theorem wo_oq (row far : List Rat) (part : Rat) : ((List.range (row.length - 1)).map fun i => Q.sub ((row.map oq).getD i ⟨0, 1⟩) ((oq part).mul ((far.map oq).getD (row.length - 1 - i) ⟨0, 1⟩))) = (woR row far part).map oq := by
  unfold woR
  rw [List.map_map]
  refine List.map_congr_left fun i _ => ?_
  rw [getD_oq, getD_oq, oq_mul, oq_sub]
  rfl
theorem loud_oq : ∀ (n f : Nat) (a b : List Rat), a.length = n + 1 → b.length = n + 1 → n < f → loudFrom f (a.map oq) (b.map oq) = oq (loudR n a b)
  | n, 0, _, _, _, _, h => absurd h (Nat.not_lt_zero _)
  | 0, f + 1, a, b, ha, hb, _ => by
    unfold loudFrom
    simp only [List.length_map, ha, getD_oq, oq_mul, oq_div]
    rfl
  | n + 1, f + 1, a, b, ha, hb, hf => by
    unfold loudFrom
    simp only [List.length_map, ha, getD_oq, oq_mul, oq_div, Nat.add_sub_cancel]
    rw [if_neg (by omega)]
    have e1 := wo_oq a a (qat a (n + 1) / qat a 0)
    have e2 := wo_oq b a (qat b (n + 1) / qat a 0)
    rw [ha, Nat.add_sub_cancel] at e1
    rw [hb, Nat.add_sub_cancel] at e2
    simp only [getD_oq, oq_mul] at e1 e2
    rw [e1, e2, loud_oq n f _ _ (by rw [woR_len, ha]; rfl) (by rw [woR_len, hb]; rfl) (by omega), oq_add]
    rfl
def padQ (r : List Int) (n : Nat) : List Rat := (List.range n).map fun i => (at_ r i : Rat)
theorem padQ_len (r : List Int) (n : Nat) : (padQ r n).length = n := by
  unfold padQ
  rw [List.length_map, List.length_range]
theorem padQ_at {r : List Int} {n i : Nat} (h : i < n) : qat (padQ r n) i = (at_ r i : Rat) := by
  rw [qat_lt (by rw [padQ_len]; exact h)]
  unfold padQ
  rw [List.getElem_map, List.getElem_range]
theorem qat_ext {a b : List Rat} (hl : a.length = b.length) (h : ∀ i, i < a.length → qat a i = qat b i) : a = b := by
  refine List.ext_getElem hl fun i h1 h2 => ?_
  have := h i h1
  rwa [qat_lt h1, qat_lt h2] at this
theorem zero_div' (x : Rat) : (0 : Rat) / x = 0 := by
  rw [Rat.div_def, Rat.zero_mul]
theorem wo_pad {r s : List Int} {n : Nat} : woR (padQ r (n + 1)) (padQ s (n + 1)) 0 = padQ r n := by
  refine qat_ext (by rw [woR_len, padQ_len, padQ_len]; rfl) fun i hi => ?_
  rw [woR_len, padQ_len] at hi
  rw [woR_at (by rw [padQ_len]; exact hi), Rat.zero_mul, padQ_at (r := r) (n := n + 1) (by omega), padQ_at (r := r) (n := n) (by omega)]
  grind
/-- zeros at both ends count nothing -/
theorem loud_less {up low : List Int} {n : Nat} (h1 : at_ up (n + 1) = 0) (h2 : at_ low (n + 1) = 0) : loudR (n + 1) (padQ low (n + 2)) (padQ up (n + 2)) = loudR n (padQ low (n + 1)) (padQ up (n + 1)) := by
  rw [loudR, padQ_at (by omega), padQ_at (by omega), padQ_at (by omega), h1, h2]
  rw [show (((0 : Int) : Rat)) = 0 from rfl, Rat.zero_mul, zero_div', wo_pad, wo_pad, Rat.zero_add]
theorem loud_same {up low : List Int} {n : Nat} (hu : up.length ≤ n + 1) (hl : low.length ≤ n + 1) : ∀ k, loudR (n + k) (padQ low (n + k + 1)) (padQ up (n + k + 1)) = loudR n (padQ low (n + 1)) (padQ up (n + 1))
  | 0 => rfl
  | k + 1 => by
    rw [← loud_same hu hl k]
    have e1 : at_ up (n + k + 1) = 0 := at_ge (by omega)
    have e2 : at_ low (n + k + 1) = 0 := at_ge (by omega)
    exact loud_less e1 e2
theorem padQ_alk {a b : List Int} (h : Alk a b) (n : Nat) : padQ a n = padQ b n := by
  unfold padQ
  exact List.map_congr_left fun i _ => by rw [h]
/-- how loud, by the size -/
def loudV (up low : List Int) : Rat := loudR (max up.length low.length - 1) (padQ low (max up.length low.length)) (padQ up (max up.length low.length)) / (at_ low 0 : Rat)
theorem loudV_alk {up up' low low' : List Int} (h : Alk up up') (h2 : Alk low low') (hl : low ≠ []) (hl' : low' ≠ []) : loudV up low = loudV up' low' := by
  have p1 := List.length_pos_iff.mpr hl
  have p2 := List.length_pos_iff.mpr hl'
  obtain ⟨n, hn⟩ : ∃ n, max up.length low.length = n + 1 := ⟨max up.length low.length - 1, by omega⟩
  obtain ⟨n', hn'⟩ : ∃ n, max up'.length low'.length = n + 1 := ⟨max up'.length low'.length - 1, by omega⟩
  unfold loudV
  rw [hn, hn', h2 0, Nat.add_sub_cancel, Nat.add_sub_cancel]
  congr 1
  rw [← loud_same (up := up) (low := low) (n := n) (by omega) (by omega) n', ← loud_same (up := up') (low := low') (n := n') (by omega) (by omega) n, padQ_alk h, padQ_alk h2, Nat.add_comm n n']
theorem loudV_eq (up low : List Int) (hl : low ≠ []) : Vbhlae.loud up low = oq (loudV up low) := by
  have p1 := List.length_pos_iff.mpr hl
  have e : ∀ r : List Int, ((List.range (max up.length low.length)).map fun i => Q.whole (at_ r i)) = (padQ r (max up.length low.length)).map oq := fun r => by
    unfold padQ
    rw [List.map_map]
    rfl
  show (loudFrom (max up.length low.length + 1) ((List.range (max up.length low.length)).map fun i => Q.whole (at_ low i)) ((List.range (max up.length low.length)).map fun i => Q.whole (at_ up i))).div (Q.whole (at_ low 0)) = _
  rw [e, e, loud_oq (max up.length low.length - 1) _ _ _ (by rw [padQ_len]; omega) (by rw [padQ_len]; omega) (by omega), oq_whole, oq_div]
  rfl
end Qa

set_option linter.all false
namespace Qa
open Vbhlae

/-! ### a quiet row's steps, not made plain, keep a first number -/
def rK (R : List Int) : Nat → List Int
  | 0 => R
  | k + 1 => reduced (rK R k)
theorem rK_len (R : List Int) : ∀ k, (rK R k).length = R.length - k
  | 0 => rfl
  | k + 1 => by
    show (reduced (rK R k)).length = _
    rw [red_len, rK_len R k]
    omega
theorem rK_shift (R : List Int) : ∀ k, rK (reduced R) k = rK R (k + 1)
  | 0 => rfl
  | k + 1 => by
    show reduced (rK (reduced R) k) = reduced (rK R (k + 1))
    rw [rK_shift R k]
def Down (f : Nat) (r : List Int) : Prop := ∃ h : stepsFrom f r ≠ [], ((stepsFrom f r).getLast h).length = 1
theorem down_next {f : Nat} {r : List Int} (h1 : 1 < r.length) (h2 : smaller r = true) (h : Down (f + 1) r) (hf : (plain (reduced r)).length < f) : Down f (plain (reduced r)) := by
  obtain ⟨hn, hl⟩ := h
  obtain ⟨g, rfl⟩ : ∃ g, f = g + 1 := ⟨f - 1, by omega⟩
  have ne : stepsFrom (g + 1) (plain (reduced r)) ≠ [] := steps_ne
  refine ⟨ne, ?_⟩
  have e := steps_go (f := g + 1) h1 h2
  have : (stepsFrom (g + 1 + 1) r).getLast hn = (stepsFrom (g + 1) (plain (reduced r))).getLast ne := by
    simp only [e]
    exact List.getLast_cons ne
  rw [← this]
  exact hl
theorem down_smaller {f : Nat} {r : List Int} (h : Down (f + 1) r) (h1 : 1 < r.length) : smaller r = true := by
  cases hs : smaller r with
  | true => rfl
  | false =>
    exfalso
    obtain ⟨hn, hl⟩ := h
    have e : stepsFrom (f + 1) r = [r] := steps_stop fun z => by
      rw [hs] at z
      exact absurd z.2 (by decide)
    simp only [e, List.getLast_singleton] at hl
    omega
theorem nz_core : ∀ (n : Nat) (R r : List Int) (c : Int) (f : Nat), R.length = n + 1 → c ≠ 0 → (∀ i, at_ R i = c * at_ r i) → trim r = r → at_ r 0 ≠ 0 → r.length < f → Down f r → ∀ k, k ≤ n → at_ (rK R k) 0 ≠ 0
  | n, R, r, c, f, hR, hc, hr, _, h0, _, _, 0, _ => by
    show at_ R 0 ≠ 0
    rw [hr]
    exact Int.mul_ne_zero hc h0
  | 0, _, _, _, _, _, _, _, _, _, _, _, k + 1, hk => absurd hk (by omega)
  | n + 1, R, r, c, f, hR, hc, hr, ht, h0, hf, hd, k + 1, hk => by
    rw [← rK_shift]
    obtain ⟨f, rfl⟩ : ∃ g, f = g + 1 := ⟨f - 1, by omega⟩
    have rne : r ≠ [] := by
      intro z
      subst z
      exact h0 rfl
    have rl := List.length_pos_iff.mpr rne
    have last : at_ r (r.length - 1) ≠ 0 := by
      rcases trim_end r with z | z
      · rw [ht] at z
        exact absurd z rne
      · rwa [ht] at z
    have rle : r.length ≤ n + 2 := by
      rcases Nat.lt_or_ge (n + 2) r.length with q | q
      · exfalso
        have := hr (r.length - 1)
        rw [at_ge (by omega)] at this
        exact Int.mul_ne_zero hc last this.symm
      · exact q
    by_cases hl : r.length = n + 2
    · have sm := down_smaller hd (by omega)
      have h1 : 1 < r.length := by omega
      have fp := red_first h1 sm
      have tn := trim_ne (r := reduced r) (by omega)
      have pe := plain_of_pos fp
      have pl := plain_red_len r
      refine nz_core n (reduced R) (plain (reduced r)) (c * c * (common (trim (reduced r)) : Int)) f (by rw [red_len, hR]; rfl) (Int.mul_ne_zero (Int.mul_ne_zero hc hc) (by have := trim_common tn; omega)) (fun i => ?_) (trim_plain _) (by have := plain_pos (r := reduced r) (by omega); omega) (by omega) (down_next h1 sm hd (by omega)) k (by omega)
      by_cases hi : i < n + 1
      · rw [red_at (by omega), pe, redM_at, hR]
        have e : (common (trim (reduced r)) : Int) * (at_ (reduced r) i / (common (trim (reduced r)) : Int)) = at_ (reduced r) i := Int.mul_ediv_cancel' (trim_dvd _ i)
        rw [Int.mul_assoc, e, red_at (by omega), hl, hr, hr, hr, hr, show n + 2 - 1 = n + 1 by omega]
        generalize at_ r 0 = x
        generalize at_ r i = y
        generalize at_ r (n + 1) = z
        generalize at_ r (n + 1 - i) = u
        have e1 : n + 1 + 1 - 1 = n + 1 := by omega
        simp only [Int.mul_sub, Int.mul_assoc, Int.mul_left_comm]
      · rw [at_ge (r := reduced R) (by rw [red_len]; omega), at_ge (r := plain (reduced r)) (by omega), Int.mul_zero]
    · have z0 : at_ R (n + 1) = 0 := by
        rw [hr, at_ge (by omega), Int.mul_zero]
      refine nz_core n (reduced R) r (c * c * at_ r 0) (f + 1) (by rw [red_len, hR]; rfl) (Int.mul_ne_zero (Int.mul_ne_zero hc hc) h0) (fun i => ?_) ht h0 hf hd k (by omega)
      by_cases hi : i < n + 1
      · rw [red_at (by omega), hR, show n + 1 + 1 - 1 = n + 1 by omega, z0, Int.zero_mul, Int.sub_zero, hr, hr]
        simp only [Int.mul_assoc, Int.mul_left_comm]
      · rw [at_ge (r := reduced R) (by rw [red_len]; omega), at_ge (r := r) (i := i) (by omega), Int.mul_zero]
theorem quiet_down {low : List Int} (h : quiet low = true) : at_ low 0 ≠ 0 ∧ Down (low.length + 1) (plain low) := by
  unfold quiet at h
  rw [Bool.and_eq_true] at h
  have h1 : at_ low 0 ≠ 0 := of_decide_eq_true h.1
  refine ⟨h1, steps_ne, ?_⟩
  have h2 := h.2
  have e : (steps low).getLast? = some ((stepsFrom (low.length + 1) (plain low)).getLast steps_ne) := List.getLast?_eq_some_getLast _
  rw [e] at h2
  simpa using h2
theorem nz_quiet {low R : List Int} (h : quiet low = true) (ha : Alk R low) {n : Nat} (hR : R.length = n + 1) : ∀ k, k ≤ n → at_ (rK R k) 0 ≠ 0 := by
  obtain ⟨h0, hd⟩ := quiet_down h
  have tn := trim_ne h0
  have g := trim_common tn
  have pl : (plain low).length < low.length + 1 := by
    have := trim_len_le low
    rw [plain_len]
    omega
  have pp := plain_pos h0
  rcases Int.lt_or_gt_of_ne h0 with q | q
  · refine nz_core n R (plain low) (-(common (trim low) : Int)) _ hR (by omega) (fun i => ?_) (trim_plain low) (by omega) pl hd
    have e : (common (trim low) : Int) * (at_ low i / (common (trim low) : Int)) = at_ low i := Int.mul_ediv_cancel' (trim_dvd _ i)
    rw [ha, plain_eq, if_pos (redM_neg q), at_map0 (f := fun x => -x) rfl, redM_at, Int.neg_mul_neg, e]
  · refine nz_core n R (plain low) (common (trim low) : Int) _ hR (by omega) (fun i => ?_) (trim_plain low) (by omega) pl hd
    rw [ha, plain_of_pos q, redM_at]
    exact (Int.mul_ediv_cancel' (trim_dvd _ i)).symm

/-! ### the upper row beside it, the divisors, the sum -/
def redU (A R : List Int) : List Int := (List.range (R.length - 1)).map fun i => at_ R 0 * at_ A i - at_ A (R.length - 1) * at_ R (R.length - 1 - i)
theorem redU_len (A R : List Int) : (redU A R).length = R.length - 1 := by
  unfold redU
  rw [List.length_map, List.length_range]
theorem redU_at {A R : List Int} {i : Nat} (h : i < R.length - 1) : at_ (redU A R) i = at_ R 0 * at_ A i - at_ A (R.length - 1) * at_ R (R.length - 1 - i) := at_range h
def aK (R A : List Int) : Nat → List Int
  | 0 => A
  | k + 1 => redU (aK R A k) (rK R k)
def cK (R : List Int) : Nat → Int
  | 0 => 1
  | k + 1 => cK R k * at_ (rK R k) 0
def tK (R A : List Int) : Nat → Int
  | 0 => 0
  | k + 1 => tK R A k * at_ (rK R k) 0 + at_ (aK R A k) (R.length - k - 1) * at_ (aK R A k) (R.length - k - 1)
theorem aK_len {R A : List Int} (h : A.length = R.length) : ∀ k, (aK R A k).length = R.length - k
  | 0 => h
  | k + 1 => by
    show (redU _ _).length = _
    rw [redU_len, rK_len]
    omega
/-- the rows as rationals -/
def belK (R : List Int) (k : Nat) : List Rat := (rK R k).map fun (x : Int) => (x : Rat) / (cK R k : Rat)
def abvK (R A : List Int) (k : Nat) : List Rat := (aK R A k).map fun (x : Int) => (x : Rat) / (cK R k : Rat)
def totK (R A : List Int) (k : Nat) : Rat := (tK R A k : Rat) / (cK R k : Rat)
theorem qat_map_div (r : List Int) (c : Rat) (i : Nat) : qat (r.map fun (x : Int) => (x : Rat) / c) i = (at_ r i : Rat) / c := by
  by_cases h : i < r.length
  · rw [qat_lt (by rw [List.length_map]; exact h), List.getElem_map, at_lt h]
  · rw [qat_ge (by rw [List.length_map]; omega), at_ge (by omega)]
    exact (zero_div' c).symm
theorem bel_at (R : List Int) (k i : Nat) : qat (belK R k) i = (at_ (rK R k) i : Rat) / (cK R k : Rat) := qat_map_div _ _ _
theorem abv_at (R A : List Int) (k i : Nat) : qat (abvK R A k) i = (at_ (aK R A k) i : Rat) / (cK R k : Rat) := qat_map_div _ _ _
theorem bel_len (R : List Int) (k : Nat) : (belK R k).length = R.length - k := by
  unfold belK
  rw [List.length_map, rK_len]
theorem abv_len {R A : List Int} (h : A.length = R.length) (k : Nat) : (abvK R A k).length = R.length - k := by
  unfold abvK
  rw [List.length_map, aK_len h]
theorem cK_ne {R : List Int} {n : Nat} (h : ∀ k, k ≤ n → at_ (rK R k) 0 ≠ 0) : ∀ k, k ≤ n + 1 → cK R k ≠ 0
  | 0, _ => by
    show (1 : Int) ≠ 0
    decide
  | k + 1, hk => Int.mul_ne_zero (cK_ne h k (by omega)) (h k (by omega))
theorem cast_ne {x : Int} (h : x ≠ 0) : (x : Rat) ≠ 0 := by exact_mod_cast h
theorem bel_next {R : List Int} {k : Nat} (hc : cK R k ≠ 0) (h0 : at_ (rK R k) 0 ≠ 0) (hk : k < R.length) :
    woR (belK R k) (belK R k) (qat (belK R k) (R.length - k - 1) / qat (belK R k) 0) = belK R (k + 1) := by
  have c1 := cast_ne hc
  have c2 := cast_ne h0
  refine qat_ext (by rw [woR_len, bel_len, bel_len]; omega) fun i hi => ?_
  rw [woR_len, bel_len] at hi
  rw [woR_at (by rw [bel_len]; exact hi), bel_len, bel_at, bel_at, bel_at, bel_at, bel_at]
  show _ = ((at_ (reduced (rK R k)) i : Int) : Rat) / ((cK R k * at_ (rK R k) 0 : Int) : Rat)
  rw [red_at (by rw [rK_len]; exact hi), rK_len]
  push_cast
  grind
theorem abv_next {R A : List Int} {k : Nat} (hA : A.length = R.length) (hc : cK R k ≠ 0) (h0 : at_ (rK R k) 0 ≠ 0) (hk : k < R.length) :
    woR (abvK R A k) (belK R k) (qat (abvK R A k) (R.length - k - 1) / qat (belK R k) 0) = abvK R A (k + 1) := by
  have c1 := cast_ne hc
  have c2 := cast_ne h0
  refine qat_ext (by rw [woR_len, abv_len hA, abv_len hA]; omega) fun i hi => ?_
  rw [woR_len, abv_len hA] at hi
  rw [woR_at (by rw [abv_len hA]; exact hi), abv_len hA, bel_at, bel_at, abv_at, abv_at, abv_at]
  show _ = ((at_ (redU (aK R A k) (rK R k)) i : Int) : Rat) / ((cK R k * at_ (rK R k) 0 : Int) : Rat)
  rw [redU_at (by rw [rK_len]; exact hi), rK_len]
  push_cast
  grind
theorem tot_next {R A : List Int} {k : Nat} (hc : cK R k ≠ 0) (h0 : at_ (rK R k) 0 ≠ 0) :
    totK R A k + qat (abvK R A k) (R.length - k - 1) * qat (abvK R A k) (R.length - k - 1) / qat (belK R k) 0 = totK R A (k + 1) := by
  have c1 := cast_ne hc
  have c2 := cast_ne h0
  unfold totK
  rw [abv_at, bel_at]
  show _ = ((tK R A k * at_ (rK R k) 0 + at_ (aK R A k) (R.length - k - 1) * at_ (aK R A k) (R.length - k - 1) : Int) : Rat) / ((cK R k * at_ (rK R k) 0 : Int) : Rat)
  push_cast
  grind
/-- the sum at the end -/
theorem tot_loud {R A : List Int} (hA : A.length = R.length) {n : Nat} (hn : R.length = n + 1) (h : ∀ k, k ≤ n → at_ (rK R k) 0 ≠ 0) : ∀ (m k : Nat), k + m = n → totK R A k + loudR m (belK R k) (abvK R A k) = totK R A (n + 1)
  | 0, k, e => by
    have hk : k = n := by omega
    subst hk
    rw [← tot_next (cK_ne h k (by omega)) (h k (Nat.le_refl _)), hn, show k + 1 - k - 1 = 0 by omega]
    rfl
  | m + 1, k, e => by
    have c := cK_ne h k (by omega)
    have z := h k (by omega)
    have e1 : R.length - k - 1 = m + 1 := by omega
    have b := bel_next c z (by omega)
    have a := abv_next hA c z (by omega)
    have t := tot_next (A := A) c z
    rw [e1] at a b t
    rw [loudR, b, a, ← tot_loud hA hn h m (k + 1) (by omega), ← t, Rat.add_assoc]
theorem map_cast_pad (r : List Int) (n : Nat) (h : r.length ≤ n) : (padTo r n).map (fun (x : Int) => (x : Rat)) = padQ r n := by
  refine qat_ext (by rw [List.length_map, padTo_len, padQ_len]; omega) fun i hi => ?_
  rw [List.length_map, padTo_len] at hi
  rw [padQ_at (by omega), qat_lt (by rw [List.length_map, padTo_len]; omega), List.getElem_map, ← padTo_at r n i, at_lt]
theorem bel_zero (r : List Int) (n : Nat) (h : r.length ≤ n) : belK (padTo r n) 0 = padQ r n := by
  rw [← map_cast_pad r n h]
  unfold belK
  refine List.map_congr_left fun x _ => ?_
  show (x : Rat) / ((1 : Int) : Rat) = x
  have : ((1 : Int) : Rat) = 1 := rfl
  rw [this]
  grind
theorem abv_zero (r R : List Int) (n : Nat) (h : r.length ≤ n) : abvK R (padTo r n) 0 = padQ r n := by
  rw [← map_cast_pad r n h]
  unfold abvK
  refine List.map_congr_left fun x _ => ?_
  show (x : Rat) / ((1 : Int) : Rat) = x
  have : ((1 : Int) : Rat) = 1 := rfl
  rw [this]
  grind
theorem tot_zero (R A : List Int) : totK R A 0 = 0 := by
  show ((0 : Int) : Rat) / _ = 0
  exact zero_div' _
/-! bits -/
def eK (e : Nat) : Nat → Nat
  | 0 => e
  | k + 1 => 2 * eK e k + 1
def mK (e : Nat) : Nat → Nat
  | 0 => 1
  | k + 1 => mK e k + eK e k
def qK (e : Nat) : Nat → Nat
  | 0 => 1
  | k + 1 => qK e k + 2 * eK e k + 1
theorem eK_eq (e : Nat) : ∀ k, eK e k + 1 = (e + 1) * 2 ^ k
  | 0 => by
    show e + 1 = (e + 1) * 1
    omega
  | k + 1 => by
    show 2 * eK e k + 1 + 1 = _
    rw [Nat.pow_succ, ← Nat.mul_assoc, ← eK_eq e k]
    omega
theorem mK_le (e : Nat) : ∀ k, mK e k ≤ 1 + (e + 1) * 2 ^ k
  | 0 => Nat.le_add_right _ _
  | k + 1 => by
    have := mK_le e k
    have h := eK_eq e k
    show mK e k + eK e k ≤ _
    rw [Nat.pow_succ, ← Nat.mul_assoc]
    omega
theorem qK_le (e : Nat) : ∀ k, qK e k ≤ 1 + 2 * ((e + 1) * 2 ^ k)
  | 0 => Nat.le_add_right _ _
  | k + 1 => by
    have := qK_le e k
    have h := eK_eq e k
    have e2 : (e + 1) * 2 ^ (k + 1) = (e + 1) * 2 ^ k * 2 := by rw [Nat.pow_succ, Nat.mul_assoc]
    show qK e k + 2 * eK e k + 1 ≤ _
    rw [e2]
    omega
theorem rK_bl {e : Nat} {R : List Int} (h : bl e R) : ∀ k, bl (eK e k) (rK R k)
  | 0 => h
  | k + 1 => red_bl (rK_bl h k)
theorem redU_bl {n : Nat} {A R : List Int} (hA : bl n A) (h : bl n R) : bl (2 * n + 1) (redU A R) := by
  intro x hx
  obtain ⟨i, hi, e⟩ := List.mem_map.mp hx
  subst e
  have e : n + n = 2 * n := by omega
  have h1 := mul_bit (bl_at h 0) (bl_at hA i)
  have h2 := mul_bit (bl_at hA (R.length - 1)) (bl_at h (R.length - 1 - i))
  rw [e] at h1 h2
  exact sub_bit h1 h2
theorem aK_bl {e : Nat} {R A : List Int} (h : bl e R) (hA : bl e A) : ∀ k, bl (eK e k) (aK R A k)
  | 0 => hA
  | k + 1 => redU_bl (aK_bl h hA k) (rK_bl h k)
theorem cK_bit {e : Nat} {R : List Int} (h : bl e R) : ∀ k, (cK R k).natAbs < 2 ^ mK e k
  | 0 => by
    show 1 < 2 ^ 1
    decide
  | k + 1 => mul_bit (cK_bit h k) (bl_at (rK_bl h k) 0)
theorem bit_mono {x : Int} {n m : Nat} (h : x.natAbs < 2 ^ n) (hm : n ≤ m) : x.natAbs < 2 ^ m := Nat.lt_of_lt_of_le h (Nat.pow_le_pow_right (by decide) hm)
theorem tK_bit {e : Nat} {R A : List Int} (h : bl e R) (hA : bl e A) : ∀ k, (tK R A k).natAbs < 2 ^ qK e k
  | 0 => by
    show 0 < 2 ^ 1
    decide
  | k + 1 => by
    have h1 := mul_bit (tK_bit h hA k) (bl_at (rK_bl h k) 0)
    have h2 := mul_bit (bl_at (aK_bl h hA k) (R.length - k - 1)) (bl_at (aK_bl h hA k) (R.length - k - 1))
    exact add_bit (n := qK e k + 2 * eK e k) (bit_mono h1 (by omega)) (bit_mono h2 (by omega))
end Qa

set_option linter.all false
namespace Qa
open Vbhlae (at_)

/-! ### sizes of fractions -/
def smq (x : Rat) : Prop := sm x.num ∧ sm (x.den : Int)
theorem byOf_dvd_l (a b : Int) : byOf a b ∣ a := by
  unfold byOf
  split
  · exact Int.neg_dvd.mpr (Int.ofNat_dvd_left.mpr (Nat.gcd_dvd_left _ _))
  · exact Int.ofNat_dvd_left.mpr (Nat.gcd_dvd_left _ _)
theorem byOf_dvd_r (a b : Int) : byOf a b ∣ b := by
  unfold byOf
  split
  · exact Int.neg_dvd.mpr (Int.ofNat_dvd_left.mpr (Nat.gcd_dvd_right _ _))
  · exact Int.ofNat_dvd_left.mpr (Nat.gcd_dvd_right _ _)
theorem fdiv_abs {a b : Int} (hb : b ≠ 0) (h : b ∣ a) : (a.fdiv b).natAbs ≤ a.natAbs := by
  obtain ⟨k, e⟩ := h
  subst e
  rw [Int.mul_fdiv_cancel_left _ hb, Int.natAbs_mul]
  have : 0 < b.natAbs := by omega
  exact Nat.le_mul_of_pos_left _ this
theorem q_size {x : Rat} {N M : Int} (hM : M ≠ 0) (h : x = (N : Rat) / (M : Rat)) : x.num.natAbs ≤ N.natAbs ∧ x.den ≤ M.natAbs := by
  have h1 := fr_num (t := N) hM
  have h2 := fr_den (t := N) hM
  rw [← h] at h1 h2
  have a1 := fdiv_abs (byOf_ne (t := N) hM) (byOf_dvd_l N M)
  have a2 := fdiv_abs (byOf_ne (t := N) hM) (byOf_dvd_r N M)
  rw [h1] at a1
  rw [h2] at a2
  exact ⟨a1, by omega⟩
theorem smq_of {x : Rat} {N M : Int} (hM : M ≠ 0) (h : x = (N : Rat) / (M : Rat)) (hN : sm N) (hm : sm M) : smq x := by
  obtain ⟨h1, h2⟩ := q_size hM h
  exact ⟨Nat.lt_of_le_of_lt h1 hN, Nat.lt_of_le_of_lt (by omega) hm⟩
theorem sm_one : sm 1 := by
  show 1 < 2 ^ BB
  exact Nat.one_lt_two_pow (by unfold BB; omega)
theorem smq_int {n : Int} (h : sm n) : smq (n : Rat) := smq_of (N := n) (M := 1) (by decide) (by rw [show ((1 : Int) : Rat) = 1 from rfl]; grind) h sm_one
theorem smq_zero : smq 0 := smq_int (n := 0) (by show 0 < 2 ^ BB; exact Nat.two_pow_pos _)
/-- x is a whole number over c ^ e -/
def vr (c : Int) (e n : Nat) (x : Rat) : Prop := ∃ N : Int, x * ((c ^ e : Int) : Rat) = (N : Rat) ∧ N.natAbs < 2 ^ n
theorem pow_ne {c : Int} (h : c ≠ 0) (e : Nat) : c ^ e ≠ 0 := Int.pow_ne_zero h
theorem pow_abs {c : Int} {b : Nat} (h : c.natAbs < 2 ^ b) : ∀ e, (c ^ e).natAbs ≤ 2 ^ (b * e)
  | 0 => by
    rw [Int.pow_zero, Nat.mul_zero]
    exact Nat.le_refl _
  | e + 1 => by
    rw [Int.pow_succ, Int.natAbs_mul, Nat.mul_succ, Nat.pow_add]
    exact Nat.mul_le_mul (pow_abs h e) (Nat.le_of_lt h)
theorem vr_smq {c : Int} {e n b : Nat} {x : Rat} (hc : c ≠ 0) (hb : c.natAbs < 2 ^ b) (h : vr c e n x) (hn : n ≤ BB) (he : b * e < BB) : smq x := by
  obtain ⟨N, h1, h2⟩ := h
  have hp := pow_ne hc e
  have hq := cast_ne hp
  refine smq_of (N := N) (M := c ^ e) hp ?_ (sm_of h2 hn) ?_
  · rw [← h1]
    grind
  · exact Nat.lt_of_le_of_lt (pow_abs hb e) (Nat.pow_lt_pow_right (by decide) he)
theorem vr_mono {c : Int} {e n m : Nat} {x : Rat} (h : vr c e n x) (hm : n ≤ m) : vr c e m x := by
  obtain ⟨N, h1, h2⟩ := h
  exact ⟨N, h1, Nat.lt_of_lt_of_le h2 (Nat.pow_le_pow_right (by decide) hm)⟩
theorem vr_up {c : Int} {e n b : Nat} {x : Rat} (hb : c.natAbs < 2 ^ b) (h : vr c e n x) : ∀ k, vr c (e + k) (n + b * k) x
  | 0 => h
  | k + 1 => by
    obtain ⟨N, h1, h2⟩ := vr_up hb h k
    refine ⟨N * c, ?_, ?_⟩
    · show x * ((c ^ (e + k + 1) : Int) : Rat) = _
      rw [Int.pow_succ]
      push_cast
      push_cast at h1
      rw [← Rat.mul_assoc, h1]
    · have := mul_bit h2 hb
      rw [Nat.mul_succ, ← Nat.add_assoc]
      exact this
theorem vr_add {c : Int} {e n : Nat} {x y : Rat} (hx : vr c e n x) (hy : vr c e n y) : vr c e (n + 1) (x + y) := by
  obtain ⟨N, h1, h2⟩ := hx
  obtain ⟨M, h3, h4⟩ := hy
  refine ⟨N + M, ?_, add_bit h2 h4⟩
  push_cast
  push_cast at h1 h3
  rw [Rat.add_mul, h1, h3]
theorem vr_sub {c : Int} {e n : Nat} {x y : Rat} (hx : vr c e n x) (hy : vr c e n y) : vr c e (n + 1) (x - y) := by
  obtain ⟨N, h1, h2⟩ := hx
  obtain ⟨M, h3, h4⟩ := hy
  refine ⟨N - M, ?_, sub_bit h2 h4⟩
  push_cast
  push_cast at h1 h3
  rw [← h1, ← h3]
  grind
theorem vr_mul {c : Int} {e n m : Nat} {x : Rat} {a : Int} (ha : a.natAbs < 2 ^ m) (hx : vr c e n x) : vr c e (m + n) ((a : Rat) * x) := by
  obtain ⟨N, h1, h2⟩ := hx
  refine ⟨a * N, ?_, mul_bit ha h2⟩
  push_cast
  push_cast at h1
  rw [Rat.mul_assoc, h1]
theorem vr_int {c a : Int} {n : Nat} (h : a.natAbs < 2 ^ n) : vr c 0 n (a : Rat) := ⟨a, by rw [Int.pow_zero]; show (a : Rat) * 1 = _; rw [Rat.mul_one], h⟩
theorem vr_div {c : Int} {e n : Nat} {x : Rat} (hc : c ≠ 0) (h : vr c e n x) : vr c (e + 1) n (x / (c : Rat)) := by
  obtain ⟨N, h1, h2⟩ := h
  have := cast_ne hc
  refine ⟨N, ?_, h2⟩
  rw [Int.pow_succ]
  push_cast
  push_cast at h1
  rw [← h1]
  grind
theorem vr_zero {c : Int} {e n : Nat} : vr c e n 0 := ⟨0, by rw [Rat.zero_mul]; rfl, Nat.two_pow_pos n⟩

/-! ### what a filter answers stays small -/
/-- what weighed asks -/
structure WOk (row : List Int) (heard : List Rat) (t first : Nat) : Prop where
  sums : ∀ i, i ≤ wN row t first → smq (wS row heard t first i)
  nums : ∀ i, i < wN row t first → smq (at_ row (first + i) : Rat)
  here : ∀ i, i < wN row t first → smq (qat heard (t - (first + i)))
  prod : ∀ i, i < wN row t first → smq ((at_ row (first + i) : Rat) * qat heard (t - (first + i)))
  has : ∀ i, i < wN row t first → t - (first + i) < heard.length
structure AOk (up low ins : List Int) : Prop where
  c0 : at_ low 0 ≠ 0
  sc : smq (at_ low 0 : Rat)
  wu : ∀ t, t < ins.length → WOk up (ins.map fun (x : Int) => (x : Rat)) t 0
  wl : ∀ t, t < ins.length → WOk low (ansM up low (ins.map fun (x : Int) => (x : Rat)) t) t 1
  diff : ∀ t, t < ins.length → smq (wS up (ins.map fun (x : Int) => (x : Rat)) t 0 (wN up t 0) - wS low (ansM up low (ins.map fun (x : Int) => (x : Rat)) t) t 1 (wN low t 1))
theorem qat_cast (l : List Int) (i : Nat) : qat (l.map fun (x : Int) => (x : Rat)) i = (at_ l i : Rat) := by
  unfold qat at_
  rw [List.getD_eq_getElem?_getD, List.getD_eq_getElem?_getD, List.getElem?_map]
  cases l[i]? <;> rfl
section
variable {up low ins : List Int} {b L : Nat}
theorem up_vr (hu : bl b up) (hi : bl b ins) (c : Int) (t : Nat) : ∀ i, vr c 0 (b + b + i) (wS up (ins.map fun (x : Int) => (x : Rat)) t 0 i)
  | 0 => vr_zero
  | i + 1 => by
    show vr c 0 (b + b + i + 1) (wS up (ins.map fun (x : Int) => (x : Rat)) t 0 i + (at_ up (0 + i) : Rat) * qat (ins.map fun (x : Int) => (x : Rat)) (t - (0 + i)))
    refine vr_add (up_vr hu hi c t i) ?_
    rw [qat_cast]
    exact vr_mono (vr_mul (bl_at hu _) (vr_int (bl_at hi _))) (by omega)
/-- the answers so far -/
def YOk (c : Int) (E : Nat) (found : List Rat) : Prop := ∀ j, j < found.length → vr c (j + 1) ((j + 1) * E) (qat found j)
theorem term_vr {c : Int} {E : Nat} {found : List Rat} {t : Nat} (hl : bl b low) (hc : c.natAbs < 2 ^ b) (hE : b ≤ E) (hf : found.length = t) (hy : YOk c E found) (i : Nat) (h : 1 + i ≤ t) :
    vr c t (t * E + b) ((at_ low (1 + i) : Rat) * qat found (t - (1 + i))) := by
  have h1 := hy (t - (1 + i)) (by omega)
  have h2 := vr_up hc h1 i
  have e1 : t - (1 + i) + 1 + i = t := by omega
  rw [e1] at h2
  have h3 := vr_mul (bl_at hl (1 + i)) h2
  refine vr_mono h3 ?_
  have e2 : (t - (1 + i) + 1) * E + i * E = t * E := by rw [← Nat.add_mul, e1]
  have e3 : b * i ≤ i * E := by
    rw [Nat.mul_comm]
    exact Nat.mul_le_mul_left i hE
  omega
theorem low_vr {c : Int} {E : Nat} {found : List Rat} {t : Nat} (hl : bl b low) (hc : c.natAbs < 2 ^ b) (hE : b ≤ E) (hf : found.length = t) (hy : YOk c E found) : ∀ i, i ≤ t → vr c t (t * E + b + i) (wS low found t 1 i)
  | 0, _ => vr_zero
  | i + 1, h => by
    show vr c t (t * E + b + i + 1) (wS low found t 1 i + (at_ low (1 + i) : Rat) * qat found (t - (1 + i)))
    exact vr_add (low_vr hl hc hE hf hy i (by omega)) (vr_mono (term_vr hl hc hE hf hy i (by omega)) (by omega))
theorem wN_le (row : List Int) (t first : Nat) : wN row t first ≤ row.length ∧ wN row t first + first ≤ max first (t + 1) := by
  unfold wN
  omega
theorem diff_vr {c : Int} {found : List Rat} {t : Nat} (hu : bl b up) (hi : bl b ins) (hl : bl b low) (hc : c.natAbs < 2 ^ b) (hL : up.length ≤ L) (hL2 : low.length ≤ L) (hf : found.length = t) (hy : YOk c (2 * b + L + 2) found) :
    vr c t ((t + 1) * (2 * b + L + 2)) (wS up (ins.map fun (x : Int) => (x : Rat)) t 0 (wN up t 0) - wS low found t 1 (wN low t 1)) := by
  have w1 := wN_le up t 0
  have w2 := wN_le low t 1
  have a1 := vr_up hc (up_vr hu hi c t (wN up t 0)) t
  rw [Nat.zero_add] at a1
  have a2 := low_vr hl hc (by omega) hf hy (wN low t 1) (by omega)
  have e : b * t ≤ t * (2 * b + L + 2) := by
    rw [Nat.mul_comm]
    exact Nat.mul_le_mul_left t (by omega)
  have e2 : (t + 1) * (2 * b + L + 2) = t * (2 * b + L + 2) + (2 * b + L + 2) := Nat.succ_mul _ _
  exact vr_mono (vr_sub (n := t * (2 * b + L + 2) + (2 * b + L + 1)) (vr_mono a1 (by omega)) (vr_mono a2 (by omega))) (by omega)
theorem ans_YOk (hu : bl b up) (hi : bl b ins) (hl : bl b low) (h0 : at_ low 0 ≠ 0) (hL : up.length ≤ L) (hL2 : low.length ≤ L) : ∀ t, YOk (at_ low 0) (2 * b + L + 2) (ansM up low (ins.map fun (x : Int) => (x : Rat)) t)
  | 0 => fun j hj => absurd hj (Nat.not_lt_zero _)
  | t + 1 => fun j hj => by
    have ih := ans_YOk hu hi hl h0 hL hL2 t
    rw [ansM_len] at hj
    by_cases h : j < t
    · show vr _ _ _ (qat (ansM up low _ t ++ [_]) j)
      rw [qat_append_l (by rw [ansM_len]; exact h)]
      exact ih j (by rw [ansM_len]; exact h)
    · have e : j = t := by omega
      subst e
      rw [ansM_at _ _ _ _ _ hj]
      exact vr_div h0 (diff_vr hu hi hl (bl_at hl 0) hL hL2 (ansM_len ..) ih)
theorem aok_of (hu : bl b up) (hi : bl b ins) (hl : bl b low) (h0 : at_ low 0 ≠ 0) (hL : up.length ≤ L) (hL2 : low.length ≤ L) (hbb : (ins.length + 2) * (2 * b + L + 2) < BB) : AOk up low ins := by
  have hc := bl_at hl 0
  have hbase : 2 * b + L + 2 < BB := by
    have : 1 * (2 * b + L + 2) ≤ (ins.length + 2) * (2 * b + L + 2) := Nat.mul_le_mul_right _ (by omega)
    omega
  have hpow : ∀ t, t ≤ ins.length → b * t < BB := fun t ht => by
    have h1 : b * t ≤ (2 * b + L + 2) * (ins.length + 2) := Nat.mul_le_mul (by omega) (by omega)
    rw [Nat.mul_comm (2 * b + L + 2)] at h1
    omega
  have hgo : ∀ t, t ≤ ins.length → t * (2 * b + L + 2) + (2 * b + L + 2) < BB := fun t ht => by
    have h1 : (t + 1) * (2 * b + L + 2) ≤ (ins.length + 2) * (2 * b + L + 2) := Nat.mul_le_mul_right _ (by omega)
    rw [Nat.succ_mul] at h1
    omega
  have S : ∀ {t n : Nat} {x : Rat}, t ≤ ins.length → vr (at_ low 0) t n x → n ≤ BB → smq x := fun ht h hn => vr_smq h0 hc h hn (hpow _ ht)
  refine ⟨h0, smq_int (sm_of hc (by omega)), fun t ht => ?_, fun t ht => ?_, fun t ht => ?_⟩
  · have w := wN_le up t 0
    refine ⟨fun i hi' => S (t := 0) (by omega) (up_vr hu hi _ t i) (by omega), fun i _ => smq_int (sm_of (bl_at hu _) (by omega)), fun i _ => ?_, fun i _ => ?_, fun i hi' => ?_⟩
    · rw [qat_cast]
      exact smq_int (sm_of (bl_at hi _) (by omega))
    · rw [qat_cast]
      exact S (t := 0) (by omega) (vr_mul (bl_at hu _) (vr_int (bl_at hi _))) (by omega)
    · rw [List.length_map]
      omega
  · have w := wN_le low t 1
    have y := ans_YOk hu hi hl h0 hL hL2 t
    have g := hgo t (by omega)
    refine ⟨fun i hi' => ?_, fun i _ => smq_int (sm_of (bl_at hl _) (by omega)), fun i hi' => ?_, fun i hi' => ?_, fun i hi' => ?_⟩
    · have q := low_vr hl hc (by omega) (ansM_len ..) y i (by omega)
      exact S (t := t) (by omega) q (by omega)
    · have hj : t - (1 + i) < t := by omega
      have q := y (t - (1 + i)) (by rw [ansM_len]; exact hj)
      refine S (t := t - (1 + i) + 1) (by omega) q ?_
      have : (t - (1 + i) + 1) * (2 * b + L + 2) ≤ t * (2 * b + L + 2) := Nat.mul_le_mul_right _ (by omega)
      omega
    · have q := term_vr hl hc (by omega) (ansM_len ..) y i (by omega)
      exact S (t := t) (by omega) q (by omega)
    · rw [ansM_len]
      omega
  · have y := ans_YOk hu hi hl h0 hL hL2 t
    have g := hgo t (by omega)
    refine S (t := t) (by omega) (diff_vr hu hi hl hc hL hL2 (ansM_len ..) y) ?_
    rw [Nat.succ_mul]
    omega
end

/-! ### how loud: what its steps ask -/
structure LOk (R A : List Int) (n : Nat) : Prop where
  lenR : R.length = n + 1
  lenA : A.length = n + 1
  nz : ∀ k, k ≤ n → at_ (rK R k) 0 ≠ 0
  bel : ∀ k i, k ≤ n → smq (qat (belK R k) i)
  abv : ∀ k i, k ≤ n → smq (qat (abvK R A k) i)
  tot : ∀ k, k ≤ n + 1 → smq (totK R A k)
  sq : ∀ k, k ≤ n → smq (qat (abvK R A k) (R.length - k - 1) * qat (abvK R A k) (R.length - k - 1))
  sqo : ∀ k, k ≤ n → smq (qat (abvK R A k) (R.length - k - 1) * qat (abvK R A k) (R.length - k - 1) / qat (belK R k) 0)
  pa : ∀ k, k ≤ n → smq (qat (abvK R A k) (R.length - k - 1) / qat (belK R k) 0)
  pb : ∀ k, k ≤ n → smq (qat (belK R k) (R.length - k - 1) / qat (belK R k) 0)
  paf : ∀ k j, k ≤ n → smq (qat (abvK R A k) (R.length - k - 1) / qat (belK R k) 0 * qat (belK R k) j)
  pbf : ∀ k j, k ≤ n → smq (qat (belK R k) (R.length - k - 1) / qat (belK R k) 0 * qat (belK R k) j)
  c0 : smq (at_ R 0 : Rat)
theorem lok_of {R A : List Int} {n e : Nat} (hR : R.length = n + 1) (hA : A.length = n + 1) (h : bl e R) (hU : bl e A) (nz : ∀ k, k ≤ n → at_ (rK R k) 0 ≠ 0) (hbb : (e + 1) * 2 ^ (n + 4) < BB) : LOk R A n := by
  have hx : (e + 1) * 2 ^ (n + 4) = 8 * ((e + 1) * 2 ^ (n + 1)) := by
    rw [show n + 4 = n + 1 + 3 by omega, Nat.pow_add, ← Nat.mul_assoc, show 2 ^ 3 = 8 from rfl, Nat.mul_comm]
  have one : 1 ≤ (e + 1) * 2 ^ (n + 1) := Nat.mul_pos (by omega) (Nat.two_pow_pos _)
  have mono : ∀ k, k ≤ n + 1 → (e + 1) * 2 ^ k ≤ (e + 1) * 2 ^ (n + 1) := fun k hk => Nat.mul_le_mul_left _ (Nat.pow_le_pow_right (by decide) hk)
  have be : ∀ k, k ≤ n + 1 → eK e k < (e + 1) * 2 ^ (n + 1) := fun k hk => by
    have := eK_eq e k
    have := mono k hk
    omega
  have bm : ∀ k, k ≤ n + 1 → mK e k ≤ 1 + (e + 1) * 2 ^ (n + 1) := fun k hk => by
    have := mK_le e k
    have := mono k hk
    omega
  have bq : ∀ k, k ≤ n + 1 → qK e k ≤ 1 + 2 * ((e + 1) * 2 ^ (n + 1)) := fun k hk => by
    have := qK_le e k
    have := mono k hk
    omega
  have cn := cK_ne nz
  have rb : ∀ k i, (at_ (rK R k) i).natAbs < 2 ^ eK e k := fun k i => bl_at (rK_bl h k) i
  have ab : ∀ k i, (at_ (aK R A k) i).natAbs < 2 ^ eK e k := fun k i => bl_at (aK_bl h hU k) i
  have cb : ∀ k, (cK R k).natAbs < 2 ^ mK e k := fun k => cK_bit h k
  refine ⟨hR, hA, nz, fun k i hk => ?_, fun k i hk => ?_, fun k hk => ?_, fun k hk => ?_, fun k hk => ?_, fun k hk => ?_, fun k hk => ?_, fun k j hk => ?_, fun k j hk => ?_, ?_⟩
  · rw [bel_at]
    have := be k (by omega)
    have := bm k (by omega)
    exact smq_of (cn k (by omega)) rfl (sm_of (rb k i) (by omega)) (sm_of (cb k) (by omega))
  · rw [abv_at]
    have := be k (by omega)
    have := bm k (by omega)
    exact smq_of (cn k (by omega)) rfl (sm_of (ab k i) (by omega)) (sm_of (cb k) (by omega))
  · have := bq k (by omega)
    have := bm k (by omega)
    exact smq_of (cn k (by omega)) rfl (sm_of (tK_bit h hU k) (by omega)) (sm_of (cb k) (by omega))
  all_goals (try have b1 := be k (by omega)); (try have b2 := bm k (by omega)); (try have c1 := cast_ne (cn k (by omega))); (try have z1 := cast_ne (nz k hk))
  · rw [abv_at]
    refine smq_of (N := at_ (aK R A k) (R.length - k - 1) * at_ (aK R A k) (R.length - k - 1)) (M := cK R k * cK R k) (Int.mul_ne_zero (cn k (by omega)) (cn k (by omega))) ?_ (sm_of (mul_bit (ab k _) (ab k _)) (by omega)) (sm_of (mul_bit (cb k) (cb k)) (by omega))
    push_cast
    grind
  · rw [abv_at, bel_at]
    refine smq_of (N := at_ (aK R A k) (R.length - k - 1) * at_ (aK R A k) (R.length - k - 1)) (M := cK R k * at_ (rK R k) 0) (Int.mul_ne_zero (cn k (by omega)) (nz k hk)) ?_ (sm_of (mul_bit (ab k _) (ab k _)) (by omega)) (sm_of (mul_bit (cb k) (rb k 0)) (by omega))
    push_cast
    grind
  · rw [abv_at, bel_at]
    refine smq_of (N := at_ (aK R A k) (R.length - k - 1)) (M := at_ (rK R k) 0) (nz k hk) ?_ (sm_of (ab k _) (by omega)) (sm_of (rb k 0) (by omega))
    grind
  · rw [bel_at, bel_at]
    refine smq_of (N := at_ (rK R k) (R.length - k - 1)) (M := at_ (rK R k) 0) (nz k hk) ?_ (sm_of (rb k _) (by omega)) (sm_of (rb k 0) (by omega))
    grind
  · rw [abv_at, bel_at, bel_at]
    refine smq_of (N := at_ (aK R A k) (R.length - k - 1) * at_ (rK R k) j) (M := at_ (rK R k) 0 * cK R k) (Int.mul_ne_zero (nz k hk) (cn k (by omega))) ?_ (sm_of (mul_bit (ab k _) (rb k j)) (by omega)) (sm_of (mul_bit (rb k 0) (cb k)) (by omega))
    push_cast
    grind
  · rw [bel_at, bel_at, bel_at]
    refine smq_of (N := at_ (rK R k) (R.length - k - 1) * at_ (rK R k) j) (M := at_ (rK R k) 0 * cK R k) (Int.mul_ne_zero (nz k hk) (cn k (by omega))) ?_ (sm_of (mul_bit (rb k _) (rb k j)) (by omega)) (sm_of (mul_bit (rb k 0) (cb k)) (by omega))
    push_cast
    grind
  · have b1 : eK e 0 < (e + 1) * 2 ^ (n + 1) := be 0 (by omega)
    exact smq_int (sm_of (rb 0 0) (by omega))
end Qa

set_option linter.all false
namespace Qa
open Vbhlae

/-! ### rows by their values -/
def ev (x : Int) : List Int → Int
  | [] => 0
  | a :: l => a + x * ev x l
theorem evl_zero (x : Int) : ∀ l : List Int, (∀ i, at_ l i = 0) → ev x l = 0
  | [], _ => rfl
  | a :: l, h => by
    have h0 : a = 0 := h 0
    show a + x * ev x l = 0
    rw [evl_zero x l fun i => h (i + 1), h0, Int.mul_zero]
    rfl
theorem evl_alk (x : Int) : ∀ {a b : List Int}, Alk a b → ev x a = ev x b
  | [], b, h => (evl_zero x b fun i => (h i).symm).symm
  | a :: l, [], h => evl_zero x (a :: l) fun i => h i
  | a :: l, b :: m, h => by
    have h0 : a = b := h 0
    show a + x * ev x l = b + x * ev x m
    rw [h0, evl_alk x (a := l) (b := m) fun i => h (i + 1)]
theorem evl_plus (x : Int) (a b : List Int) : ev x (plus a b) = ev x a + ev x b := by
  have key : ∀ (a b : List Int), ∃ c, Alk c (plus a b) ∧ ev x c = ev x a + ev x b := by
    intro a
    induction a with
    | nil =>
      intro b
      refine ⟨b, fun i => ?_, (Int.zero_add _).symm⟩
      rw [plus_at]
      exact (Int.zero_add _).symm
    | cons a l ih =>
      intro b
      cases b with
      | nil =>
        refine ⟨a :: l, fun i => ?_, (Int.add_zero _).symm⟩
        rw [plus_at]
        exact (Int.add_zero _).symm
      | cons b m =>
        obtain ⟨c, h1, h2⟩ := ih m
        refine ⟨(a + b) :: c, fun i => ?_, ?_⟩
        · rw [plus_at]
          cases i with
          | zero => rfl
          | succ i =>
            show at_ c i = at_ l i + at_ m i
            rw [h1, plus_at]
        · show a + b + x * ev x c = a + x * ev x l + (b + x * ev x m)
          rw [h2, Int.mul_add]
          omega
  obtain ⟨c, h1, h2⟩ := key a b
  rw [← evl_alk x h1, h2]
theorem evl_times (x k : Int) : ∀ a : List Int, ev x (times k a) = k * ev x a
  | [] => (Int.mul_zero k).symm
  | a :: l => by
    show k * a + x * ev x (times k l) = k * (a + x * ev x l)
    rw [evl_times x k l, Int.mul_add, Int.mul_left_comm]
theorem chain_at (a b : List Int) (n : Nat) : at_ (chain a b) n = ((List.range (n + 1)).map fun i => at_ a i * at_ b (n - i)).sum := by
  have zero : ∀ f : Nat → Int, (∀ i, f i = 0) → ((List.range (n + 1)).map f).sum = 0 := fun f hf => by
    have := sum_range_zero f 0 (n + 1) (by omega) fun i _ => hf i
    rw [this]
    rfl
  by_cases ha : a = []
  · subst ha
    rw [zero (fun i => at_ [] i * at_ b (n - i)) fun i => Int.zero_mul _]
    rfl
  by_cases hb : b = []
  · subst hb
    rw [zero (fun i => at_ a i * at_ [] (n - i)) fun i => Int.mul_zero _]
    unfold chain
    rw [if_pos (by simp)]
    rfl
  have hl := chain_len ha hb
  by_cases h : n < a.length + b.length - 1
  · unfold chain
    rw [if_neg (by simp [ha, hb]), at_range h]
  · rw [at_ge (by omega)]
    refine (zero _ fun i => ?_).symm
    by_cases hi : i < a.length
    · rw [at_ge (r := b) (by omega), Int.mul_zero]
    · rw [at_ge (r := a) (by omega), Int.zero_mul]
theorem chain_cons (a0 : Int) (a b : List Int) : Alk (chain (a0 :: a) b) (plus (times a0 b) (0 :: chain a b)) := fun n => by
  rw [chain_at, plus_at, times_at]
  rw [List.range_succ_eq_map, List.map_cons, List.sum_cons, List.map_map]
  show a0 * at_ b (n - 0) + _ = _
  rw [Nat.sub_zero]
  congr 1
  cases n with
  | zero => rfl
  | succ n =>
    show _ = at_ (chain a b) n
    rw [chain_at]
    congr 1
    refine List.map_congr_left fun i _ => ?_
    show at_ a i * at_ b (n + 1 - (i + 1)) = at_ a i * at_ b (n - i)
    rw [show n + 1 - (i + 1) = n - i by omega]
theorem evl_chain (x : Int) : ∀ a b : List Int, ev x (chain a b) = ev x a * ev x b
  | [], b => (Int.zero_mul _).symm
  | a0 :: a, b => by
    rw [evl_alk x (chain_cons a0 a b), evl_plus, evl_times]
    show a0 * ev x b + (0 + x * ev x (chain a b)) = (a0 + x * ev x a) * ev x b
    rw [evl_chain x a b, Int.zero_add, Int.add_mul, Int.mul_assoc]
theorem evl_none : ∀ {p : List Int}, (∀ x, x ≠ 0 → ev x p = 0) → ∀ i, at_ p i = 0
  | [], _, i => rfl
  | a :: l, h, i => by
    have ha : a = 0 := by
      have h1 := h ((a.natAbs : Int) + 1) (by omega)
      have h2 : a + ((a.natAbs : Int) + 1) * ev ((a.natAbs : Int) + 1) l = 0 := h1
      rcases Int.lt_trichotomy (ev ((a.natAbs : Int) + 1) l) 0 with q | q | q
      · have : ((a.natAbs : Int) + 1) * ev ((a.natAbs : Int) + 1) l ≤ ((a.natAbs : Int) + 1) * (-1) := Int.mul_le_mul_of_nonneg_left (by omega) (by omega)
        omega
      · rw [q, Int.mul_zero] at h2
        omega
      · have : ((a.natAbs : Int) + 1) * 1 ≤ ((a.natAbs : Int) + 1) * ev ((a.natAbs : Int) + 1) l := Int.mul_le_mul_of_nonneg_left (by omega) (by omega)
        omega
    cases i with
    | zero => exact ha
    | succ i =>
      refine evl_none (p := l) (fun x hx => ?_) i
      have h1 : a + x * ev x l = 0 := h x hx
      rw [ha, Int.zero_add] at h1
      exact (Int.mul_eq_zero.mp h1).resolve_left hx
theorem alk_of_ev {a b : List Int} (h : ∀ x, ev x a = ev x b) : Alk a b := fun i => by
  have := evl_none (p := plus a (times (-1) b)) (fun x _ => by rw [evl_plus, evl_times, h x]; omega) i
  rw [plus_at, times_at] at this
  omega

/-! ### the bands together, as the program takes them -/
def gainR (q : Q) : Rat := mkRat q.num q.den
/-- in lowest terms, within bounds -/
structure GainOk (q : Q) : Prop where
  low : oq (gainR q) = q
  num : q.num.natAbs ≤ 1000
  den : q.den ≤ 1000
structure BandOk (b : Band) : Prop where
  gain : GainOk b.gain
  up1 : 1 ≤ b.up.length
  up4 : b.up.length ≤ 4
  upN : ∀ x ∈ b.up, x.natAbs ≤ 100
  low1 : 1 ≤ b.low.length
  low3 : b.low.length ≤ 3
  lowN : ∀ x ∈ b.low, x.natAbs ≤ 100
  low0 : at_ b.low 0 ≠ 0
structure VolOk (v : Rat) : Prop where
  num : v.num.natAbs ≤ 1000
  den : v.den ≤ 1000
structure AidOk (s : Aid) : Prop where
  up1 : 1 ≤ s.leakUp.length
  up4 : s.leakUp.length ≤ 4
  upN : ∀ x ∈ s.leakUp, x.natAbs ≤ 100
  low1 : 1 ≤ s.leakLow.length
  low3 : s.leakLow.length ≤ 3
  lowN : ∀ x ∈ s.leakLow, x.natAbs ≤ 100
  low0 : at_ s.leakLow 0 ≠ 0
  three : s.bands.length = 3
  bands : ∀ b, some b ∈ s.bands → BandOk b
def gM (v : Rat) (b : Band) : Rat := gainR b.gain * v
def lowM (v : Rat) (b : Band) : List Int := times ((gM v b).den : Int) b.low
def pallM (l : List (List Int)) : List Int := l.foldl chain [1]
def othM (v : Rat) (bs : List Band) (k : Nat) : List Int := pallM ((bs.map (lowM v)).take k ++ (bs.map (lowM v)).drop (k + 1))
def noBandD : Band := ⟨⟨0, 1⟩, [], []⟩
def upM (v : Rat) (bs : List Band) : Nat → List Int
  | 0 => [0]
  | k + 1 => plus (upM v bs k) (chain (times (gM v (bs.getD k noBandD)).num (bs.getD k noBandD).up) (othM v bs k))
def ringM (s : Aid) (v : Rat) : List Int := plus (chain s.leakLow (pallM ((present s).map (lowM v)))) (times (-1) (chain s.leakUp (upM v (present s) (present s).length)))
def hearM (s : Aid) (v : Rat) : List Int := chain s.leakLow (upM v (present s) (present s).length)
/-! by values -/
def evL (x : Int) (l : List (List Int)) : Int := l.foldl (fun p r => p * ev x r) 1
theorem evL_acc (x : Int) : ∀ (l : List (List Int)) (c : Int), l.foldl (fun p r => p * ev x r) c = c * evL x l
  | [], c => (Int.mul_one c).symm
  | r :: l, c => by
    show l.foldl _ (c * ev x r) = c * l.foldl _ (1 * ev x r)
    rw [evL_acc x l, evL_acc x l (1 * ev x r), Int.one_mul, Int.mul_assoc]
theorem evL_cons (x : Int) (r : List Int) (l : List (List Int)) : evL x (r :: l) = ev x r * evL x l := by
  show l.foldl _ (1 * ev x r) = _
  rw [evL_acc, Int.one_mul]
theorem evL_append (x : Int) (l m : List (List Int)) : evL x (l ++ m) = evL x l * evL x m := by
  show (l ++ m).foldl _ 1 = _
  rw [List.foldl_append, evL_acc]
  rfl
theorem evl_pall (x : Int) (l : List (List Int)) : ev x (pallM l) = evL x l := by
  have key : ∀ (l : List (List Int)) (c : List Int), ev x (l.foldl chain c) = ev x c * evL x l := by
    intro l
    induction l with
    | nil =>
      intro c
      exact (Int.mul_one _).symm
    | cons r l ih =>
      intro c
      show ev x (l.foldl chain (chain c r)) = _
      rw [ih, evl_chain, evL_cons, Int.mul_assoc]
  unfold pallM
  rw [key]
  show (1 + x * 0) * _ = _
  rw [Int.mul_zero, Int.add_zero, Int.one_mul]
/-- the sum over the bands, some taken already -/
def sumM (x : Int) (v : Rat) (pre : List (List Int)) : List Band → Int
  | [] => 0
  | b :: l => (gM v b).num * ev x b.up * (evL x pre * evL x (l.map (lowM v))) + sumM x v (pre ++ [lowM v b]) l
theorem evl_upM (x : Int) (v : Rat) (bs : List Band) : ∀ (m k : Nat), k + m = bs.length → ev x (upM v bs k) + sumM x v ((bs.map (lowM v)).take k) (bs.drop k) = ev x (upM v bs bs.length)
  | 0, k, e => by
    have : k = bs.length := by omega
    subst this
    rw [List.drop_eq_nil_of_le (Nat.le_refl _)]
    exact Int.add_zero _
  | m + 1, k, e => by
    have hk : k < bs.length := by omega
    rw [← evl_upM x v bs m (k + 1) (by omega), List.drop_eq_getElem_cons hk]
    show _ + ((gM v bs[k]).num * ev x bs[k].up * (evL x _ * evL x _) + sumM x v _ _) = ev x (plus (upM v bs k) (chain (times (gM v (bs.getD k noBandD)).num (bs.getD k noBandD).up) (othM v bs k))) + _
    have hb : bs.getD k noBandD = bs[k] := by
      rw [List.getD_eq_getElem?_getD, List.getElem?_eq_getElem hk]
      rfl
    have ht : (bs.map (lowM v)).take (k + 1) = (bs.map (lowM v)).take k ++ [lowM v bs[k]] := by
      rw [List.take_succ_eq_append_getElem (by rw [List.length_map]; exact hk), List.getElem_map]
    rw [hb, evl_plus, evl_chain, evl_times, ht]
    unfold othM
    rw [evl_pall, evL_append, ← List.map_drop]
    omega
theorem sumM_spec (x : Int) (v : Rat) : ∀ (bs : List Band) (pre : List (List Int)), (∀ b ∈ bs, oq (gainR b.gain) = b.gain) → sumM x v pre bs = evL x pre * ev x (together (oq v) bs).1 ∧ evL x (bs.map (lowM v)) = ev x (together (oq v) bs).2
  | [], pre, _ => by
    refine ⟨?_, ?_⟩
    · show 0 = evL x pre * (0 + x * 0)
      rw [Int.mul_zero, Int.add_zero, Int.mul_zero]
    · show 1 = 1 + x * 0
      rw [Int.mul_zero, Int.add_zero]
  | b :: l, pre, h => by
    obtain ⟨h1, h2⟩ := sumM_spec x v l (pre ++ [lowM v b]) fun c hc => h c (List.mem_cons_of_mem _ hc)
    have hg : (oq v).mul b.gain = oq (gM v b) := by
      rw [← h b List.mem_cons_self, oq_mul]
      unfold gM
      rw [Rat.mul_comm]
    have e : together (oq v) (b :: l) = (plus (times (gM v b).num (chain b.up (together (oq v) l).2)) (times ((gM v b).den : Int) (chain (together (oq v) l).1 b.low)), times ((gM v b).den : Int) (chain b.low (together (oq v) l).2)) := by
      show (plus (times ((oq v).mul b.gain).num _) (times ((((oq v).mul b.gain).den : Nat) : Int) _), times ((((oq v).mul b.gain).den : Nat) : Int) _) = _
      rw [hg]
      rfl
    rw [e]
    have hlow : ev x (lowM v b) = ((gM v b).den : Int) * ev x b.low := evl_times x _ _
    refine ⟨?_, ?_⟩
    · show (gM v b).num * ev x b.up * (evL x pre * evL x (l.map (lowM v))) + sumM x v (pre ++ [lowM v b]) l = evL x pre * ev x (plus _ _)
      rw [h1, h2, evL_append, evL_cons, hlow, evl_plus, evl_times, evl_times, evl_chain, evl_chain]
      show _ + evL x pre * ((((gM v b).den : Int) * ev x b.low) * 1) * _ = _
      generalize evL x pre = p
      generalize ev x (together (oq v) l).2 = q
      generalize ev x (together (oq v) l).1 = r
      generalize ev x b.up = u
      generalize ev x b.low = w
      generalize (gM v b).num = n
      generalize ((gM v b).den : Int) = d
      grind
    · show evL x (lowM v b :: l.map (lowM v)) = ev x (times ((gM v b).den : Int) (chain b.low (together (oq v) l).2))
      rw [evL_cons, hlow, h2, evl_times, evl_chain, Int.mul_assoc]
theorem present_ok {s : Aid} (h : AidOk s) : ∀ b ∈ present s, BandOk b := fun b hb => by
  unfold present at hb
  obtain ⟨o, ho, e⟩ := List.mem_filterMap.mp hb
  have e : o = some b := e
  subst e
  exact h.bands b ho
theorem ring_alk {s : Aid} (h : AidOk s) (v : Rat) : Alk (ringM s v) (ringRow s (oq v)) := alk_of_ev fun x => by
  obtain ⟨h1, h2⟩ := sumM_spec x v (present s) [] fun b hb => (present_ok h b hb).gain.low
  have h3 := evl_upM x v (present s) (present s).length 0 (Nat.zero_add _)
  have h4 : ev x (upM v (present s) 0) = 0 := by
    show 0 + x * 0 = 0
    rw [Int.mul_zero]
    rfl
  rw [List.take_zero, List.drop_zero, h4, Int.zero_add, h1] at h3
  have h3 : 1 * ev x (together (oq v) (present s)).1 = _ := h3
  rw [Int.one_mul] at h3
  unfold ringM ringRow
  rw [evl_plus, evl_times, evl_chain, evl_chain, evl_pall, h2, ← h3, evl_plus, evl_times, evl_chain, evl_chain]
theorem hear_alk {s : Aid} (h : AidOk s) (v : Rat) : Alk (hearM s v) (upRow s (oq v)) := alk_of_ev fun x => by
  obtain ⟨h1, h2⟩ := sumM_spec x v (present s) [] fun b hb => (present_ok h b hb).gain.low
  have h3 := evl_upM x v (present s) (present s).length 0 (Nat.zero_add _)
  have h4 : ev x (upM v (present s) 0) = 0 := by
    show 0 + x * 0 = 0
    rw [Int.mul_zero]
    rfl
  rw [List.take_zero, List.drop_zero, h4, Int.zero_add, h1] at h3
  have h3 : 1 * ev x (together (oq v) (present s)).1 = _ := h3
  rw [Int.one_mul] at h3
  unfold hearM upRow
  rw [evl_chain, ← h3, evl_chain]
/-! ### lengths and sizes -/
theorem sum_bit {n : Nat} {f : Nat → Int} : ∀ k, (∀ i, i < k → (f i).natAbs < 2 ^ n) → ((List.range k).map f).sum.natAbs < 2 ^ (n + k)
  | 0, _ => by
    show 0 < _
    exact Nat.two_pow_pos _
  | k + 1, h => by
    rw [sum_range_succ]
    exact add_bit (n := n + k) (sum_bit k fun i hi => h i (by omega)) (bit_mono (h k (by omega)) (by omega))
theorem chain_bl {n m : Nat} {a b : List Int} (ha : bl n a) (hb : bl m b) : bl (n + m + a.length) (chain a b) := by
  by_cases ea : a = []
  · subst ea
    intro x hx
    cases hx
  by_cases eb : b = []
  · subst eb
    intro x hx
    unfold chain at hx
    rw [if_pos (by simp)] at hx
    cases hx
  intro x hx
  obtain ⟨i, hi, e⟩ := List.getElem_of_mem hx
  have e2 : x = at_ (chain a b) i := by rw [at_lt hi, e]
  rw [e2, chain_at]
  have h1 : ((List.range (i + 1)).map fun t => at_ a t * at_ b (i - t)).sum = ((List.range (min a.length (i + 1))).map fun t => at_ a t * at_ b (i - t)).sum := by
    rcases Nat.le_total a.length (i + 1) with q | q
    · rw [Nat.min_eq_left q]
      exact sum_range_zero _ _ _ q fun t ht => by rw [at_ge (r := a) ht, Int.zero_mul]
    · rw [Nat.min_eq_right q]
  rw [h1]
  exact bit_mono (sum_bit (n := n + m) _ fun t _ => mul_bit (bl_at ha t) (bl_at hb _)) (by omega)
theorem plus_bl {n : Nat} {a b : List Int} (ha : bl n a) (hb : bl n b) : bl (n + 1) (plus a b) := by
  intro x hx
  obtain ⟨i, _, e⟩ := List.mem_map.mp hx
  subst e
  exact add_bit (bl_at ha i) (bl_at hb i)
theorem times_bl {n m : Nat} {k : Int} {a : List Int} (hk : k.natAbs < 2 ^ m) (ha : bl n a) : bl (m + n) (times k a) := by
  intro x hx
  obtain ⟨y, hy, e⟩ := List.mem_map.mp hx
  subst e
  exact mul_bit hk (ha y hy)
theorem times_ne {k : Int} {a : List Int} (h : a ≠ []) : times k a ≠ [] := fun z => h (List.map_eq_nil_iff.mp z)
theorem hund {r : List Int} (h : ∀ x ∈ r, x.natAbs ≤ 100) : bl 7 r := fun x hx => Nat.lt_of_le_of_lt (h x hx) (by decide)
theorem pallM_ok : ∀ (l : List (List Int)) (c : List Int) (B L : Nat), bl B c → c ≠ [] → c.length ≤ L → (∀ r ∈ l, bl 27 r ∧ r ≠ [] ∧ r.length ≤ 3) →
    l.foldl chain c ≠ [] ∧ (l.foldl chain c).length ≤ L + 2 * l.length ∧ bl (B + l.length * (27 + L + 2 * l.length)) (l.foldl chain c)
  | [], c, B, L, h1, h2, h3, _ => ⟨h2, by simpa using h3, by simpa using h1⟩
  | r :: l, c, B, L, h1, h2, h3, h4 => by
    obtain ⟨r1, r2, r3⟩ := h4 r List.mem_cons_self
    have cl := chain_len h2 r2
    have rl := List.length_pos_iff.mpr r2
    obtain ⟨i1, i2, i3⟩ := pallM_ok l (chain c r) (B + 27 + L) (L + 2) (bl_mono (chain_bl h1 r1) (by omega)) (chain_ne h2 r2) (by omega) fun x hx => h4 x (List.mem_cons_of_mem _ hx)
    refine ⟨i1, ?_, bl_mono i3 ?_⟩
    · show (l.foldl chain (chain c r)).length ≤ L + 2 * (r :: l).length
      rw [List.length_cons]
      omega
    · rw [List.length_cons, Nat.add_mul]
      have e : 27 + (L + 2) + 2 * l.length = 27 + L + 2 * (l.length + 1) := by omega
      rw [e]
      omega
theorem gM_ok {v : Rat} (hv : VolOk v) {b : Band} (h : BandOk b) : (gM v b).num.natAbs ≤ 1000000 ∧ (gM v b).den ≤ 1000000 := by
  have g := h.gain
  have e1 : (gainR b.gain).num = b.gain.num := congrArg Q.num g.low
  have e2 : (gainR b.gain).den = b.gain.den := congrArg Q.den g.low
  have hM : ((b.gain.den : Int) * (v.den : Int)) ≠ 0 := by
    have h1 := (gainR b.gain).den_nz
    have h2 := v.den_nz
    rw [e2] at h1
    exact Int.mul_ne_zero (by omega) (by omega)
  have hx : gM v b = ((b.gain.num * v.num : Int) : Rat) / (((b.gain.den : Int) * (v.den : Int) : Int) : Rat) := by
    have := fr_mul (gainR b.gain) v
    rw [e1, e2] at this
    exact this.symm
  obtain ⟨q1, q2⟩ := q_size hM hx
  rw [Int.natAbs_mul] at q1 q2
  have a1 := Nat.mul_le_mul g.num hv.num
  have a2 := Nat.mul_le_mul g.den hv.den
  rw [Int.natAbs_natCast, Int.natAbs_natCast] at q2
  exact ⟨by omega, by omega⟩
theorem lowM_ok {v : Rat} (hv : VolOk v) {b : Band} (h : BandOk b) : bl 27 (lowM v b) ∧ lowM v b ≠ [] ∧ (lowM v b).length ≤ 3 := by
  obtain ⟨_, g2⟩ := gM_ok hv h
  refine ⟨times_bl (m := 20) (n := 7) ?_ (hund h.lowN), times_ne (List.length_pos_iff.mp h.low1), ?_⟩
  · rw [Int.natAbs_natCast]
    exact Nat.lt_of_le_of_lt g2 (by decide)
  · unfold lowM
    rw [times_len]
    exact h.low3
theorem sub_ok {v : Rat} (hv : VolOk v) {l : List (List Int)} {bs : List Band} (h : ∀ b ∈ bs, BandOk b) (hl : ∀ r ∈ l, r ∈ bs.map (lowM v)) : ∀ r ∈ l, bl 27 r ∧ r ≠ [] ∧ r.length ≤ 3 := fun r hr => by
  obtain ⟨b, hb, e⟩ := List.mem_map.mp (hl r hr)
  subst e
  exact lowM_ok hv (h b hb)
theorem one_ok : bl 1 [1] := fun x hx => by
  rw [List.mem_singleton.mp hx]
  decide
theorem present_len {s : Aid} (h : AidOk s) : (present s).length ≤ 3 := by
  unfold present
  have := List.length_filterMap_le (fun b : Option Band => b) s.bands
  rw [h.three] at this
  exact this
theorem oth_mem {v : Rat} {bs : List Band} {k : Nat} : ∀ r ∈ (bs.map (lowM v)).take k ++ (bs.map (lowM v)).drop (k + 1), r ∈ bs.map (lowM v) := fun r hr => by
  rcases List.mem_append.mp hr with q | q
  · exact List.mem_of_mem_take q
  · exact List.mem_of_mem_drop q
theorem oth_ok {v : Rat} (hv : VolOk v) {bs : List Band} (h : ∀ b ∈ bs, BandOk b) (h3 : bs.length ≤ 3) {k : Nat} (hk : k < bs.length) : othM v bs k ≠ [] ∧ (othM v bs k).length ≤ 5 ∧ bl 65 (othM v bs k) := by
  obtain ⟨i1, i2, i3⟩ := pallM_ok ((bs.map (lowM v)).take k ++ (bs.map (lowM v)).drop (k + 1)) [1] 1 1 one_ok (fun z => nomatch z) (Nat.le_refl _) (sub_ok hv h oth_mem)
  have hl : ((bs.map (lowM v)).take k ++ (bs.map (lowM v)).drop (k + 1)).length ≤ 2 := by
    rw [List.length_append, List.length_take, List.length_drop, List.length_map]
    omega
  refine ⟨i1, by unfold othM pallM; omega, bl_mono i3 ?_⟩
  have : ((bs.map (lowM v)).take k ++ (bs.map (lowM v)).drop (k + 1)).length * (27 + 1 + 2 * ((bs.map (lowM v)).take k ++ (bs.map (lowM v)).drop (k + 1)).length) ≤ 2 * (27 + 1 + 2 * 2) := Nat.mul_le_mul hl (by omega)
  omega
theorem all_ok {v : Rat} (hv : VolOk v) {bs : List Band} (h : ∀ b ∈ bs, BandOk b) (h3 : bs.length ≤ 3) : pallM (bs.map (lowM v)) ≠ [] ∧ (pallM (bs.map (lowM v))).length ≤ 7 ∧ bl 103 (pallM (bs.map (lowM v))) := by
  obtain ⟨i1, i2, i3⟩ := pallM_ok (bs.map (lowM v)) [1] 1 1 one_ok (fun z => nomatch z) (Nat.le_refl _) (sub_ok hv h fun r hr => hr)
  rw [List.length_map] at i2 i3
  refine ⟨i1, by unfold pallM; omega, bl_mono i3 ?_⟩
  have : bs.length * (27 + 1 + 2 * bs.length) ≤ 3 * (27 + 1 + 2 * 3) := Nat.mul_le_mul h3 (by omega)
  omega
theorem band_get {bs : List Band} (h : ∀ b ∈ bs, BandOk b) {k : Nat} (hk : k < bs.length) : bs.getD k noBandD = bs[k] ∧ BandOk bs[k] := by
  refine ⟨?_, h _ (List.getElem_mem hk)⟩
  rw [List.getD_eq_getElem?_getD, List.getElem?_eq_getElem hk]
  rfl
theorem term_ok {v : Rat} (hv : VolOk v) {bs : List Band} (h : ∀ b ∈ bs, BandOk b) (h3 : bs.length ≤ 3) {k : Nat} (hk : k < bs.length) :
    bl 27 (times (gM v bs[k]).num bs[k].up) ∧ times (gM v bs[k]).num bs[k].up ≠ [] ∧ (times (gM v bs[k]).num bs[k].up).length ≤ 4 ∧ bl 96 (chain (times (gM v bs[k]).num bs[k].up) (othM v bs k)) ∧ (chain (times (gM v bs[k]).num bs[k].up) (othM v bs k)).length ≤ 8 := by
  obtain ⟨_, hb⟩ := band_get h hk
  obtain ⟨o1, o2, o3⟩ := oth_ok hv h h3 hk
  obtain ⟨g1, _⟩ := gM_ok hv hb
  have t1 : bl 27 (times (gM v bs[k]).num bs[k].up) := times_bl (m := 20) (n := 7) (Nat.lt_of_le_of_lt g1 (by decide)) (hund hb.upN)
  have t2 : times (gM v bs[k]).num bs[k].up ≠ [] := times_ne (List.length_pos_iff.mp hb.up1)
  have t3 : (times (gM v bs[k]).num bs[k].up).length ≤ 4 := by
    rw [times_len]
    exact hb.up4
  refine ⟨t1, t2, t3, bl_mono (chain_bl t1 o3) (by omega), ?_⟩
  rw [chain_len t2 o1]
  omega
theorem upM_ok {v : Rat} (hv : VolOk v) {bs : List Band} (h : ∀ b ∈ bs, BandOk b) (h3 : bs.length ≤ 3) : ∀ k, k ≤ bs.length → upM v bs k ≠ [] ∧ (upM v bs k).length ≤ 8 ∧ bl (96 + k) (upM v bs k)
  | 0, _ => by
    refine ⟨(fun z => nomatch z), (by show 1 ≤ 8; decide), fun x hx => ?_⟩
    rw [List.mem_singleton.mp hx]
    exact Nat.two_pow_pos _
  | k + 1, hk => by
    obtain ⟨i1, i2, i3⟩ := upM_ok hv h h3 k (by omega)
    obtain ⟨e, _⟩ := band_get h (k := k) (by omega)
    obtain ⟨_, _, _, t4, t5⟩ := term_ok hv h h3 (k := k) (by omega)
    unfold upM
    rw [e]
    refine ⟨fun z => ?_, ?_, plus_bl (n := 96 + k) i3 (bl_mono t4 (by omega))⟩
    · have h1 := plus_len (upM v bs k) (chain (times (gM v bs[k]).num bs[k].up) (othM v bs k))
      rw [z] at h1
      have h2 := List.length_pos_iff.mpr i1
      simp only [List.length_nil] at h1
      omega
    · rw [plus_len]
      omega
theorem ring_ok {s : Aid} (h : AidOk s) {v : Rat} (hv : VolOk v) : ringM s v ≠ [] ∧ (ringM s v).length ≤ 11 ∧ bl 120 (ringM s v) := by
  have p3 := present_len h
  have pb := present_ok h
  obtain ⟨a1, a2, a3⟩ := all_ok hv pb p3
  obtain ⟨u1, u2, u3⟩ := upM_ok hv pb p3 _ (Nat.le_refl _)
  have l1 : s.leakLow ≠ [] := List.length_pos_iff.mp h.low1
  have l2 : s.leakUp ≠ [] := List.length_pos_iff.mp h.up1
  have c1 := chain_bl (hund h.lowN) a3
  have c2 := chain_bl (hund h.upN) u3
  have c3 := times_bl (m := 1) (k := -1) (by decide) c2
  have n1 := chain_len l1 a1
  have n2 := chain_len l2 u1
  have b1 := h.low3
  have b2 := h.up4
  have b3 := h.low1
  have a4 := List.length_pos_iff.mpr a1
  unfold ringM
  refine ⟨fun z => ?_, ?_, bl_mono (plus_bl (n := 119) (bl_mono c1 (by omega)) (bl_mono c3 (by omega))) (by omega)⟩
  · have h1 := plus_len (chain s.leakLow (pallM ((present s).map (lowM v)))) (times (-1) (chain s.leakUp (upM v (present s) (present s).length)))
    rw [z] at h1
    simp only [List.length_nil] at h1
    omega
  · rw [plus_len, times_len]
    omega
theorem hear_ok {s : Aid} (h : AidOk s) {v : Rat} (hv : VolOk v) : hearM s v ≠ [] ∧ (hearM s v).length ≤ 10 ∧ bl 120 (hearM s v) := by
  have p3 := present_len h
  have pb := present_ok h
  obtain ⟨u1, u2, u3⟩ := upM_ok hv pb p3 _ (Nat.le_refl _)
  have l1 : s.leakLow ≠ [] := List.length_pos_iff.mp h.low1
  have c1 := chain_bl (hund h.lowN) u3
  have n1 := chain_len l1 u1
  have b1 := h.low3
  have b3 := h.low1
  have a4 := List.length_pos_iff.mpr u1
  unfold hearM
  exact ⟨chain_ne l1 u1, by omega, bl_mono c1 (by omega)⟩
theorem vol_one : VolOk 1 := ⟨by decide, by decide⟩
end Qa

set_option Elab.async false
set_option linter.all false
set_option maxRecDepth 100000
set_option maxHeartbeats 4000000
namespace Qa
open PySem PySem.Spec PyProof.Rows L2
section
variable {P : Program} {w : World} {K : PySem.W.Frag} {mg : Str → Option Value} {base : Heap}
theorem spf_len {pre : List D → D → Prop} {n : Nat} (hp : ∀ ds d, pre ds d → ds.length = n) {vs : List V} {H : Hp} {Q : VK} {E : XK} (h : SpF K pre vs H Q E) : vs.length = n := by
  obtain ⟨G, ds, d, _, hr, p, _⟩ := h
  rw [hr.len, hp ds d p]
theorem spn_len {pre : List D → List D → Prop} {n : Nat} (hp : ∀ ds d, pre ds d → ds.length = n) {vs : List V} {H : Hp} {Q : VK} {E : XK} (h : SpN K pre vs H Q E) : vs.length = n := by
  obtain ⟨G, ds, d, _, hr, p, _⟩ := h
  rw [hr.len, hp ds d p]
theorem spx_len {CR : Addr} {pre : List D → Except Int D → Prop} {n : Nat} (hp : ∀ ds d, pre ds d → ds.length = n) {vs : List V} {H : Hp} {Q : VK} {E : XK} (h : SpX K CR pre vs H Q E) : vs.length = n := by
  obtain ⟨G, ds, d, _, hr, p, _⟩ := h
  rw [hr.len, hp ds d p]

/-! ### common -/
def preCommon : List D → D → Prop := fun ds d => ∃ a b : Int, ds = [.int a, .int b] ∧ d = .int (Nat.gcd a.natAbs b.natAbs : Int)
theorem sc_common : FnScope ["one", "other"] ["one", "other"] (defScope s_common) := ⟨rfl, rfl, rfl, by decide +kernel, rfl, by decide +kernel, by decide +kernel⟩
theorem ok_common (T : Txt K mg) : FnOk P w K mg base CX0 1 T.common.f T.common.fd ["one", "other"] (SpF K preCommon) := by
  refine T.common.F.ok sc_common (fun vs H Q E h => ?_) (fun cdv A outer s H vs Q E hr h => ⟨_, (pss_cons (ps_set (i := 0) sc_common.nd rfl (by first | exact Or.inl rfl | exact Or.inr rfl) (pe_callB call_abs rfl T.b_abs (by decide +kernel) (pa_cons (pv 0) pa_nil)))
      (pss_cons (ps_set (i := 1) sc_common.nd rfl (by first | exact Or.inl rfl | exact Or.inr rfl) (pe_callB call_abs rfl T.b_abs (by decide +kernel) (pa_cons (pv 1) pa_nil)))
      (pss_cons (ps_while PassesOwn.never (pt_cmpR op_gt (pv 1) pe_int (nomark _)) (pss_one (ps_par (i := 0) (j := 1) rfl sc_common.nd rfl rfl (by decide) rfl rfl (pa_cons (pv 1) (pa_cons (pe_op op_mod (pv 0) (pv 1)) pa_nil)) (by rfl))))
      (pss_one (ps_ret (pv 0)))))), ?_⟩)
  · exact spf_len (fun ds d ⟨a, b, e, _⟩ => by rw [e] <;> rfl) h
  · obtain ⟨G, ds, d, hG, hR, ⟨a, b, rfl, rfl⟩, k⟩ := h
    refine Run.go 0 hG hR rfl ?_
    refine r_seq (r_asg (ev_abs (ev_var rfl)) ?_)
    refine r_seq (r_asg (ev_abs (ev_var rfl)) ?_)
    refine r_seq (r_while (S := Nat × Nat) (fun x => [.fz (.int (x.1 : Int)), .fz (.int (x.2 : Int))]) (fun x => x.2) (a.natAbs, b.natAbs) (fun x => Nat.gcd x.1 x.2 = Nat.gcd a.natAbs b.natAbs) rfl (GLe.refl _) ?_)
    rintro ⟨x, y⟩ hx
    refine ⟨_, et_test (ev_gt (ev_var rfl) ev_int), fun hb => ?_, fun hb => ?_⟩
    · have hy : 0 < y := by
        have := of_decide_eq_true hb
        omega
      refine ⟨(y, x % y), ?_, Nat.mod_lt _ hy, ?_⟩
      · show Nat.gcd y (x % y) = _
        rw [← hx, Nat.gcd_comm x y, Nat.gcd_rec y x, Nat.gcd_comm]
      · refine r_par (ea_2 (ev_var rfl) (ev_mod (ev_var rfl) (ev_var rfl) (show (0 : Int) < (y : Int) by omega))) (r_at ?_)
        exact ⟨.inr rfl, .inr rfl, trivial⟩
    · have hy : y = 0 := by
        have := of_decide_eq_false hb
        omega
      subst hy
      refine r_ret (ev_var rfl) fun v G H g r => k v G H g ?_
      have e : x = Nat.gcd a.natAbs b.natAbs := by
        rw [← hx]
        exact (Nat.gcd_zero_right x).symm
      rw [← e]
      exact r

/-! ### fractions -/
/-- a fraction, as a pair -/
def qD (x : Rat) : D := .tup [.int x.num, .int (x.den : Int)]
def preFrac : List D → D → Prop := fun ds d => ∃ a b : Int, b ≠ 0 ∧ ds = [.int a, .int b] ∧ d = qD ((a : Rat) / (b : Rat))
theorem sc_fraction : FnScope ["top", "bottom", "by"] ["top", "bottom"] (defScope s_fraction) := ⟨rfl, rfl, rfl, by decide +kernel, rfl, by decide +kernel, by decide +kernel⟩
theorem ok_fraction (T : Txt K mg) (S : SeerB P base) : FnOk P w K mg base CX0 40 T.fraction.f T.fraction.fd ["top", "bottom"] (SpF K preFrac) := by
  refine T.fraction.F.ok sc_fraction (fun vs H Q E h => ?_) (fun cdv A outer s H vs Q E hr h => ⟨_, (pss_cons (ps_set (i := 2) sc_fraction.nd rfl (by first | exact Or.inl rfl | exact Or.inr rfl) (pe_own T.common (ok_common T) hr (pa_cons (pv 0) (pa_cons (pv 1) pa_nil)) pass0))
      (pss_cons (ps_if (pt_cmpR op_lt (pv 1) pe_int (nomark _)) (pss_one (ps_set (i := 2) sc_fraction.nd rfl (by first | exact Or.inl rfl | exact Or.inr rfl) (pe_un un_neg (pv 2)))) pss_nil)
      (pss_one (ps_ret (pe_tup (pa_cons (pe_op (op_fdivP (sk S) hr) (pv 0) (pv 2)) (pa_cons (pe_op (op_fdivP (sk S) hr) (pv 1) (pv 2)) pa_nil))))))), ?_⟩)
  · exact spf_len (fun ds d ⟨a, b, _, e, _⟩ => by rw [e] <;> rfl) h
  · obtain ⟨G, ds, d, hG, hR, ⟨a, b, hb0, rfl, rfl⟩, k⟩ := h
    refine Run.go 1 hG hR rfl ?_
    refine r_seq (r_asg (ev_call (ea_2 (ev_var rfl) (ev_var rfl)) ⟨a, b, rfl, rfl⟩) ?_)
    refine r_seq ?_
    have fin : Run K G H [.fz (.int a), .fz (.int b), .fz (.int (byOf a b))] (tRet (tTup (tCons (tOp (rI (fun _ j => j ≠ 0) fun i j => V.int (i.fdiv j)) (tVar 0) (tVar 2)) (tCons (tOp (rI (fun _ j => j ≠ 0) fun i j => V.int (i.fdiv j)) (tVar 1) (tVar 2)) tNil))) { nx := fun x H' => Q V.non H', rt := Q }) := by
      refine r_ret (ev_tup (ea_2 (ev_fdiv (ev_var rfl) (ev_var rfl) (byOf_ne hb0)) (ev_fdiv (ev_var rfl) (ev_var rfl) (byOf_ne hb0))) (show 2 ≤ sizeLine by decide)) fun v G H g r => k v G H g ?_
      rw [fr_num hb0, fr_den hb0] at r
      exact r
    refine r_if (et_test (ev_lt (ev_var rfl) ev_int)) (fun hb => ?_) (fun hb => ?_)
    · refine r_asg (ev_neg (ev_var rfl)) ?_
      have e : byOf a b = -(Nat.gcd a.natAbs b.natAbs : Int) := if_pos (of_decide_eq_true hb)
      rw [e] at fin
      exact fin
    · refine r_next ?_
      have e : byOf a b = (Nat.gcd a.natAbs b.natAbs : Int) := if_neg (of_decide_eq_false hb)
      rw [e] at fin
      exact fin
/-! ### the four -/
def pre2q (f : Rat → Rat → Rat) : List D → D → Prop := fun ds d => ∃ x y : Rat, smq x ∧ smq y ∧ ds = [qD x, qD y] ∧ d = qD (f x y)
def preOver : List D → D → Prop := fun ds d => ∃ x y : Rat, smq x ∧ smq y ∧ y ≠ 0 ∧ ds = [qD x, qD y] ∧ d = qD (x / y)
theorem ev_top {G0 H0 : Hp} {Γ : List Ent} {n : Nat} {x : Rat} (h : Γ[n]? = some (.fz (qD x))) : Evd K G0 H0 Γ (tOp (rIxT K) (tVar n) (tC (.int 0))) (.int x.num) := ev_ixT (k := 0) (ev_var h) ev_int rfl rfl
theorem ev_bot {G0 H0 : Hp} {Γ : List Ent} {n : Nat} {x : Rat} (h : Γ[n]? = some (.fz (qD x))) : Evd K G0 H0 Γ (tOp (rIxT K) (tVar n) (tC (.int 1))) (.int (x.den : Int)) := ev_ixT (k := 1) (ev_var h) ev_int rfl rfl
theorem den_mul_ne (x y : Rat) : (x.den : Int) * (y.den : Int) ≠ 0 := by
  have h1 := x.den_nz
  have h2 := y.den_nz
  exact Int.mul_ne_zero (by omega) (by omega)
theorem pre2_len {f : Rat → Rat → Rat} (ds : List D) (d : D) (h : pre2q f ds d) : ds.length = 2 := by
  obtain ⟨x, y, _, _, e, _⟩ := h
  rw [e] <;> rfl
theorem sc_plus : FnScope ["one", "other"] ["one", "other"] (defScope s_plus) := ⟨rfl, rfl, rfl, by decide +kernel, rfl, by decide +kernel, by decide +kernel⟩
theorem ok_plus (T : Txt K mg) (S : SeerB P base) : FnOk P w K mg base CX0 41 T.plus.f T.plus.fd ["one", "other"] (SpF K (pre2q fun x y => x + y)) := by
  refine T.plus.F.ok sc_plus (fun vs H Q E h => ?_) (fun cdv A outer s H vs Q E hr h => ⟨_, (pss_one (ps_ret (pe_own T.fraction (ok_fraction T S) hr (pa_cons (pe_op op_add (pe_op op_mulB (pe_ix (ix_tupk K) (pv 0) pe_int (fun _ _ => rfl)) (pe_ix (ix_tupk K) (pv 1) pe_int (fun _ _ => rfl))) (pe_op op_mulB (pe_ix (ix_tupk K) (pv 1) pe_int (fun _ _ => rfl)) (pe_ix (ix_tupk K) (pv 0) pe_int (fun _ _ => rfl)))) (pa_cons (pe_op op_mulB (pe_ix (ix_tupk K) (pv 0) pe_int (fun _ _ => rfl)) (pe_ix (ix_tupk K) (pv 1) pe_int (fun _ _ => rfl))) pa_nil)) pass0))), ?_⟩)
  · exact spf_len pre2_len h
  · obtain ⟨G, ds, d, hG, hR, ⟨x, y, hx, hy, rfl, rfl⟩, k⟩ := h
    refine Run.go 0 hG hR rfl ?_
    refine r_ret (ev_call (ea_2 (ev_add (ev_mul (ev_top rfl) (ev_bot rfl) ⟨hx.1, hy.2⟩) (ev_mul (ev_top rfl) (ev_bot rfl) ⟨hy.1, hx.2⟩)) (ev_mul (ev_bot rfl) (ev_bot rfl) ⟨hx.2, hy.2⟩)) ⟨_, _, den_mul_ne x y, rfl, rfl⟩) fun v G H g r => k v G H g ?_
    rw [fr_add] at r
    exact r
theorem sc_less : FnScope ["one", "other"] ["one", "other"] (defScope s_less) := ⟨rfl, rfl, rfl, by decide +kernel, rfl, by decide +kernel, by decide +kernel⟩
theorem ok_less (T : Txt K mg) (S : SeerB P base) : FnOk P w K mg base CX0 41 T.less.f T.less.fd ["one", "other"] (SpF K (pre2q fun x y => x - y)) := by
  refine T.less.F.ok sc_less (fun vs H Q E h => ?_) (fun cdv A outer s H vs Q E hr h => ⟨_, (pss_one (ps_ret (pe_own T.fraction (ok_fraction T S) hr (pa_cons (pe_op op_sub (pe_op op_mulB (pe_ix (ix_tupk K) (pv 0) pe_int (fun _ _ => rfl)) (pe_ix (ix_tupk K) (pv 1) pe_int (fun _ _ => rfl))) (pe_op op_mulB (pe_ix (ix_tupk K) (pv 1) pe_int (fun _ _ => rfl)) (pe_ix (ix_tupk K) (pv 0) pe_int (fun _ _ => rfl)))) (pa_cons (pe_op op_mulB (pe_ix (ix_tupk K) (pv 0) pe_int (fun _ _ => rfl)) (pe_ix (ix_tupk K) (pv 1) pe_int (fun _ _ => rfl))) pa_nil)) pass0))), ?_⟩)
  · exact spf_len pre2_len h
  · obtain ⟨G, ds, d, hG, hR, ⟨x, y, hx, hy, rfl, rfl⟩, k⟩ := h
    refine Run.go 0 hG hR rfl ?_
    refine r_ret (ev_call (ea_2 (ev_sub (ev_mul (ev_top rfl) (ev_bot rfl) ⟨hx.1, hy.2⟩) (ev_mul (ev_top rfl) (ev_bot rfl) ⟨hy.1, hx.2⟩)) (ev_mul (ev_bot rfl) (ev_bot rfl) ⟨hx.2, hy.2⟩)) ⟨_, _, den_mul_ne x y, rfl, rfl⟩) fun v G H g r => k v G H g ?_
    rw [fr_sub] at r
    exact r
theorem sc_times : FnScope ["one", "other"] ["one", "other"] (defScope s_times) := ⟨rfl, rfl, rfl, by decide +kernel, rfl, by decide +kernel, by decide +kernel⟩
theorem ok_times (T : Txt K mg) (S : SeerB P base) : FnOk P w K mg base CX0 41 T.times.f T.times.fd ["one", "other"] (SpF K (pre2q fun x y => x * y)) := by
  refine T.times.F.ok sc_times (fun vs H Q E h => ?_) (fun cdv A outer s H vs Q E hr h => ⟨_, (pss_one (ps_ret (pe_own T.fraction (ok_fraction T S) hr (pa_cons (pe_op op_mulB (pe_ix (ix_tupk K) (pv 0) pe_int (fun _ _ => rfl)) (pe_ix (ix_tupk K) (pv 1) pe_int (fun _ _ => rfl))) (pa_cons (pe_op op_mulB (pe_ix (ix_tupk K) (pv 0) pe_int (fun _ _ => rfl)) (pe_ix (ix_tupk K) (pv 1) pe_int (fun _ _ => rfl))) pa_nil)) pass0))), ?_⟩)
  · exact spf_len pre2_len h
  · obtain ⟨G, ds, d, hG, hR, ⟨x, y, hx, hy, rfl, rfl⟩, k⟩ := h
    refine Run.go 0 hG hR rfl ?_
    refine r_ret (ev_call (ea_2 (ev_mul (ev_top rfl) (ev_top rfl) ⟨hx.1, hy.1⟩) (ev_mul (ev_bot rfl) (ev_bot rfl) ⟨hx.2, hy.2⟩)) ⟨_, _, den_mul_ne x y, rfl, rfl⟩) fun v G H g r => k v G H g ?_
    rw [fr_mul] at r
    exact r
theorem sc_over : FnScope ["one", "other"] ["one", "other"] (defScope s_over) := ⟨rfl, rfl, rfl, by decide +kernel, rfl, by decide +kernel, by decide +kernel⟩
theorem ok_over (T : Txt K mg) (S : SeerB P base) : FnOk P w K mg base CX0 41 T.over.f T.over.fd ["one", "other"] (SpF K preOver) := by
  refine T.over.F.ok sc_over (fun vs H Q E h => ?_) (fun cdv A outer s H vs Q E hr h => ⟨_, (pss_one (ps_ret (pe_own T.fraction (ok_fraction T S) hr (pa_cons (pe_op op_mulB (pe_ix (ix_tupk K) (pv 0) pe_int (fun _ _ => rfl)) (pe_ix (ix_tupk K) (pv 1) pe_int (fun _ _ => rfl))) (pa_cons (pe_op op_mulB (pe_ix (ix_tupk K) (pv 0) pe_int (fun _ _ => rfl)) (pe_ix (ix_tupk K) (pv 1) pe_int (fun _ _ => rfl))) pa_nil)) pass0))), ?_⟩)
  · exact spf_len (fun ds d ⟨x, y, _, _, _, e, _⟩ => by rw [e] <;> rfl) h
  · obtain ⟨G, ds, d, hG, hR, ⟨x, y, hx, hy, h0, rfl, rfl⟩, k⟩ := h
    refine Run.go 0 hG hR rfl ?_
    have hn : (x.den : Int) * y.num ≠ 0 := Int.mul_ne_zero (by have := x.den_nz; omega) (fun z => h0 (by rw [← num_den y, z, Rat.div_def]; show (0 : Rat) * _ = 0; rw [Rat.zero_mul]))
    refine r_ret (ev_call (ea_2 (ev_mul (ev_top rfl) (ev_bot rfl) ⟨hx.1, hy.2⟩) (ev_mul (ev_bot rfl) (ev_top rfl) ⟨hx.2, hy.1⟩)) ⟨_, _, hn, rfl, rfl⟩) fun v G H g r => k v G H g ?_
    rw [fr_div h0] at r
    exact r
end
end Qa

set_option Elab.async false
set_option linter.all false
set_option maxRecDepth 100000
set_option maxHeartbeats 4000000
namespace Qa
open PySem PySem.Spec PyProof.Rows L2
open Vbhlae (at_ trim common chain)
section
variable {P : Program} {w : World} {K : PySem.W.Frag} {mg : Str → Option Value} {base : Heap}
theorem map_int_at {r : List Int} {i : Nat} (h : i < r.length) : (r.map D.int)[i]? = some (.int (at_ r i)) := by
  rw [List.getElem?_map, List.getElem?_eq_getElem h, at_lt h]
  rfl
theorem map_int_end {r : List Int} (h : r ≠ []) : (r.map D.int)[(r.map D.int).length - 1]? = some (.int (at_ r (r.length - 1))) := by
  have := List.length_pos_iff.mpr h
  rw [List.length_map]
  exact map_int_at (by omega)
theorem sl_of {n : Nat} (h : n ≤ 1000000) : n ≤ sizeLine := Nat.le_trans h (by decide)
theorem sl_lt {n : Nat} (h : n ≤ 1000000) : n < sizeLine := Nat.lt_of_le_of_lt h (by decide)
def smr (r : List Int) : Prop := ∀ x ∈ r, sm x
theorem sm_zero : sm 0 := Nat.two_pow_pos _
theorem smr_at {r : List Int} (h : smr r) (i : Nat) : sm (at_ r i) := at_all h sm_zero i
/-- one row in -/
theorem pre1_len {f : List Int → Prop} {g : List Int → List Int} (ds l : List D) (h : ∃ r, f r ∧ ds = [rowD r] ∧ l = (g r).map D.int) : ds.length = 1 := by
  obtain ⟨r, _, e, _⟩ := h
  rw [e] <;> rfl

/-! ### trimmed -/
def preTrim : List D → List D → Prop := fun ds l => ∃ r : List Int, True ∧ ds = [rowD r] ∧ l = (trim r).map D.int
theorem sc_trimmed : FnScope ["row", "found"] ["row"] (defScope s_trimmed) := ⟨rfl, rfl, rfl, by decide +kernel, rfl, by decide +kernel, by decide +kernel⟩
theorem ok_trimmed (T : Txt K mg) : FnOk P w K mg base CX0 1 T.trimmed.f T.trimmed.fd ["row"] (SpN K preTrim) := by
  refine T.trimmed.F.ok sc_trimmed (fun vs H Q E h => ?_) (fun cdv A outer s H vs Q E hr h => ⟨_, (pss_cons (ps_set (i := 1) sc_trimmed.nd rfl (by first | exact Or.inl rfl | exact Or.inr rfl) (pe_callTy (call_listk K) rfl T.b_list (by decide +kernel) (pa_cons (pv 0) pa_nil)))
      (pss_cons (ps_while PassesOwn.never (PW.pt (pw_and (pt_cmpR (op_neDk K hr.units) (pv 1) (pe_lst pa_nil) (nomark _)) (pw_and1 (pt_cmpR op_eq (pe_ix (ix_listk K) (pv 1) (pe_un un_neg pe_int) (fun _ _ => rfl)) pe_int (nomark _))))) (pss_one (ps_expr (pe_bm0 PySem.F.plainAttrs_list PySem.F.slot_list_pop PySem.F.type_list_pop mt_pop (pv 1)))))
      (pss_one (ps_ret (pv 1))))), ?_⟩)
  · exact spn_len pre1_len h
  · obtain ⟨G, ds, l, hG, hR, ⟨r, _, rfl, rfl⟩, k⟩ := h
    refine Run.go 1 hG hR rfl ?_
    refine r_seq (r_asgN (en_listL (ev_var rfl)) ?_)
    refine r_seq (r_while (S := List Int) (fun f => [.fz (rowD r), .ow (f.map D.int)]) (fun f => f.length) r (fun f => trim f = trim r) rfl (GLe.refl _) ?_)
    intro f hf
    refine ⟨_, et_and (et_test (ev_neO (ns := f) rfl (en_lst ea_nil (Nat.zero_le _)).dd)) (fun hb => et_test (ev_eq (ev_ixOE rfl (ev_neg ev_int) (map_int_end (by simpa using hb))) ev_int)), fun hb => ?_, fun hb => ?_⟩
    · rw [Bool.and_eq_true] at hb
      have h1 : f ≠ [] := by simpa using hb.1
      have h2 : at_ f (f.length - 1) = 0 := of_decide_eq_true hb.2
      refine ⟨f.dropLast, ?_, ?_, ?_⟩
      · rw [trim_drop h1 h2]
        exact hf
      · show f.dropLast.length < f.length
        have := List.length_pos_iff.mpr h1
        rw [List.length_dropLast]
        omega
      · refine r_pop rfl rfl (by simpa using h1) (r_at ⟨.inr rfl, .inr ?_, trivial⟩)
        rw [List.map_dropLast]
    · have h1 : f = [] ∨ at_ f (f.length - 1) ≠ 0 := by
        by_cases z : f = []
        · exact .inl z
        · refine .inr fun q => ?_
          rw [decide_eq_false z, decide_eq_true q] at hb
          cases hb
      have e : f = trim r := by
        rw [← hf]
        exact (trim_done h1).symm
      subst e
      exact r_retO rfl k

/-! ### padded -/
def prePad : List D → List D → Prop := fun ds l => ∃ (r : List Int) (n : Nat), r.length ≤ 1000000 ∧ n ≤ 1000000 ∧ r.length + n ≤ 1000000 ∧ ds = [rowD r, .int (n : Int)] ∧ l = (padTo r n).map D.int
theorem sc_padded : FnScope ["row", "size"] ["row", "size"] (defScope s_padded) := ⟨rfl, rfl, rfl, by decide +kernel, rfl, by decide +kernel, by decide +kernel⟩
theorem ok_padded (T : Txt K mg) : FnOk P w K mg base CX0 1 T.padded.f T.padded.fd ["row", "size"] (SpN K prePad) := by
  refine T.padded.F.ok sc_padded (fun vs H Q E h => ?_) (fun cdv A outer s H vs Q E hr h => ⟨_, (pss_one (ps_ret (pe_op op_cat (pe_callTy (call_listk K) rfl T.b_list (by decide +kernel) (pa_cons (pv 0) pa_nil)) (pe_op op_rep (pe_lst (pa_cons pe_int pa_nil)) (pe_callB (call_max2 rfl) rfl T.b_max (by decide +kernel) (pa_cons pe_int (pa_cons (pe_op op_sub (pv 1) (pe_callB (call_lenk K) rfl T.b_len PySem.boot_len (pa_cons (pv 0) pa_nil))) pa_nil))))))), ?_⟩)
  · exact spn_len (fun ds d ⟨r, n, _, _, _, e, _⟩ => by rw [e] <;> rfl) h
  · obtain ⟨G, ds, l, hG, hR, ⟨r, n, h1, h2, h3, rfl, rfl⟩, k⟩ := h
    refine Run.go 0 hG hR rfl ?_
    have e : (max 0 ((n : Int) - ((r.map D.int).length : Int))).toNat = n - r.length := by
      rw [List.length_map]
      omega
    have l1 : (1000000 : Int) ≤ (sizeLine : Int) := by decide
    refine r_retN (EvN.cast (en_cat (en_listL (ev_var rfl)).dd (en_rep (d := .int 0) (en_lst (ea_1 ev_int) (sl_of (by decide))).dd (ev_max ev_int (ev_sub (ev_var rfl) (ev_len (ev_var rfl)))) (by omega) (by rw [List.length_map]; omega)).dd (sl_of ?_)) ?_) k
    · rw [List.length_replicate, e, List.length_map]
      omega
    · rw [e]
      unfold padTo
      rw [List.map_append, List.map_replicate]

/-! ### product -/
def preProd : List D → List D → Prop := fun ds l => ∃ a b : List Int, a ≠ [] ∧ b ≠ [] ∧ a.length ≤ 100000 ∧ b.length ≤ 100000 ∧ smr a ∧ smr b ∧ ds = [rowD a, rowD b] ∧ l = (chain a b).map D.int
theorem numD_ints {r : List Int} {i : Nat} {es : List D} (h : (numD (r.map D.int))[i]? = some es) : i < r.length ∧ es = [.int (i : Int), .int (at_ r i)] := by
  obtain ⟨d, hd, e⟩ := numD_at h
  have hi : i < r.length := by
    have := (List.getElem?_eq_some_iff.mp hd).1
    rwa [List.length_map] at this
  rw [map_int_at hi] at hd
  cases hd
  exact ⟨hi, e⟩
theorem sc_product : FnScope ["one", "other", "found", "i", "a", "j", "b"] ["one", "other"] (defScope s_product) := ⟨rfl, rfl, rfl, by decide +kernel, rfl, by decide +kernel, by decide +kernel⟩
theorem ok_product (T : Txt K mg) : FnOk P w K mg base CX0 1 T.product.f T.product.fd ["one", "other"] (SpN K preProd) := by
  refine T.product.F.ok sc_product (fun vs H Q E h => ?_) (fun cdv A outer s H vs Q E hr h => ⟨_, (pss_cons (ps_set (i := 2) sc_product.nd rfl (by first | exact Or.inl rfl | exact Or.inr rfl) (pe_op op_rep (pe_lst (pa_cons pe_int pa_nil)) (pe_op op_sub (pe_op op_add (pe_callB (call_lenk K) rfl T.b_len PySem.boot_len (pa_cons (pv 0) pa_nil)) (pe_callB (call_lenk K) rfl T.b_len PySem.boot_len (pa_cons (pv 1) pa_nil))) pe_int)))
      (pss_cons (ps_for PassesOwn.never rfl (pi_enumk K T.b_enumerate (pa_cons (pv 0) pa_nil)) (pg_tupk K (n := 2) (pgs_cons (pg_name (i := 3) sc_product.nd rfl (by first | exact Or.inl rfl | exact Or.inr rfl)) (pgs_cons (pg_name (i := 4) sc_product.nd rfl (by first | exact Or.inl rfl | exact Or.inr rfl)) pgs_nil))) (pss_one (ps_for PassesOwn.never rfl (pi_enumk K T.b_enumerate (pa_cons (pv 1) pa_nil)) (pg_tupk K (n := 2) (pgs_cons (pg_name (i := 5) sc_product.nd rfl (by first | exact Or.inl rfl | exact Or.inr rfl)) (pgs_cons (pg_name (i := 6) sc_product.nd rfl (by first | exact Or.inl rfl | exact Or.inr rfl)) pgs_nil))) (pss_one (ps_asg (pe_op op_add (pe_ix (ix_listk K) (pv 2) (pe_op op_add (pv 3) (pv 5)) (fun _ _ => rfl)) (pe_op op_mulB (pv 4) (pv 6))) (pg_sub (pv 2) (pe_op op_add (pv 3) (pv 5)) set_list))))))
      (pss_one (ps_ret (pv 2))))), ?_⟩)
  · exact spn_len (fun ds d ⟨a, b, _, _, _, _, _, _, e, _⟩ => by rw [e] <;> rfl) h
  · obtain ⟨G, ds, l, hG, hR, ⟨a, b, h1, h2, h3, h4, h5, h6, rfl, rfl⟩, k⟩ := h
    have l1 : (1000000 : Int) ≤ (sizeLine : Int) := by decide
    have p1 := List.length_pos_iff.mpr h1
    have p2 := List.length_pos_iff.mpr h2
    refine Run.go 5 hG hR rfl ?_
    refine r_seq (r_asgN (en_rep (d := .int 0) (en_lst (ea_1 ev_int) (sl_of (by decide))).dd (ev_sub (ev_add (ev_len (ev_var rfl)) (ev_len (ev_var rfl))) ev_int) (by omega) (by rw [List.length_map, List.length_map]; omega)) ?_)
    refine r_seq (r_for (ei_enum (ea_1 (ev_var rfl))) (fun i => [.fz (rowD a), .fz (rowD b), .ow ((outp a b i).map D.int), .no, .no, .no, .no]) ⟨.inr rfl, .inr rfl, .inr ?_, .inr rfl, .inr rfl, .inr rfl, .inr rfl, trivial⟩ ?_ ?_)
    · rw [List.length_map, List.length_map]
      unfold outp
      rw [List.map_replicate]
      congr 2
      omega
    · intro G1 i ds hi
      obtain ⟨hia, rfl⟩ := numD_ints hi
      refine r_for (ei_enum (ea_1 (ev_var rfl))) (fun j => [.fz (rowD a), .fz (rowD b), .ow ((inn (outp a b i) i (at_ a i) b j).map D.int), .fz (.int (i : Int)), .fz (.int (at_ a i)), .no, .no]) (GLe.refl _) ?_ ?_
      · intro G2 j ds hj
        obtain ⟨hjb, rfl⟩ := numD_ints hj
        have hl : (inn (outp a b i) i (at_ a i) b j).length = a.length + b.length - 1 := by rw [inn_len, outp_len]
        refine r_setI rfl rfl (ev_add (ev_ixO (k := i + j) rfl (ev_add (ev_var rfl) (ev_var rfl)) (by push_cast; rfl) (map_int_at (by rw [hl]; omega))) (ev_mul (ev_var rfl) (ev_var rfl) ⟨smr_at h5 i, smr_at h6 j⟩)) (w := i + j) (ev_add (ev_var rfl) (ev_var rfl)) (by push_cast; rfl) (by rw [List.length_map, hl]; omega) (r_at ⟨.inr rfl, .inr rfl, .inr ?_, .inr rfl, .inr rfl, .inl rfl, .inl rfl, trivial⟩)
        congr 1
        show ((inn (outp a b i) i (at_ a i) b j).map D.int).set (i + j) (.int _) = (((inn (outp a b i) i (at_ a i) b j)).set (i + j) _).map D.int
        rw [List.map_set]
      · rw [numD_len, List.length_map]
        exact r_at ⟨.inr rfl, .inr rfl, .inr rfl, .inl rfl, .inl rfl, .inr rfl, .inr rfl, trivial⟩
    · rw [numD_len, List.length_map, prod_eq h1 h2]
      exact r_retO rfl k

/-! ### sum_of -/
def preSum : List D → List D → Prop := fun ds l => ∃ a b : List Int, a.length ≤ 100000 ∧ b.length ≤ 100000 ∧ ds = [rowD a, rowD b] ∧ l = (Vbhlae.plus a b).map D.int
theorem sc_sum_of : FnScope ["one", "other", "size", "a", "b"] ["one", "other"] (defScope s_sum_of) := ⟨rfl, rfl, rfl, by decide +kernel, rfl, by decide +kernel, by decide +kernel⟩
theorem ok_sum_of (T : Txt K mg) : FnOk P w K mg base CX0 2 T.sum_of.f T.sum_of.fd ["one", "other"] (SpN K preSum) := by
  refine T.sum_of.F.ok sc_sum_of (fun vs H Q E h => ?_) (fun cdv A outer s H vs Q E hr h => ⟨_, (pss_cons (ps_set (i := 2) sc_sum_of.nd rfl (by first | exact Or.inl rfl | exact Or.inr rfl) (pe_callB (call_max2 rfl) rfl T.b_max (by decide +kernel) (pa_cons (pe_callB (call_lenk K) rfl T.b_len PySem.boot_len (pa_cons (pv 0) pa_nil)) (pa_cons (pe_callB (call_lenk K) rfl T.b_len PySem.boot_len (pa_cons (pv 1) pa_nil)) pa_nil))))
      (pss_one (ps_ret (pe_lc (own := [("a", 3), ("b", 4)]) rfl sc_sum_of.nd (pi_zipk K T.b_zip (pa_cons (pe_own T.padded (ok_padded T) hr (pa_cons (pv 0) (pa_cons (pv 2) pa_nil)) pass0) (pa_cons (pe_own T.padded (ok_padded T) hr (pa_cons (pv 1) (pa_cons (pv 2) pa_nil)) pass0) pa_nil))) (blkOk_by (N := ["one", "other", "size", "a", "b"]) (sc := defScope (top 27)) (by decide +kernel)) (fun _ _ _ _ _ => by exact (pg_tupk K (n := 2) (pgs_cons (pg_name (i := 3) sc_sum_of.nd rfl (by first | exact Or.inl rfl | exact Or.inr rfl)) (pgs_cons (pg_name (i := 4) sc_sum_of.nd rfl (by first | exact Or.inl rfl | exact Or.inr rfl)) pgs_nil)))) (fun _ _ _ _ _ => by exact pts_nil) (fun _ _ _ _ _ => by exact (pe_op op_add (pv 3) (pv 4))))))), ?_⟩)
  · exact spn_len (fun ds d ⟨a, b, _, _, e, _⟩ => by rw [e] <;> rfl) h
  · obtain ⟨G, ds, l, hG, hR, ⟨a, b, h3, h4, rfl, rfl⟩, k⟩ := h
    refine Run.go 3 hG hR rfl ?_
    refine r_seq (r_asg (d := .int ((max a.length b.length : Nat) : Int)) (Evd.cast (ev_max (ev_len (ev_var rfl)) (ev_len (ev_var rfl))) ?_) ?_)
    · rw [List.length_map, List.length_map]
      congr 1
      omega
    · refine r_retN (en_lcAll (ei_zip (ea_2 (en_call (ea_2 (ev_var rfl) (ev_var rfl)) ⟨a, max a.length b.length, by omega, by omega, by omega, rfl, rfl⟩).dd (en_call (ea_2 (ev_var rfl) (ev_var rfl)) ⟨b, max a.length b.length, by omega, by omega, by omega, rfl, rfl⟩).dd)) (fun j hj => hj) ?_ ((Vbhlae.plus a b).map D.int) ?_ ?_) k
      · rw [twoD_len, List.length_map, List.length_map, padTo_len, padTo_len]
        exact sl_of (by omega)
      · rw [twoD_len, List.length_map, List.length_map, List.length_map, padTo_len, padTo_len, plus_len]
        omega
      · intro G1 i ds d hi hd
        obtain ⟨x, y, hx, hy, rfl⟩ := twoD_at hi
        have hi1 : i < (padTo a (max a.length b.length)).length := by
          have := (List.getElem?_eq_some_iff.mp hx).1
          rwa [List.length_map] at this
        have hi2 : i < (padTo b (max a.length b.length)).length := by
          have := (List.getElem?_eq_some_iff.mp hy).1
          rwa [List.length_map] at this
        rw [map_int_at hi1] at hx
        rw [map_int_at hi2] at hy
        rw [map_int_at (by rw [plus_len]; rw [padTo_len] at hi1; omega)] at hd
        cases hx
        cases hy
        cases hd
        rw [plus_at, padTo_at, padTo_at]
        exact ev_add (ev_var rfl) (ev_var rfl)

/-! ### scaled, less_row -/
def preScale : List D → List D → Prop := fun ds l => ∃ (r : List Int) (n : Int), r.length ≤ 1000000 ∧ smr r ∧ sm n ∧ ds = [rowD r, .int n] ∧ l = (Vbhlae.times n r).map D.int
/-- a comprehension over a row of ints -/
theorem ints_item {r : List Int} {i : Nat} {es : List D} (h : ((r.map D.int).map fun d => [d])[i]? = some es) : i < r.length ∧ es = [.int (at_ r i)] := by
  have hi : i < r.length := by
    have := (List.getElem?_eq_some_iff.mp h).1
    rwa [List.length_map, List.length_map] at this
  rw [List.getElem?_map, map_int_at hi] at h
  exact ⟨hi, (Option.some.inj h).symm⟩
theorem sc_scaled : FnScope ["row", "by", "a"] ["row", "by"] (defScope s_scaled) := ⟨rfl, rfl, rfl, by decide +kernel, rfl, by decide +kernel, by decide +kernel⟩
theorem ok_scaled (T : Txt K mg) : FnOk P w K mg base CX0 1 T.scaled.f T.scaled.fd ["row", "by"] (SpN K preScale) := by
  refine T.scaled.F.ok sc_scaled (fun vs H Q E h => ?_) (fun cdv A outer s H vs Q E hr h => ⟨_, (pss_one (ps_ret (pe_lc (own := [("a", 2)]) rfl sc_scaled.nd (pi_listk K (pv 0)) (blkOk_by (N := ["row", "by", "a"]) (sc := defScope (top 28)) (by decide +kernel)) (fun _ _ _ _ _ => by exact (pg_name (i := 2) sc_scaled.nd rfl (by first | exact Or.inl rfl | exact Or.inr rfl))) (fun _ _ _ _ _ => by exact pts_nil) (fun _ _ _ _ _ => by exact (pe_op op_mulB (pv 1) (pv 2)))))), ?_⟩)
  · exact spn_len (fun ds d ⟨a, b, _, _, _, e, _⟩ => by rw [e] <;> rfl) h
  · obtain ⟨G, ds, l, hG, hR, ⟨r, n, h1, h2, h3, rfl, rfl⟩, k⟩ := h
    refine Run.go 1 hG hR rfl ?_
    refine r_retN (en_lcAll (ei_list (ev_var rfl)) (fun j hj => hj) ?_ ((Vbhlae.times n r).map D.int) ?_ ?_) k
    · rw [List.length_map, List.length_map]
      exact sl_of h1
    · rw [List.length_map, List.length_map, List.length_map, times_len]
    · intro G1 i ds d hi hd
      obtain ⟨hir, rfl⟩ := ints_item hi
      rw [map_int_at (by rw [times_len]; exact hir)] at hd
      cases hd
      rw [times_at]
      exact ev_mul (ev_var rfl) (ev_var rfl) ⟨h3, smr_at h2 i⟩
theorem sm_neg1 : sm (-1) := by
  refine sm_of (n := 1) (by decide) ?_
  unfold BB
  omega
def preLess : List D → List D → Prop := fun ds l => ∃ a b : List Int, a.length ≤ 100000 ∧ b.length ≤ 100000 ∧ smr b ∧ ds = [rowD a, rowD b] ∧ l = (Vbhlae.plus a (Vbhlae.times (-1) b)).map D.int
theorem sc_less_row : FnScope ["one", "other"] ["one", "other"] (defScope s_less_row) := ⟨rfl, rfl, rfl, by decide +kernel, rfl, by decide +kernel, by decide +kernel⟩
theorem ok_less_row (T : Txt K mg) : FnOk P w K mg base CX0 3 T.less_row.f T.less_row.fd ["one", "other"] (SpN K preLess) := by
  refine T.less_row.F.ok sc_less_row (fun vs H Q E h => ?_) (fun cdv A outer s H vs Q E hr h => ⟨_, (pss_one (ps_ret (pe_own T.sum_of (ok_sum_of T) hr (pa_cons (pv 0) (pa_cons (pe_own T.scaled (ok_scaled T) hr (pa_cons (pv 1) (pa_cons (pe_un un_neg pe_int) pa_nil)) pass0) pa_nil)) pass0))), ?_⟩)
  · exact spn_len (fun ds d ⟨a, b, _, _, _, e, _⟩ => by rw [e] <;> rfl) h
  · obtain ⟨G, ds, l, hG, hR, ⟨a, b, h3, h4, h5, rfl, rfl⟩, k⟩ := h
    refine Run.go 0 hG hR rfl ?_
    exact r_retN (en_call (ea_2 (ev_var rfl) (en_call (ea_2 (ev_var rfl) (ev_neg ev_int)) ⟨b, -1, by omega, h5, sm_neg1, rfl, rfl⟩).dd) ⟨a, Vbhlae.times (-1) b, h3, by rw [times_len]; exact h4, rfl, rfl⟩) k

/-! ### divisor_of, reduced, plain -/
def preDiv : List D → D → Prop := fun ds d => ∃ r : List Int, ds = [rowD r] ∧ d = .int (common r : Int)
theorem sc_divisor_of : FnScope ["row", "found", "a"] ["row"] (defScope s_divisor_of) := ⟨rfl, rfl, rfl, by decide +kernel, rfl, by decide +kernel, by decide +kernel⟩
theorem ok_divisor_of (T : Txt K mg) : FnOk P w K mg base CX0 2 T.divisor_of.f T.divisor_of.fd ["row"] (SpF K preDiv) := by
  refine T.divisor_of.F.ok sc_divisor_of (fun vs H Q E h => ?_) (fun cdv A outer s H vs Q E hr h => ⟨_, (pss_cons (ps_set (i := 1) sc_divisor_of.nd rfl (by first | exact Or.inl rfl | exact Or.inr rfl) pe_int)
      (pss_cons (ps_for PassesOwn.never rfl (pi_listk K (pv 0)) (pg_name (i := 2) sc_divisor_of.nd rfl (by first | exact Or.inl rfl | exact Or.inr rfl)) (pss_one (ps_set (i := 1) sc_divisor_of.nd rfl (by first | exact Or.inl rfl | exact Or.inr rfl) (pe_own T.common (ok_common T) hr (pa_cons (pv 1) (pa_cons (pv 2) pa_nil)) pass0))))
      (pss_one (ps_ret (pv 1))))), ?_⟩)
  · exact spf_len (fun ds d ⟨r, e, _⟩ => by rw [e] <;> rfl) h
  · obtain ⟨G, ds, d, hG, hR, ⟨r, rfl, rfl⟩, k⟩ := h
    refine Run.go 2 hG hR rfl ?_
    refine r_seq (r_asg ev_int ?_)
    refine r_seq (r_for (ei_list (ev_var rfl)) (fun i => [.fz (rowD r), .fz (.int (common (r.take i) : Int)), .no]) ⟨.inr rfl, .inr rfl, .inr rfl, trivial⟩ ?_ ?_)
    · intro G1 i ds hi
      obtain ⟨hir, rfl⟩ := ints_item hi
      refine r_asg (ev_call (ea_2 (ev_var rfl) (ev_var rfl)) ⟨_, _, rfl, rfl⟩) (r_at ⟨.inr rfl, .inr ?_, .inl rfl, trivial⟩)
      rw [common_take hir, Int.natAbs_natCast]
    · rw [List.length_map, List.length_map, List.take_length]
      exact r_ret (ev_var rfl) k
def preRed : List D → List D → Prop := fun ds l => ∃ r : List Int, r.length ≤ 1000000 ∧ ds = [rowD r] ∧ l = (redM r).map D.int
theorem sc_reduced : FnScope ["row", "kept", "by", "a"] ["row"] (defScope s_reduced) := ⟨rfl, rfl, rfl, by decide +kernel, rfl, by decide +kernel, by decide +kernel⟩
theorem ok_reduced (T : Txt K mg) (S : SeerB P base) : FnOk P w K mg base CX0 40 T.reduced.f T.reduced.fd ["row"] (SpN K preRed) := by
  refine T.reduced.F.ok sc_reduced (fun vs H Q E h => ?_) (fun cdv A outer s H vs Q E hr h => ⟨_, (pss_cons (ps_set (i := 1) sc_reduced.nd rfl (by first | exact Or.inl rfl | exact Or.inr rfl) (pe_own T.trimmed (ok_trimmed T) hr (pa_cons (pv 0) pa_nil) pass0))
      (pss_cons (ps_set (i := 2) sc_reduced.nd rfl (by first | exact Or.inl rfl | exact Or.inr rfl) (pe_own T.divisor_of (ok_divisor_of T) hr (pa_cons (pv 1) pa_nil) pass0))
      (pss_one (ps_ret (pe_lc (own := [("a", 3)]) rfl sc_reduced.nd (pi_listk K (pv 1)) (blkOk_by (N := ["row", "kept", "by", "a"]) (sc := defScope (top 31)) (by decide +kernel)) (fun _ _ _ _ _ => by exact (pg_name (i := 3) sc_reduced.nd rfl (by first | exact Or.inl rfl | exact Or.inr rfl))) (fun _ _ _ _ _ => by exact pts_nil) (fun _ _ _ _ _ => by exact (pe_op (op_fdivP (sk S) hr) (pv 3) (pv 2)))))))), ?_⟩)
  · exact spn_len pre1_len h
  · obtain ⟨G, ds, l, hG, hR, ⟨r, h1, rfl, rfl⟩, k⟩ := h
    refine Run.go 3 hG hR rfl ?_
    refine r_seq (r_asg (en_call (ea_1 (ev_var rfl)) ⟨r, trivial, rfl, rfl⟩).dd ?_)
    refine r_seq (r_asg (ev_call (ea_1 (ev_var rfl)) ⟨trim r, rfl, rfl⟩) ?_)
    have tl := trim_len_le r
    refine r_retN (en_lcAll (ei_list (ev_var rfl)) (fun j hj => hj) ?_ ((redM r).map D.int) ?_ ?_) k
    · rw [List.length_map, List.length_map]
      exact sl_of (by omega)
    · rw [List.length_map, List.length_map, List.length_map, redM_len]
    · intro G1 i ds d hi hd
      obtain ⟨hir, rfl⟩ := ints_item hi
      rw [map_int_at (by rw [redM_len]; exact hir)] at hd
      cases hd
      have hne : common (trim r) ≠ 0 := trim_common (by intro z; rw [z] at hir; exact Nat.not_lt_zero _ hir)
      refine Evd.cast (ev_fdiv (ev_var rfl) (ev_var rfl) (show (common (trim r) : Int) ≠ 0 by omega)) ?_
      unfold redM
      rw [at_map hir, Int.fdiv_eq_ediv_of_nonneg _ (by omega)]
def prePlain : List D → D → Prop := fun ds d => ∃ r : List Int, trim r ≠ [] ∧ r.length ≤ 1000000 ∧ smr r ∧ ds = [rowD r] ∧ d = rowD (Vbhlae.plain r)
theorem neg_times (r : List Int) : Vbhlae.times (-1) r = r.map fun x => -x := by
  unfold Vbhlae.times
  refine List.map_congr_left fun x _ => ?_
  omega
theorem sm_le {x y : Int} (h : x.natAbs ≤ y.natAbs) (hy : sm y) : sm x := Nat.lt_of_le_of_lt h hy
theorem sc_plain : FnScope ["row", "found"] ["row"] (defScope s_plain) := ⟨rfl, rfl, rfl, by decide +kernel, rfl, by decide +kernel, by decide +kernel⟩
theorem ok_plain (T : Txt K mg) (S : SeerB P base) : FnOk P w K mg base CX0 41 T.plain.f T.plain.fd ["row"] (SpF K prePlain) := by
  refine T.plain.F.ok sc_plain (fun vs H Q E h => ?_) (fun cdv A outer s H vs Q E hr h => ⟨_, (pss_cons (ps_set (i := 1) sc_plain.nd rfl (by first | exact Or.inl rfl | exact Or.inr rfl) (pe_own T.reduced (ok_reduced T S) hr (pa_cons (pv 0) pa_nil) pass0))
      (pss_cons (ps_if (pt_cmpR op_lt (pe_ix (ix_listk K) (pv 1) pe_int (fun _ _ => rfl)) pe_int (nomark _)) (pss_one (ps_ret (pe_own T.scaled (ok_scaled T) hr (pa_cons (pv 1) (pa_cons (pe_un un_neg pe_int) pa_nil)) pass0))) pss_nil)
      (pss_one (ps_ret (pv 1))))), ?_⟩)
  · exact spf_len (fun ds d ⟨r, _, _, _, e, _⟩ => by rw [e] <;> rfl) h
  · obtain ⟨G, ds, l, hG, hR, ⟨r, h1, h2, h3, rfl, rfl⟩, k⟩ := h
    have hl : 0 < (redM r).length := by
      rw [redM_len]
      exact List.length_pos_iff.mpr h1
    have tl := trim_len_le r
    refine Run.go 1 hG hR rfl ?_
    refine r_seq (r_asg (en_call (ea_1 (ev_var rfl)) ⟨r, h2, rfl, rfl⟩).dd ?_)
    refine r_seq (r_if (et_test (ev_lt (ev_ixL (k := 0) (ev_var rfl) ev_int rfl (map_int_at hl)) ev_int)) (fun hb => ?_) (fun hb => ?_))
    · have hb := of_decide_eq_true hb
      refine r_ret (Evd.cast (en_call (ea_2 (ev_var rfl) (ev_neg ev_int)) ⟨redM r, -1, by rw [redM_len]; omega, fun y hy => ?_, sm_neg1, rfl, rfl⟩).dd ?_) k
      · rw [plain_eq, if_pos hb, neg_times]
      · obtain ⟨x, hx, hxy⟩ := redM_mem hy
        exact sm_le hxy (h3 x hx)
    · have hb := of_decide_eq_false hb
      refine r_next (r_ret (Evd.cast (ev_var rfl) ?_) k)
      rw [plain_eq, if_neg hb]

/-! ### product_of -/
def pall : List (List Int) → List Int
  | l => l.foldl chain [1]
def preProdOf : List D → D → Prop := fun ds d => ∃ rs : List (List Int), (∀ i, i ≤ rs.length → smr (pall (rs.take i)) ∧ (pall (rs.take i)).length ≤ 100000) ∧ (∀ r ∈ rs, r ≠ [] ∧ r.length ≤ 100000 ∧ smr r) ∧ ds = [rowsD rs] ∧ d = rowD (pall rs)
theorem pall_take {rs : List (List Int)} {i : Nat} (h : i < rs.length) : pall (rs.take (i + 1)) = chain (pall (rs.take i)) rs[i] := by
  rw [List.take_succ_eq_append_getElem h]
  unfold pall
  rw [List.foldl_append]
  rfl
theorem pall_ne {rs : List (List Int)} (h : ∀ r ∈ rs, r ≠ []) : ∀ i, i ≤ rs.length → pall (rs.take i) ≠ []
  | 0, _ => by
    rw [List.take_zero]
    exact fun z => nomatch z
  | i + 1, hi => by
    rw [pall_take (by omega)]
    exact chain_ne (pall_ne h i (by omega)) (h _ (List.getElem_mem _))
theorem map_row_at {rs : List (List Int)} {i : Nat} (h : i < rs.length) : (rs.map rowD)[i]? = some (rowD rs[i]) := by
  rw [List.getElem?_map, List.getElem?_eq_getElem h]
  rfl
theorem rows_item {rs : List (List Int)} {i : Nat} {es : List D} (h : ((rs.map rowD).map fun d => [d])[i]? = some es) : ∃ hi : i < rs.length, es = [rowD rs[i]] := by
  have hi : i < rs.length := by
    have := (List.getElem?_eq_some_iff.mp h).1
    rwa [List.length_map, List.length_map] at this
  rw [List.getElem?_map, map_row_at hi] at h
  exact ⟨hi, (Option.some.inj h).symm⟩
theorem sc_product_of : FnScope ["rows", "found", "row"] ["rows"] (defScope s_product_of) := ⟨rfl, rfl, rfl, by decide +kernel, rfl, by decide +kernel, by decide +kernel⟩
theorem ok_product_of (T : Txt K mg) : FnOk P w K mg base CX0 2 T.product_of.f T.product_of.fd ["rows"] (SpF K preProdOf) := by
  refine T.product_of.F.ok sc_product_of (fun vs H Q E h => ?_) (fun cdv A outer s H vs Q E hr h => ⟨_, (pss_cons (ps_set (i := 1) sc_product_of.nd rfl (by first | exact Or.inl rfl | exact Or.inr rfl) (pe_lst (pa_cons pe_int pa_nil)))
      (pss_cons (ps_for PassesOwn.never rfl (pi_listk K (pv 0)) (pg_name (i := 2) sc_product_of.nd rfl (by first | exact Or.inl rfl | exact Or.inr rfl)) (pss_one (ps_set (i := 1) sc_product_of.nd rfl (by first | exact Or.inl rfl | exact Or.inr rfl) (pe_own T.product (ok_product T) hr (pa_cons (pv 1) (pa_cons (pv 2) pa_nil)) pass0))))
      (pss_one (ps_ret (pv 1))))), ?_⟩)
  · exact spf_len (fun ds d ⟨r, _, _, e, _⟩ => by rw [e] <;> rfl) h
  · obtain ⟨G, ds, l, hG, hR, ⟨rs, h1, h2, rfl, rfl⟩, k⟩ := h
    refine Run.go 2 hG hR rfl ?_
    refine r_seq (r_asg (d := rowD [1]) (en_lst (ea_1 ev_int) (sl_of (by decide))).dd ?_)
    refine r_seq (r_for (ei_list (ev_var rfl)) (fun i => [.fz (rowsD rs), .fz (rowD (pall (rs.take i))), .no]) ⟨.inr rfl, .inr rfl, .inr rfl, trivial⟩ ?_ ?_)
    · intro G1 i ds hi
      obtain ⟨hir, rfl⟩ := rows_item hi
      obtain ⟨q1, q2, q3⟩ := h2 _ (List.getElem_mem hir)
      obtain ⟨q4, q5⟩ := h1 i (by omega)
      refine r_asg (en_call (ea_2 (ev_var rfl) (ev_var rfl)) ⟨pall (rs.take i), rs[i], pall_ne (fun r hr => (h2 r hr).1) i (by omega), q1, q5, q2, q4, q3, rfl, rfl⟩).dd (r_at ⟨.inr rfl, .inr ?_, .inl rfl, trivial⟩)
      rw [pall_take hir]
    · rw [List.length_map, List.length_map, List.take_length]
      exact r_ret (ev_var rfl) k
end
end Qa

set_option Elab.async false
set_option linter.all false
set_option maxRecDepth 100000
set_option maxHeartbeats 4000000
namespace Qa
open PySem PySem.Spec PyProof.Rows L2
open Vbhlae (at_ trim common chain smaller stepsFrom)
section
variable {P : Program} {w : World} {K : PySem.W.Frag} {mg : Str → Option Value} {base : Heap}
theorem sm_bl {n : Nat} {r : List Int} (h : bl n r) (hn : n ≤ BB) : smr r := fun x hx => sm_of (h x hx) hn
theorem sm_Bd {r : List Int} (h : Bd BB r) : smr r := by
  obtain ⟨n, h1, h2⟩ := h.bits
  exact sm_bl h1 h2
/-! ### has_step, step_of -/
def hasM (r : List Int) : Bool := decide (1 < r.length) && smaller r
theorem hasM_iff (r : List Int) : hasM r = true ↔ 1 < r.length ∧ smaller r = true := by
  unfold hasM
  rw [Bool.and_eq_true, decide_eq_true_iff]
def preHas : List D → D → Prop := fun ds d => ∃ r : List Int, ds = [rowD r] ∧ d = .bl (hasM r)
theorem sc_has_step : FnScope ["row"] ["row"] (defScope s_has_step) := ⟨rfl, rfl, rfl, by decide +kernel, rfl, by decide +kernel, by decide +kernel⟩
theorem ok_has_step (T : Txt K mg) : FnOk P w K mg base CX0 1 T.has_step.f T.has_step.fd ["row"] (SpF K preHas) := by
  refine T.has_step.F.ok sc_has_step (fun vs H Q E h => ?_) (fun cdv A outer s H vs Q E hr h => ⟨_, (pss_one (ps_ret (pe_and (pe_cmpR op_gt (pe_callB (call_lenk K) rfl T.b_len PySem.boot_len (pa_cons (pv 0) pa_nil)) pe_int (nomark _)) (pe_one (pe_cmpR op_lt (pe_callB call_abs rfl T.b_abs (by decide +kernel) (pa_cons (pe_ix (ix_listk K) (pv 0) (pe_un un_neg pe_int) (fun _ _ => rfl)) pa_nil)) (pe_callB call_abs rfl T.b_abs (by decide +kernel) (pa_cons (pe_ix (ix_listk K) (pv 0) pe_int (fun _ _ => rfl)) pa_nil)) (nomark _)))))), ?_⟩)
  · exact spf_len (fun ds d ⟨r, e, _⟩ => by rw [e] <;> rfl) h
  · obtain ⟨G, ds, l, hG, hR, ⟨r, rfl, rfl⟩, k⟩ := h
    refine Run.go 0 hG hR rfl ?_
    refine r_ret (Evd.cast (ev_and (ev_gt (ev_len (ev_var rfl)) ev_int) fun hb => ev_lt (ev_abs (ev_ixE (ev_var rfl) (ev_neg ev_int) (map_int_end ?_))) (ev_abs (ev_ixL (k := 0) (ev_var rfl) ev_int rfl (map_int_at ?_)))) ?_) k
    · intro z
      subst z
      exact absurd hb (by decide)
    · have := of_decide_eq_true hb
      rw [List.length_map] at this
      omega
    · unfold hasM Vbhlae.smaller
      rw [List.length_map]
      congr 2
      · exact decide_eq_decide.mpr (by omega)
      · exact decide_eq_decide.mpr (by omega)
def preStep : List D → D → Prop := fun ds d => ∃ r : List Int, 1 < r.length ∧ smaller r = true ∧ r.length ≤ 1000000 ∧ smr r ∧ smr (Vbhlae.reduced r) ∧ ds = [rowD r] ∧ d = rowD (Vbhlae.plain (Vbhlae.reduced r))
theorem rngD_at {lo : Int} {n i : Nat} {es : List D} (h : (rngD lo n)[i]? = some es) : i < n ∧ es = [.int (lo + (i : Int))] := by
  have hi : i < n := by
    have := (List.getElem?_eq_some_iff.mp h).1
    rwa [rngD_len] at this
  unfold rngD at h
  rw [List.getElem?_map, List.getElem?_range hi] at h
  exact ⟨hi, (Option.some.inj h).symm⟩
theorem sc_step_of : FnScope ["row", "n", "i"] ["row"] (defScope s_step_of) := ⟨rfl, rfl, rfl, by decide +kernel, rfl, by decide +kernel, by decide +kernel⟩
theorem ok_step_of (T : Txt K mg) (S : SeerB P base) : FnOk P w K mg base CX0 42 T.step_of.f T.step_of.fd ["row"] (SpF K preStep) := by
  refine T.step_of.F.ok sc_step_of (fun vs H Q E h => ?_) (fun cdv A outer s H vs Q E hr h => ⟨_, (pss_cons (ps_set (i := 1) sc_step_of.nd rfl (by first | exact Or.inl rfl | exact Or.inr rfl) (pe_op op_sub (pe_callB (call_lenk K) rfl T.b_len PySem.boot_len (pa_cons (pv 0) pa_nil)) pe_int))
      (pss_one (ps_ret (pe_own T.plain (ok_plain T S) hr (pa_cons (pe_lc (own := [("i", 2)]) rfl sc_step_of.nd (pi_range1 rfl T.b_range (pa_cons (pv 1) pa_nil)) (blkOk_by (N := ["row", "n", "i"]) (sc := defScope (top 48)) (by decide +kernel)) (fun _ _ _ _ _ => by exact (pg_name (i := 2) sc_step_of.nd rfl (by first | exact Or.inl rfl | exact Or.inr rfl))) (fun _ _ _ _ _ => by exact pts_nil) (fun _ _ _ _ _ => by exact (pe_op op_sub (pe_op op_mulB (pe_ix (ix_listk K) (pv 0) pe_int (fun _ _ => rfl)) (pe_ix (ix_listk K) (pv 0) (pv 2) (fun _ _ => rfl))) (pe_op op_mulB (pe_ix (ix_listk K) (pv 0) (pv 1) (fun _ _ => rfl)) (pe_ix (ix_listk K) (pv 0) (pe_op op_sub (pv 1) (pv 2)) (fun _ _ => rfl)))))) pa_nil) pass0)))), ?_⟩)
  · exact spf_len (fun ds d ⟨r, _, _, _, _, _, e, _⟩ => by rw [e] <;> rfl) h
  · obtain ⟨G, ds, l, hG, hR, ⟨r, h1, h2, h3, h4, h5, rfl, rfl⟩, k⟩ := h
    have l1 : (1000000 : Int) < 2 ^ 62 := by decide
    refine Run.go 2 hG hR rfl ?_
    refine r_seq (r_asg (d := .int ((r.length - 1 : Nat) : Int)) (Evd.cast (ev_sub (ev_len (ev_var rfl)) ev_int) ?_) ?_)
    · rw [List.length_map]
      congr 1
      omega
    have tn : trim (Vbhlae.reduced r) ≠ [] := trim_ne (by have := red_first h1 h2; omega)
    refine r_ret (ev_call (ea_1 (d := rowD (Vbhlae.reduced r)) (en_lcAll (ei_range1 (ea_1 (ev_var rfl)) ?_ ?_) (fun j hj => hj) ?_ ((Vbhlae.reduced r).map D.int) ?_ ?_).dd) ⟨Vbhlae.reduced r, tn, by rw [red_len]; omega, h5, rfl, rfl⟩) k
    · omega
    · omega
    · rw [rngD_len]
      exact sl_of (by omega)
    · rw [rngD_len, List.length_map, red_len]
      omega
    · intro G1 i ds d hi hd
      obtain ⟨hir, rfl⟩ := rngD_at hi
      have hir : i < r.length - 1 := by omega
      rw [map_int_at (by rw [red_len]; exact hir)] at hd
      cases hd
      rw [red_at hir]
      refine ev_sub (ev_mul (ev_ixL (k := 0) (ev_var rfl) ev_int rfl (map_int_at (by omega))) (ev_ixL (k := i) (ev_var rfl) (ev_var rfl) (by omega) (map_int_at (by omega))) ⟨smr_at h4 _, smr_at h4 _⟩) (ev_mul (ev_ixL (k := r.length - 1) (ev_var rfl) (ev_var rfl) rfl (map_int_at (by omega))) (ev_ixL (k := r.length - 1 - i) (ev_var rfl) (ev_sub (ev_var rfl) (ev_var rfl)) (by omega) (map_int_at (by omega))) ⟨smr_at h4 _, smr_at h4 _⟩)
/-! ### told_steps, is_quiet -/
def preTold : List D → List D → Prop := fun ds l => ∃ r : List Int, (at_ r 0 ≠ 0 ∧ r.length ≤ 100000 ∧ Bd BB r) ∧ ds = [rowD r] ∧ l = (Vbhlae.steps r).map rowD
theorem map_row_end {rs : List (List Int)} {x : List Int} : ((rs ++ [x]).map rowD)[((rs ++ [x]).map rowD).length - 1]? = some (rowD x) := by
  rw [List.length_map, List.length_append, List.length_singleton, Nat.add_sub_cancel, List.getElem?_map, List.getElem?_append_right (Nat.le_refl _), Nat.sub_self]
  rfl
theorem sc_told_steps : FnScope ["row", "found"] ["row"] (defScope s_told_steps) := ⟨rfl, rfl, rfl, by decide +kernel, rfl, by decide +kernel, by decide +kernel⟩
theorem ok_told_steps (T : Txt K mg) (S : SeerB P base) : FnOk P w K mg base CX0 43 T.told_steps.f T.told_steps.fd ["row"] (SpN K preTold) := by
  refine T.told_steps.F.ok sc_told_steps (fun vs H Q E h => ?_) (fun cdv A outer s H vs Q E hr h => ⟨_, (pss_cons (ps_set (i := 1) sc_told_steps.nd rfl (by first | exact Or.inl rfl | exact Or.inr rfl) (pe_lst (pa_cons (pe_own T.plain (ok_plain T S) hr (pa_cons (pv 0) pa_nil) pass0) pa_nil)))
      (pss_cons (ps_while PassesOwn.never (pt_val (pe_own T.has_step (ok_has_step T) hr (pa_cons (pe_ix (ix_listk K) (pv 1) (pe_un un_neg pe_int) (fun _ _ => rfl)) pa_nil) pass0)) (pss_one (ps_expr (pe_bm PySem.F.plainAttrs_list PySem.F.slot_list_append PySem.F.type_list_append mt_append (pv 1) (pa_cons (pe_own T.step_of (ok_step_of T S) hr (pa_cons (pe_ix (ix_listk K) (pv 1) (pe_un un_neg pe_int) (fun _ _ => rfl)) pa_nil) pass0) pa_nil)))))
      (pss_one (ps_ret (pv 1))))), ?_⟩)
  · exact spn_len (fun ds d ⟨r, _, e, _⟩ => by rw [e] <;> rfl) h
  · obtain ⟨G, ds, l, hG, hR, ⟨r, ⟨h1, h2, h3⟩, rfl, rfl⟩, k⟩ := h
    refine Run.go 1 hG hR rfl ?_
    refine r_seq (r_asgN (l := [rowD (Vbhlae.plain r)]) (en_lst (ea_1 (ev_call (ea_1 (ev_var rfl)) ⟨r, trim_ne h1, by omega, sm_Bd h3, rfl, rfl⟩)) (sl_of (show (1 : Nat) ≤ 1000000 by decide))) ?_)
    refine r_seq (r_while (S := List (List Int) × List Int) (fun x => [.fz (rowD r), .ow ((x.1 ++ [x.2]).map rowD)]) (fun x => x.2.length) ([], Vbhlae.plain r)
      (fun x => x.1.length + x.2.length ≤ 100001 ∧ Bd BB x.2 ∧ ∃ f, x.2.length < f ∧ x.1 ++ stepsFrom f x.2 = Vbhlae.steps r) ⟨?_, h3.plain, r.length + 1, ?_, rfl⟩ (GLe.refl _) ?_)
    · have := trim_len_le r
      rw [List.length_nil, plain_len]
      omega
    · have := trim_len_le r
      rw [plain_len]
      omega
    rintro ⟨rs, x⟩ ⟨hl, hb, f, hf, he⟩
    dsimp only at hl hb hf he
    obtain ⟨f, rfl⟩ : ∃ g, f = g + 1 := ⟨f - 1, by omega⟩
    refine ⟨_, et_b (ev_call (ea_1 (ev_ixOE rfl (ev_neg ev_int) map_row_end)) ⟨x, rfl, rfl⟩), fun hq => ?_, fun hq => ?_⟩
    · obtain ⟨q1, q2⟩ := (hasM_iff x).mp hq
      have pl := plain_red_len x
      refine ⟨(rs ++ [x], Vbhlae.plain (Vbhlae.reduced x)), ⟨?_, (hb.red (by omega)).plain, f, ?_, ?_⟩, ?_, ?_⟩
      · show (rs ++ [x]).length + (Vbhlae.plain (Vbhlae.reduced x)).length ≤ 100001
        rw [List.length_append, List.length_singleton]
        omega
      · show (Vbhlae.plain (Vbhlae.reduced x)).length < f
        omega
      · show (rs ++ [x]) ++ stepsFrom f (Vbhlae.plain (Vbhlae.reduced x)) = Vbhlae.steps r
        rw [← he, steps_go q1 q2, List.append_assoc]
        rfl
      · show (Vbhlae.plain (Vbhlae.reduced x)).length < x.length
        omega
      · refine r_app rfl rfl (ev_call (ea_1 (ev_ixOE rfl (ev_neg ev_int) map_row_end)) ⟨x, q1, q2, by omega, sm_Bd hb, sm_Bd (hb.red (by omega)), rfl, rfl⟩) (sl_lt ?_) (r_at ⟨.inr rfl, .inr ?_, trivial⟩)
        · rw [List.length_map, List.length_append, List.length_singleton]
          show rs.length + 1 ≤ 1000000
          omega
        · show Ent.ow (((rs ++ [x]).map rowD) ++ [rowD (Vbhlae.plain (Vbhlae.reduced x))]) = Ent.ow (((rs ++ [x]) ++ [Vbhlae.plain (Vbhlae.reduced x)]).map rowD)
          rw [List.map_append (l₁ := rs ++ [x])]
          rfl
    · have hs : ¬ (1 < x.length ∧ smaller x = true) := fun z => by
        rw [(hasM_iff x).mpr z] at hq
        cases hq
      rw [steps_stop hs] at he
      refine r_retO (l := (Vbhlae.steps r).map rowD) ?_ k
      rw [← he]
      rfl
theorem steps_nil (r : List Int) : Vbhlae.steps r ≠ [] := steps_ne
theorem quiet_eq (r : List Int) : Vbhlae.quiet r = (!decide (at_ r 0 = 0) && decide (((Vbhlae.steps r).getLast (steps_nil r)).length = 1)) := by
  unfold Vbhlae.quiet
  rw [List.getLast?_eq_some_getLast (steps_nil r)]
  show (decide (at_ r 0 ≠ 0) && (_ == 1)) = _
  congr 1
  · exact decide_not
theorem map_row_last {rs : List (List Int)} (h : rs ≠ []) : (rs.map rowD)[(rs.map rowD).length - 1]? = some (rowD (rs.getLast h)) := by
  have hl := List.length_pos_iff.mpr h
  rw [List.length_map, map_row_at (by omega), List.getLast_eq_getElem h]
def preQuiet : List D → D → Prop := fun ds d => ∃ r : List Int, r ≠ [] ∧ r.length ≤ 100000 ∧ Bd BB r ∧ ds = [rowD r] ∧ d = .bl (Vbhlae.quiet r)
theorem sc_is_quiet : FnScope ["row"] ["row"] (defScope s_is_quiet) := ⟨rfl, rfl, rfl, by decide +kernel, rfl, by decide +kernel, by decide +kernel⟩
theorem ok_is_quiet (T : Txt K mg) (S : SeerB P base) : FnOk P w K mg base CX0 44 T.is_quiet.f T.is_quiet.fd ["row"] (SpF K preQuiet) := by
  refine T.is_quiet.F.ok sc_is_quiet (fun vs H Q E h => ?_) (fun cdv A outer s H vs Q E hr h => ⟨_, (pss_one (ps_ret (pe_and (pe_cmpR op_ne (pe_ix (ix_listk K) (pv 0) pe_int (fun _ _ => rfl)) pe_int (nomark _)) (pe_one (pe_cmpR op_eq (pe_callB (call_lenk K) rfl T.b_len PySem.boot_len (pa_cons (pe_ix (ix_listk K) (pe_own T.told_steps (ok_told_steps T S) hr (pa_cons (pv 0) pa_nil) pass0) (pe_un un_neg pe_int) (fun _ _ => rfl)) pa_nil)) pe_int (nomark _)))))), ?_⟩)
  · exact spf_len (fun ds d ⟨r, _, _, _, e, _⟩ => by rw [e] <;> rfl) h
  · obtain ⟨G, ds, l, hG, hR, ⟨r, h1, h2, h3, rfl, rfl⟩, k⟩ := h
    refine Run.go 0 hG hR rfl ?_
    refine r_ret (Evd.cast (ev_and (ev_ne (ev_ixL (k := 0) (ev_var rfl) ev_int rfl (map_int_at (List.length_pos_iff.mpr h1))) ev_int) fun hb => ev_eq (ev_len (ev_ixE (en_call (ea_1 (ev_var rfl)) ⟨r, ⟨by simpa using hb, h2, h3⟩, rfl, rfl⟩).dd (ev_neg ev_int) (map_row_last (steps_nil r)))) ev_int) ?_) k
    rw [quiet_eq, List.length_map]
    congr 2
    exact decide_eq_decide.mpr (by omega)

/-! ### are_alike, leads_on, is_proof -/
def preAlike : List D → D → Prop := fun ds d => ∃ a b : List Int, a.length ≤ 1000000 ∧ b.length ≤ 1000000 ∧ ds = [rowD a, rowD b] ∧ d = .bl (likeM a b)
theorem sc_are_alike : FnScope ["one", "other"] ["one", "other"] (defScope s_are_alike) := ⟨rfl, rfl, rfl, by decide +kernel, rfl, by decide +kernel, by decide +kernel⟩
theorem ok_are_alike (T : Txt K mg) (S : SeerB P base) : FnOk P w K mg base CX0 41 T.are_alike.f T.are_alike.fd ["one", "other"] (SpF K preAlike) := by
  refine T.are_alike.F.ok sc_are_alike (fun vs H Q E h => ?_) (fun cdv A outer s H vs Q E hr h => ⟨_, (pss_cons (ps_if (PW.pt (pw_or (pt_cmpR (op_eqDk K hr.units) (pe_own T.trimmed (ok_trimmed T) hr (pa_cons (pv 0) pa_nil) pass0) (pe_lst pa_nil) (nomark _)) (pw_or1 (pt_cmpR (op_eqDk K hr.units) (pe_own T.trimmed (ok_trimmed T) hr (pa_cons (pv 1) pa_nil) pass0) (pe_lst pa_nil) (nomark _))))) (pss_one (ps_ret pe_bl)) pss_nil)
      (pss_one (ps_ret (pe_cmpR (op_eqDk K hr.units) (pe_own T.reduced (ok_reduced T S) hr (pa_cons (pv 0) pa_nil) pass0) (pe_own T.reduced (ok_reduced T S) hr (pa_cons (pv 1) pa_nil) pass0) (nomark _))))), ?_⟩)
  · exact spf_len (fun ds d ⟨a, b, _, _, e, _⟩ => by rw [e] <;> rfl) h
  · obtain ⟨G, ds, l, hG, hR, ⟨a, b, h1, h2, rfl, rfl⟩, k⟩ := h
    refine Run.go 0 hG hR rfl ?_
    refine r_seq (r_if (et_or (et_test (ev_eqL (ms := []) (en_call (ea_1 (ev_var rfl)) ⟨a, trivial, rfl, rfl⟩).dd (en_lst ea_nil (Nat.zero_le _)).dd)) (fun _ => et_test (ev_eqL (ms := []) (en_call (ea_1 (ev_var rfl)) ⟨b, trivial, rfl, rfl⟩).dd (en_lst ea_nil (Nat.zero_le _)).dd))) (fun hb => ?_) (fun hb => ?_))
    · refine r_ret (Evd.cast ev_bl ?_) k
      unfold likeM
      rw [Bool.or_eq_true] at hb
      rcases hb with hb | hb
      · rw [hb]
        rfl
      · rw [hb]
        simp
    · refine r_next (r_ret (Evd.cast (ev_eqL (en_call (ea_1 (ev_var rfl)) ⟨a, h1, rfl, rfl⟩).dd (en_call (ea_1 (ev_var rfl)) ⟨b, h2, rfl, rfl⟩).dd) ?_) k)
      unfold likeM
      rw [Bool.or_eq_false_iff] at hb
      rw [hb.1, hb.2]
      rfl
def preLeads : List D → D → Prop := fun ds d => ∃ a b : List Int, a.length ≤ 1000000 ∧ b.length ≤ 1000000 ∧ smr a ∧ smr (Vbhlae.reduced (trim a)) ∧ ds = [rowD a, rowD b] ∧ d = .bl (leadsM a b)
theorem sc_leads_on : FnScope ["row", "after", "kept"] ["row", "after"] (defScope s_leads_on) := ⟨rfl, rfl, rfl, by decide +kernel, rfl, by decide +kernel, by decide +kernel⟩
theorem ok_leads_on (T : Txt K mg) (S : SeerB P base) : FnOk P w K mg base CX0 43 T.leads_on.f T.leads_on.fd ["row", "after"] (SpF K preLeads) := by
  refine T.leads_on.F.ok sc_leads_on (fun vs H Q E h => ?_) (fun cdv A outer s H vs Q E hr h => ⟨_, (pss_cons (ps_set (i := 2) sc_leads_on.nd rfl (by first | exact Or.inl rfl | exact Or.inr rfl) (pe_own T.trimmed (ok_trimmed T) hr (pa_cons (pv 0) pa_nil) pass0))
      (pss_one (ps_ret (pe_and (pe_own T.has_step (ok_has_step T) hr (pa_cons (pv 2) pa_nil) pass0) (pe_one (pe_own T.are_alike (ok_are_alike T S) hr (pa_cons (pv 1) (pa_cons (pe_own T.step_of (ok_step_of T S) hr (pa_cons (pv 2) pa_nil) pass0) pa_nil)) pass0)))))), ?_⟩)
  · exact spf_len (fun ds d ⟨a, b, _, _, _, _, e, _⟩ => by rw [e] <;> rfl) h
  · obtain ⟨G, ds, l, hG, hR, ⟨a, b, h1, h2, h3, h4, rfl, rfl⟩, k⟩ := h
    have tl := trim_len_le a
    refine Run.go 1 hG hR rfl ?_
    refine r_seq (r_asg (en_call (ea_1 (ev_var rfl)) ⟨a, trivial, rfl, rfl⟩).dd ?_)
    refine r_ret (Evd.cast (ev_and (ev_call (ea_1 (ev_var rfl)) ⟨trim a, rfl, rfl⟩) fun hb => ev_call (ea_2 (ev_var rfl) (ev_call (ea_1 (ev_var rfl)) ?_)) ⟨b, Vbhlae.plain (Vbhlae.reduced (trim a)), h2, ?_, rfl, rfl⟩) rfl) k
    · obtain ⟨q1, q2⟩ := (hasM_iff _).mp hb
      exact ⟨trim a, q1, q2, by omega, fun x hx => h3 x (trim_mem hx), h4, rfl, rfl⟩
    · have := plain_red_len (trim a)
      omega
theorem chainM_all : ∀ rs : List (List Int), chainM rs = (List.zipWith leadsM rs (rs.drop 1)).all id
  | [] => rfl
  | [a] => rfl
  | a :: b :: l => by
    show (leadsM a b && chainM (b :: l)) = (leadsM a b && (List.zipWith leadsM (b :: l) l).all id)
    rw [chainM_all (b :: l)]
    rfl
theorem lastM_eq : ∀ (rs : List (List Int)) (h : rs ≠ []), lastM rs = decide ((trim (rs.getLast h)).length = 1)
  | [], h => absurd rfl h
  | [a], _ => rfl
  | a :: b :: l, _ => by
    show lastM (b :: l) = _
    rw [lastM_eq (b :: l) (fun z => nomatch z)]
    rfl
theorem cut_tail {l : List D} (h : l ≠ []) : cutD l (some 1) none = l.drop 1 := by
  have hl := List.length_pos_iff.mpr h
  unfold cutD
  have e : HT.sIx l.length 0 (some 1) = 1 := by
    have := HT.sIx_nat l.length 0 1
    rw [show ((1 : Nat) : Int) = 1 from rfl] at this
    rw [this]
    omega
  rw [e, HT.sIx_none]
  refine List.take_of_length_le ?_
  rw [List.length_drop]
  exact Nat.le_refl _
def okRow (a : List Int) : Prop := a.length ≤ 1000000 ∧ smr a ∧ smr (Vbhlae.reduced (trim a))
def preProof : List D → D → Prop := fun ds d => ∃ (r : List Int) (rs : List (List Int)), r.length ≤ 1000000 ∧ rs.length ≤ 100000 ∧ (∀ a ∈ rs, okRow a) ∧ ds = [rowD r, rowsD rs] ∧ d = .bl (proofM r rs)
theorem proofM_eq (r : List Int) {rs : List (List Int)} (h : rs ≠ []) : proofM r rs = (likeM (rs.getD 0 []) r && (chainM rs && lastM rs)) := by
  cases rs with
  | nil => exact absurd rfl h
  | cons a l => rfl
theorem map_row_0 {rs : List (List Int)} (h : rs ≠ []) : (rs.map rowD)[0]? = some (rowD (rs.getD 0 [])) := by
  cases rs with
  | nil => exact absurd rfl h
  | cons a l => rfl
theorem sc_is_proof : FnScope ["row", "rows", "one", "after"] ["row", "rows"] (defScope s_is_proof) := ⟨rfl, rfl, rfl, by decide +kernel, rfl, by decide +kernel, by decide +kernel⟩
theorem ok_is_proof (T : Txt K mg) (S : SeerB P base) : FnOk P w K mg base CX0 44 T.is_proof.f T.is_proof.fd ["row", "rows"] (SpF K preProof) := by
  refine T.is_proof.F.ok sc_is_proof (fun vs H Q E h => ?_) (fun cdv A outer s H vs Q E hr h => ⟨_, (pss_cons (ps_if (PW.pt (pw_or (pt_cmpR (op_eqDk K hr.units) (pv 1) (pe_lst pa_nil) (nomark _)) (pw_or1 (pt_not (pt_val (pe_own T.are_alike (ok_are_alike T S) hr (pa_cons (pe_ix (ix_listk K) (pv 1) pe_int (fun _ _ => rfl)) (pa_cons (pv 0) pa_nil)) pass0)))))) (pss_one (ps_ret pe_bl)) pss_nil)
      (pss_cons (ps_if (pt_not (pt_val (pe_callB (cr_allk K rfl) rfl T.b_all (by decide +kernel) (pa_cons (pe_lc (own := [("one", 2), ("after", 3)]) rfl sc_is_proof.nd (pi_zipk K T.b_zip (pa_cons (pv 1) (pa_cons (pe_slice (sl_listk K) (pv 1) (po_some pe_int) po_none) pa_nil))) (blkOk_by (N := ["row", "rows", "one", "after"]) (sc := defScope (top 53)) (by decide +kernel)) (fun _ _ _ _ _ => by exact (pg_tupk K (n := 2) (pgs_cons (pg_name (i := 2) sc_is_proof.nd rfl (by first | exact Or.inl rfl | exact Or.inr rfl)) (pgs_cons (pg_name (i := 3) sc_is_proof.nd rfl (by first | exact Or.inl rfl | exact Or.inr rfl)) pgs_nil)))) (fun _ _ _ _ _ => by exact pts_nil) (fun _ _ _ _ _ => by exact (pe_own T.leads_on (ok_leads_on T S) hr (pa_cons (pv 2) (pa_cons (pv 3) pa_nil)) pass0))) pa_nil)))) (pss_one (ps_ret pe_bl)) pss_nil)
      (pss_one (ps_ret (pe_cmpR op_eq (pe_callB (call_lenk K) rfl T.b_len PySem.boot_len (pa_cons (pe_own T.trimmed (ok_trimmed T) hr (pa_cons (pe_ix (ix_listk K) (pv 1) (pe_un un_neg pe_int) (fun _ _ => rfl)) pa_nil) pass0) pa_nil)) pe_int (nomark _)))))), ?_⟩)
  · exact spf_len (fun ds d ⟨a, b, _, _, _, e, _⟩ => by rw [e] <;> rfl) h
  · obtain ⟨G, ds, l, hG, hR, ⟨r, rs, h1, h2, h3, rfl, rfl⟩, k⟩ := h
    have m0 : ∀ h : rs ≠ [], rs.getD 0 [] ∈ rs := fun h => by
      cases rs with
      | nil => exact absurd rfl h
      | cons a l => exact List.mem_cons_self
    refine Run.go 2 hG hR rfl ?_
    refine r_seq (r_if (et_or (et_test (ev_eqR (ev_var rfl) (en_lst ea_nil (Nat.zero_le _)).dd)) (fun hb => et_not (et_b (ev_call (ea_2 (ev_ixL (k := 0) (ev_var rfl) ev_int rfl (map_row_0 (by simpa using hb))) (ev_var rfl)) ⟨_, _, (h3 _ (m0 (by simpa using hb))).1, h1, rfl, rfl⟩)))) (fun hb => ?_) (fun hb => r_next ?_))
    · refine r_ret (Evd.cast ev_bl ?_) k
      rw [Bool.or_eq_true] at hb
      by_cases hr : rs = []
      · subst hr
        rfl
      · rw [proofM_eq r hr]
        rcases hb with hb | hb
        · exact absurd (of_decide_eq_true hb) hr
        · rw [show likeM (rs.getD 0 []) r = false by simpa using hb]
          rfl
    · rw [Bool.or_eq_false_iff] at hb
      have hr : rs ≠ [] := by simpa using hb.1
      have hl : likeM (rs.getD 0 []) r = true := by simpa using hb.2
      have hlen := List.length_pos_iff.mpr hr
      have zl : (List.zipWith leadsM rs (rs.drop 1)).length = rs.length - 1 := by
        rw [List.length_zipWith, List.length_drop]
        omega
      have comp : ∀ G1 : Hp, Evd K G1 H [.fz (rowD r), .fz (rowsD rs), .no, .no] (tLc (iZip K (tCons (tVar 1) (tCons (tSl (rSlL K) (tVar 1) (tPart (tC (.int 1))) tNoPart) tNil))) (gTup K 2 (gCons (gName 2) (gCons (gName 3) gNil))) tYes (tCall (SpF K preLeads) [] E0 (tCons (tVar 2) (tCons (tVar 3) tNil))) [2, 3]) (.lst ((List.zipWith leadsM rs (rs.drop 1)).map D.bl)) := fun G1 => by
        refine (en_lcAll (ei_zip (ea_2 (ev_var rfl) (EvN.cast (en_slice (ev_var rfl) (ev_part ev_int) ev_nopart) (cut_tail (by simpa using hr))).dd)) (fun j hj => hj) ?_ ((List.zipWith leadsM rs (rs.drop 1)).map D.bl) ?_ ?_).dd
        · rw [twoD_len, List.length_map, List.length_drop, List.length_map]
          exact sl_of (by omega)
        · rw [twoD_len, List.length_map, List.length_drop, List.length_map, zl]
          omega
        · intro G2 i ds d hi hd
          obtain ⟨x, y, hx, hy, rfl⟩ := twoD_at hi
          have hi1 : i < rs.length := by
            have := (List.getElem?_eq_some_iff.mp hx).1
            rwa [List.length_map] at this
          have hi2 : i + 1 < rs.length := by
            have := (List.getElem?_eq_some_iff.mp hy).1
            rw [List.length_drop, List.length_map] at this
            omega
          rw [map_row_at hi1] at hx
          rw [List.getElem?_drop, Nat.add_comm 1 i, map_row_at hi2] at hy
          have hz : (List.zipWith leadsM rs (rs.drop 1))[i]? = some (leadsM rs[i] rs[i + 1]) := by
            rw [List.getElem?_zipWith, List.getElem?_eq_getElem hi1, List.getElem?_drop, Nat.add_comm 1 i, List.getElem?_eq_getElem hi2]
          rw [List.getElem?_map, hz] at hd
          cases hx
          cases hy
          cases hd
          obtain ⟨o1, o2, o3⟩ := h3 _ (List.getElem_mem hi1)
          exact ev_call (ea_2 (ev_var rfl) (ev_var rfl)) ⟨_, _, o1, (h3 _ (List.getElem_mem hi2)).1, o2, o3, rfl, rfl⟩
      refine r_seq (r_if (et_not (et_b (ev_all (comp G)))) (fun hb => ?_) (fun hb => r_next ?_))
      · refine r_ret (Evd.cast ev_bl ?_) k
        rw [proofM_eq r hr, chainM_all, show (List.zipWith leadsM rs (rs.drop 1)).all id = false by simpa using hb]
        rw [Bool.false_and, Bool.and_false]
      · refine r_ret (Evd.cast (ev_eq (ev_len (en_call (ea_1 (ev_ixE (ev_var rfl) (ev_neg ev_int) (map_row_last hr))) ⟨_, trivial, rfl, rfl⟩).dd) ev_int) ?_) k
        rw [proofM_eq r hr, chainM_all, hl, show (List.zipWith leadsM rs (rs.drop 1)).all id = true by simpa using hb, lastM_eq rs hr, List.length_map]
        rw [Bool.true_and, Bool.true_and]
        congr 1
        exact decide_eq_decide.mpr (by omega)

/-! ### rows_in -/
def rinD (ns : List Int) : D := match Vbhlae.rowsIn (ns.length + 1) ns with
  | none => .non
  | some rs => rowsD rs
def preRin : List D → D → Prop := fun ds d => ∃ ns : List Int, ns.length ≤ 100000 ∧ ds = [rowD ns] ∧ d = rinD ns
theorem rin_fuel : ∀ {f g : Nat} {ns : List Int}, ns.length < f → ns.length < g → Vbhlae.rowsIn f ns = Vbhlae.rowsIn g ns
  | 0, _, _, h, _ => absurd h (Nat.not_lt_zero _)
  | _, 0, _, _, h => absurd h (Nat.not_lt_zero _)
  | f + 1, g + 1, [], _, _ => rfl
  | f + 1, g + 1, n :: r, hf, hg => by
    rw [Vbhlae.rowsIn, Vbhlae.rowsIn]
    by_cases h : n < 1 ∨ (r.length : Int) < n
    · rw [if_pos h, if_pos h]
    · rw [if_neg h, if_neg h]
      rw [List.length_cons] at hf hg
      rw [rin_fuel (f := f) (g := g) (by rw [List.length_drop]; omega) (by rw [List.length_drop]; omega)]
theorem drop_cons {ns : List Int} {i : Nat} (h : i < ns.length) : ns.drop i = at_ ns i :: ns.drop (i + 1) := by
  rw [List.drop_eq_getElem_cons h, at_lt h]
/-- the rows from a place on -/
def rinF (ns : List Int) (i : Nat) : Option (List (List Int)) := Vbhlae.rowsIn (ns.length + 1) (ns.drop i)
theorem rinF_end {ns : List Int} {i : Nat} (h : ns.length ≤ i) : rinF ns i = some [] := by
  unfold rinF
  rw [List.drop_eq_nil_of_le h]
  rfl
theorem rinF_bad {ns : List Int} {i : Nat} (h : i < ns.length) (hb : at_ ns i < 1 ∨ (ns.length : Int) < (i : Int) + 1 + at_ ns i) : rinF ns i = none := by
  unfold rinF
  rw [drop_cons h, Vbhlae.rowsIn, if_pos]
  rw [List.length_drop]
  omega
theorem rinF_go {ns : List Int} {i : Nat} (h : i < ns.length) (hb : ¬ (at_ ns i < 1 ∨ (ns.length : Int) < (i : Int) + 1 + at_ ns i)) : rinF ns i = (rinF ns (i + 1 + (at_ ns i).toNat)).map fun l => (ns.drop (i + 1)).take (at_ ns i).toNat :: l := by
  unfold rinF
  rw [drop_cons h, Vbhlae.rowsIn, if_neg (by rw [List.length_drop]; omega), List.drop_drop]
  rw [rin_fuel (f := ns.length) (g := ns.length + 1)]
  · rw [List.length_drop]
    omega
  · rw [List.length_drop]
    omega
theorem cut_ints {ns : List Int} {i j : Nat} (h1 : i ≤ j) (h2 : j ≤ ns.length) : cutD (ns.map D.int) (some (i : Int)) (some (j : Int)) = ((ns.drop i).take (j - i)).map D.int := by
  unfold cutD
  rw [HT.sIx_nat, HT.sIx_nat, List.length_map, Nat.min_eq_left h2, Nat.min_eq_left (Nat.le_trans h1 h2), List.map_take, List.map_drop]
theorem sc_rows_in : FnScope ["numbers", "found", "at", "end"] ["numbers"] (defScope s_rows_in) := ⟨rfl, rfl, rfl, by decide +kernel, rfl, by decide +kernel, by decide +kernel⟩
theorem ok_rows_in (T : Txt K mg) : FnOk P w K mg base CX0 1 T.rows_in.f T.rows_in.fd ["numbers"] (SpF K preRin) := by
  refine T.rows_in.F.ok sc_rows_in (fun vs H Q E h => ?_) (fun cdv A outer s H vs Q E hr h => ⟨_, (pss_cons (ps_set (i := 1) sc_rows_in.nd rfl (by first | exact Or.inl rfl | exact Or.inr rfl) (pe_lst pa_nil))
      (pss_cons (ps_set (i := 2) sc_rows_in.nd rfl (by first | exact Or.inl rfl | exact Or.inr rfl) pe_int)
      (pss_cons (ps_while PassesOwn.never (pt_cmpR op_lt (pv 2) (pe_callB (call_lenk K) rfl T.b_len PySem.boot_len (pa_cons (pv 0) pa_nil)) (nomark _)) (pss_cons (ps_set (i := 3) sc_rows_in.nd rfl (by first | exact Or.inl rfl | exact Or.inr rfl) (pe_op op_add (pe_op op_add (pv 2) pe_int) (pe_ix (ix_listk K) (pv 0) (pv 2) (fun _ _ => rfl))))
      (pss_cons (ps_if (PW.pt (pw_or (pt_cmpR op_lt (pe_ix (ix_listk K) (pv 0) (pv 2) (fun _ _ => rfl)) pe_int (nomark _)) (pw_or1 (pt_cmpR op_gt (pv 3) (pe_callB (call_lenk K) rfl T.b_len PySem.boot_len (pa_cons (pv 0) pa_nil)) (nomark _))))) (pss_one (ps_ret pe_non)) pss_nil)
      (pss_cons (ps_expr (pe_bm PySem.F.plainAttrs_list PySem.F.slot_list_append PySem.F.type_list_append mt_append (pv 1) (pa_cons (pe_slice (sl_listk K) (pv 0) (po_some (pe_op op_add (pv 2) pe_int)) (po_some (pv 3))) pa_nil)))
      (pss_one (ps_set (i := 2) sc_rows_in.nd rfl (by first | exact Or.inl rfl | exact Or.inr rfl) (pv 3)))))))
      (pss_one (ps_ret (pv 1)))))), ?_⟩)
  · exact spf_len (fun ds d ⟨a, _, e, _⟩ => by rw [e] <;> rfl) h
  · obtain ⟨G, ds, l, hG, hR, ⟨ns, h1, rfl, rfl⟩, k⟩ := h
    have kk : ∀ {d : D}, d = rinD ns → ∀ v G' H', Gh G H G' H' → Rp K G' d v → Q v H' := fun e v G' H' g r => k v G' H' g (e ▸ r)
    refine Run.go 3 hG hR rfl ?_
    refine r_seq (r_asgN (l := []) (en_lst ea_nil (Nat.zero_le _)) ?_)
    with_reducible refine r_seq ?_
    refine r_asg ev_int ?_
    with_reducible refine r_seq ?_
    refine (r_whileN (S := List (List Int) × Nat) (fun x => [.fz (rowD ns), .ow (x.1.map rowD), .fz (.int (x.2 : Int)), .no]) (fun x => ns.length - x.2) ([], 0)
      (fun x => x.1.length ≤ x.2 ∧ x.2 ≤ ns.length ∧ rinF ns 0 = (rinF ns x.2).map (x.1 ++ ·)) ⟨Nat.le_refl _, Nat.zero_le _, ?_⟩ ⟨.inr rfl, .inr rfl, .inr rfl, .inr rfl, trivial⟩ ?_)
    · show rinF ns 0 = (rinF ns 0).map ([] ++ ·)
      cases rinF ns 0 <;> rfl
    rintro ⟨rs, i⟩ ⟨hl, hi, he⟩
    dsimp only at hl hi he
    refine ⟨_, et_test (ev_lt (ev_var rfl) (ev_len (ev_var rfl))), fun hb => ?_, fun hb => ?_⟩
    · have hb := of_decide_eq_true hb
      rw [List.length_map] at hb
      have hi : i < ns.length := by omega
      have ix : Evd K G H [.fz (rowD ns), .ow (rs.map rowD), .fz (.int (i : Int)), .no] (tOp (rIxL K) (tVar 0) (tVar 2)) (.int (at_ ns i)) := ev_ixL (k := i) (ev_var rfl) (ev_var rfl) rfl (map_int_at hi)
      have ix2 : ∀ n : Int, Evd K G H [.fz (rowD ns), .ow (rs.map rowD), .fz (.int (i : Int)), .fz (.int n)] (tOp (rIxL K) (tVar 0) (tVar 2)) (.int (at_ ns i)) := fun n => ev_ixL (k := i) (ev_var rfl) (ev_var rfl) rfl (map_int_at hi)
      have asg : ∀ {u : TS} {De : Ends}, Run K G H [.fz (rowD ns), .ow (rs.map rowD), .fz (.int (i : Int)), .fz (.int ((i : Int) + 1 + at_ ns i))] (u De) → Run K G H [.fz (rowD ns), .ow (rs.map rowD), .fz (.int (i : Int)), .no] (tSeq (tAsg (tOp (rI0 fun i j => .int (i + j)) (tOp (rI0 fun i j => .int (i + j)) (tVar 2) (tC (.int 1))) (tOp (rIxL K) (tVar 0) (tVar 2))) (gName 3)) u De) := fun q => r_seq (r_asg (ev_add (ev_add (ev_var rfl) ev_int) ix) q)
      have ht : EvT K G H [.fz (rowD ns), .ow (rs.map rowD), .fz (.int (i : Int)), .fz (.int ((i : Int) + 1 + at_ ns i))] (tOr (tTest (tOp (rI0 fun i j => .bl (decide (i < j))) (tOp (rIxL K) (tVar 0) (tVar 2)) (tC (.int 1)))) (tTest (tOp (rI0 fun i j => .bl (decide (j < i))) (tVar 3) (tCB (fun xs H Q => ∃ p ys, xs = [.ref p] ∧ (SqL K H p ys ∨ SqT K H p ys) ∧ Q (.int ys.length) H) (tCons (tVar 0) tNil)))))
          (decide (at_ ns i < 1 ∨ (ns.length : Int) < (i : Int) + 1 + at_ ns i)) := by
        refine EvT.cast (et_or (et_test (ev_lt (ix2 _) ev_int)) fun _ => et_test (ev_gt (ev_var rfl) (ev_len (ev_var rfl)))) ?_
        rw [List.length_map, ← Bool.decide_or]
      by_cases hbad : at_ ns i < 1 ∨ (ns.length : Int) < (i : Int) + 1 + at_ ns i
      · have e0 : rinF ns 0 = none := by
          rw [he, rinF_bad hi hbad]
          rfl
        refine ⟨fun _ _ => False, fun _ _ z => z.elim, asg ?_⟩
        with_reducible refine r_seq ?_
        refine r_if ht (fun _ => ?_) (fun z => absurd hbad (of_decide_eq_false z))
        refine r_ret ev_non (kk ?_)
        unfold rinD
        rw [show Vbhlae.rowsIn (ns.length + 1) ns = rinF ns 0 from rfl, e0]
      · have e1 : (i : Int) + 1 + at_ ns i = ((i + 1 + (at_ ns i).toNat : Nat) : Int) := by omega
        have e2 : i + 1 + (at_ ns i).toNat ≤ ns.length := by omega
        refine ⟨_, fun _ _ z => ⟨(rs ++ [(ns.drop (i + 1)).take (at_ ns i).toNat], i + 1 + (at_ ns i).toNat), ⟨?_, e2, ?_⟩, (show ns.length - (i + 1 + (at_ ns i).toNat) < ns.length - i by omega), z⟩, asg ?_⟩
        · show (rs ++ [_]).length ≤ i + 1 + (at_ ns i).toNat
          rw [List.length_append, List.length_singleton]
          omega
        · show rinF ns 0 = (rinF ns (i + 1 + (at_ ns i).toNat)).map ((rs ++ [(ns.drop (i + 1)).take (at_ ns i).toNat]) ++ ·)
          rw [he, rinF_go hi hbad]
          cases rinF ns (i + 1 + (at_ ns i).toNat) with
          | none => rfl
          | some l =>
            show some (rs ++ (_ :: l)) = some ((rs ++ [_]) ++ l)
            rw [List.append_assoc]
            rfl
        with_reducible refine r_seq ?_
        refine r_if ht (fun z => absurd (of_decide_eq_true z) hbad) (fun _ => r_next ?_)
        with_reducible refine r_seq ?_
        refine r_app (n := 1) rfl rfl (EvN.cast (en_slice (lo := some ((i + 1 : Nat) : Int)) (hi := some ((i + 1 + (at_ ns i).toNat : Nat) : Int)) (ev_var rfl) (ev_part (Evd.cast (ev_add (ev_var rfl) ev_int) (by push_cast; rfl))) (ev_part (Evd.cast (ev_var rfl) (by rw [e1])))) (cut_ints (by omega) e2)).dd (sl_lt (by rw [List.length_map]; omega)) ?_
        refine r_asg (ev_var rfl) (r_at ⟨.inr rfl, .inr ?_, .inr ?_, .inl rfl, trivial⟩)
        · rw [List.map_append]
          show Ent.ow (rs.map rowD ++ [_]) = Ent.ow (rs.map rowD ++ [_])
          congr 3
          show D.lst _ = D.lst _
          congr 3
          omega
        · show Ent.fz (.int ((i : Int) + 1 + at_ ns i)) = _
          rw [e1]
    · have hb := of_decide_eq_false hb
      rw [List.length_map] at hb
      have e0 : rinF ns 0 = some rs := by
        rw [he, rinF_end (by omega)]
        show some (rs ++ []) = some rs
        rw [List.append_nil]
      refine r_retO (n := 1) rfl fun p vs G' H' g q1 q2 q3 q4 => kk (d := rowsD rs) ?_ _ _ _ (g.put q1 q2 q3) ⟨p, vs, rfl, upd_same, RpL.mono (same_new q2) _ _ q4⟩
      unfold rinD
      rw [show Vbhlae.rowsIn (ns.length + 1) ns = rinF ns 0 from rfl, e0]
end
end Qa

set_option Elab.async false
set_option linter.all false
set_option maxRecDepth 100000
set_option maxHeartbeats 4000000
namespace Qa
open PySem PySem.Spec PyProof.Rows L2
open Vbhlae (at_ trim common chain smaller)
section
variable {P : Program} {w : World} {K : PySem.W.Frag} {mg : Str → Option Value} {base : Heap}
/-! ### lists of fractions -/
abbrev qsD (l : List Rat) : D := .lst (l.map qD)
abbrev ratsOf (l : List Int) : List Rat := l.map fun (x : Int) => (x : Rat)
theorem qD_int (n : Int) : qD (n : Rat) = .tup [.int n, .int 1] := rfl
theorem map_q_at {l : List Rat} {i : Nat} (h : i < l.length) : (l.map qD)[i]? = some (qD (qat l i)) := by
  rw [List.getElem?_map, List.getElem?_eq_getElem h, qat_lt h]
  rfl
theorem map_q_end {l : List Rat} {n : Nat} (h : l.length = n + 1) : (l.map qD)[(l.map qD).length - 1]? = some (qD (qat l n)) := by
  rw [List.length_map, h]
  exact map_q_at (by omega)
theorem ev_nought (T : Txt K mg) {G0 H0 : Hp} {Γ : List Ent} : Evd K G0 H0 Γ (tC (.ref T.a_NOUGHT)) (qD 0) := ev_k fun G => ⟨_, _, rfl, T.c_NOUGHT.2 G, rpl_ints [0, 1]⟩
theorem ev_one1 (T : Txt K mg) {G0 H0 : Hp} {Γ : List Ent} : Evd K G0 H0 Γ (tC (.ref T.a_ONE)) (qD 1) := ev_k fun G => ⟨_, _, rfl, T.c_ONE.2 G, rpl_ints [1, 1]⟩
def preMade : List D → List D → Prop := fun ds l => ∃ r : List Int, r.length ≤ 1000000 ∧ ds = [rowD r] ∧ l = (ratsOf r).map qD
theorem sc_made_fractions : FnScope ["row", "a"] ["row"] (defScope s_made_fractions) := ⟨rfl, rfl, rfl, by decide +kernel, rfl, by decide +kernel, by decide +kernel⟩
theorem ok_made_fractions (T : Txt K mg) : FnOk P w K mg base CX0 1 T.made_fractions.f T.made_fractions.fd ["row"] (SpN K preMade) := by
  refine T.made_fractions.F.ok sc_made_fractions (fun vs H Q E h => ?_) (fun cdv A outer s H vs Q E hr h => ⟨_, (pss_one (ps_ret (pe_lc (own := [("a", 1)]) rfl sc_made_fractions.nd (pi_listk K (pv 0)) (blkOk_by (N := ["row", "a"]) (sc := defScope (top 39)) (by decide +kernel)) (fun _ _ _ _ _ => by exact (pg_name (i := 1) sc_made_fractions.nd rfl (by first | exact Or.inl rfl | exact Or.inr rfl))) (fun _ _ _ _ _ => by exact pts_nil) (fun _ _ _ _ _ => by exact (pe_tup (pa_cons (pv 1) (pa_cons pe_int pa_nil))))))), ?_⟩)
  · exact spn_len (fun ds d ⟨r, _, e, _⟩ => by rw [e] <;> rfl) h
  · obtain ⟨G, ds, l, hG, hR, ⟨r, h1, rfl, rfl⟩, k⟩ := h
    refine Run.go 1 hG hR rfl ?_
    refine r_retN (en_lcAll (ei_list (ev_var rfl)) (fun j hj => hj) ?_ ((ratsOf r).map qD) ?_ ?_) k
    · rw [List.length_map, List.length_map]
      exact sl_of h1
    · simp only [List.length_map]
    · intro G1 i ds d hi hd
      obtain ⟨hir, rfl⟩ := ints_item hi
      rw [map_q_at (by rw [List.length_map]; exact hir), qat_cast] at hd
      cases hd
      exact ev_tup (ea_2 (ev_var rfl) ev_int) (show 2 ≤ sizeLine by decide)

/-! ### weighed, answers_to, clicked -/
def preWeigh : List D → D → Prop := fun ds d => ∃ (row : List Int) (heard : List Rat) (t first : Nat), WOk row heard t first ∧ row.length ≤ 100000 ∧ t ≤ 100000 ∧ first ≤ 1 ∧ ds = [rowD row, qsD heard, .int (t : Int), .int (first : Int)] ∧ d = qD (wS row heard t first (wN row t first))
theorem sc_weighed : FnScope ["row", "heard", "t", "first", "total", "k"] ["row", "heard", "t", "first"] (defScope s_weighed) := ⟨rfl, rfl, rfl, by decide +kernel, rfl, by decide +kernel, by decide +kernel⟩
theorem ok_weighed (T : Txt K mg) (S : SeerB P base) : FnOk P w K mg base CX0 42 T.weighed.f T.weighed.fd ["row", "heard", "t", "first"] (SpF K preWeigh) := by
  refine T.weighed.F.ok sc_weighed (fun vs H Q E h => ?_) (fun cdv A outer s H vs Q E hr h => ⟨_, (pss_cons (ps_set (i := 4) sc_weighed.nd rfl (by first | exact Or.inl rfl | exact Or.inr rfl) (pe_gt T.c_NOUGHT.1))
      (pss_cons (ps_for PassesOwn.never rfl (pi_range2 rfl T.b_range (pa_cons (pv 3) (pa_cons (pe_callB (call_min2 rfl) rfl T.b_min (by decide +kernel) (pa_cons (pe_callB (call_lenk K) rfl T.b_len PySem.boot_len (pa_cons (pv 0) pa_nil)) (pa_cons (pe_op op_add (pv 2) pe_int) pa_nil))) pa_nil))) (pg_name (i := 5) sc_weighed.nd rfl (by first | exact Or.inl rfl | exact Or.inr rfl)) (pss_one (ps_set (i := 4) sc_weighed.nd rfl (by first | exact Or.inl rfl | exact Or.inr rfl) (pe_own T.plus (ok_plus T S) hr (pa_cons (pv 4) (pa_cons (pe_own T.times (ok_times T S) hr (pa_cons (pe_tup (pa_cons (pe_ix (ix_listk K) (pv 0) (pv 5) (fun _ _ => rfl)) (pa_cons pe_int pa_nil))) (pa_cons (pe_ix (ix_listk K) (pv 1) (pe_op op_sub (pv 2) (pv 5)) (fun _ _ => rfl)) pa_nil)) pass0) pa_nil)) pass0))))
      (pss_one (ps_ret (pv 4))))), ?_⟩)
  · exact spf_len (fun ds d ⟨a, b, c, e, _, _, _, _, q, _⟩ => by rw [q] <;> rfl) h
  · obtain ⟨G, ds, l, hG, hR, ⟨row, heard, t, first, h1, h2, h3, h4, rfl, rfl⟩, k⟩ := h
    have l1 : (1000000 : Int) < 2 ^ 62 := by decide
    refine Run.go 2 hG hR rfl ?_
    with_reducible refine r_seq ?_
    refine r_asg (ev_nought T) ?_
    have cnt : (min (row.length : Int) ((t : Int) + 1) - (first : Int)).toNat = wN row t first := by
      unfold wN
      omega
    with_reducible refine r_seq ?_
    refine r_for (ei_range2 (ea_2 (ev_var rfl) (ev_min (ev_len (ev_var rfl)) (ev_add (ev_var rfl) ev_int))) ?_) (fun i => [.fz (rowD row), .fz (qsD heard), .fz (.int (t : Int)), .fz (.int (first : Int)), .fz (qD (wS row heard t first i)), .no]) (GLe.refl _) ?_ ?_
    · rw [List.length_map]
      omega
    · intro G1 i ds hi
      obtain ⟨hin, rfl⟩ := rngD_at hi
      rw [List.length_map, cnt] at hin
      have w := wN_le row t first
      refine r_asg (ev_call (ea_2 (ev_var rfl) (ev_call (ea_2 (ev_tup (ea_2 (ev_ixL (k := first + i) (ev_var rfl) (ev_var rfl) (by omega) (map_int_at (by omega))) ev_int) (show 2 ≤ sizeLine by decide)) (ev_ixL (k := t - (first + i)) (ev_var rfl) (ev_sub (ev_var rfl) (ev_var rfl)) (by omega) (map_q_at (h1.has i hin)))) ⟨(at_ row (first + i) : Rat), qat heard (t - (first + i)), h1.nums i hin, h1.here i hin, rfl, rfl⟩)) ⟨wS row heard t first i, _, h1.sums i (by omega), h1.prod i hin, rfl, rfl⟩) (r_at ⟨.inr rfl, .inr rfl, .inr rfl, .inr rfl, .inr rfl, .inl rfl, trivial⟩)
    · rw [rngD_len, List.length_map, cnt]
      exact r_ret (ev_var rfl) k
def preAns : List D → List D → Prop := fun ds l => ∃ (up low ins : List Int), AOk up low ins ∧ low ≠ [] ∧ up.length ≤ 100000 ∧ low.length ≤ 100000 ∧ ins.length ≤ 100000 ∧ ds = [rowD up, rowD low, rowD ins] ∧ l = (ansM up low (ratsOf ins) ins.length).map qD
theorem sc_answers_to : FnScope ["upper", "lower", "inputs", "heard", "found", "t", "here"] ["upper", "lower", "inputs"] (defScope s_answers_to) := ⟨rfl, rfl, rfl, by decide +kernel, rfl, by decide +kernel, by decide +kernel⟩
theorem ok_answers_to (T : Txt K mg) (S : SeerB P base) : FnOk P w K mg base CX0 43 T.answers_to.f T.answers_to.fd ["upper", "lower", "inputs"] (SpN K preAns) := by
  refine T.answers_to.F.ok sc_answers_to (fun vs H Q E h => ?_) (fun cdv A outer s H vs Q E hr h => ⟨_, (pss_cons (ps_set (i := 3) sc_answers_to.nd rfl (by first | exact Or.inl rfl | exact Or.inr rfl) (pe_own T.made_fractions (ok_made_fractions T) hr (pa_cons (pv 2) pa_nil) pass0))
      (pss_cons (ps_set (i := 4) sc_answers_to.nd rfl (by first | exact Or.inl rfl | exact Or.inr rfl) (pe_lst pa_nil))
      (pss_cons (ps_for PassesOwn.never rfl (pi_range1 rfl T.b_range (pa_cons (pe_callB (call_lenk K) rfl T.b_len PySem.boot_len (pa_cons (pv 3) pa_nil)) pa_nil)) (pg_name (i := 5) sc_answers_to.nd rfl (by first | exact Or.inl rfl | exact Or.inr rfl)) (pss_cons (ps_set (i := 6) sc_answers_to.nd rfl (by first | exact Or.inl rfl | exact Or.inr rfl) (pe_own T.less (ok_less T S) hr (pa_cons (pe_own T.weighed (ok_weighed T S) hr (pa_cons (pv 0) (pa_cons (pv 3) (pa_cons (pv 5) (pa_cons pe_int pa_nil)))) pass0) (pa_cons (pe_own T.weighed (ok_weighed T S) hr (pa_cons (pv 1) (pa_cons (pv 4) (pa_cons (pv 5) (pa_cons pe_int pa_nil)))) pass0) pa_nil)) pass0))
      (pss_one (ps_expr (pe_bm PySem.F.plainAttrs_list PySem.F.slot_list_append PySem.F.type_list_append mt_append (pv 4) (pa_cons (pe_own T.over (ok_over T S) hr (pa_cons (pv 6) (pa_cons (pe_tup (pa_cons (pe_ix (ix_listk K) (pv 1) pe_int (fun _ _ => rfl)) (pa_cons pe_int pa_nil))) pa_nil)) pass0) pa_nil))))))
      (pss_one (ps_ret (pv 4)))))), ?_⟩)
  · exact spn_len (fun ds d ⟨a, b, c, _, _, _, _, _, q, _⟩ => by rw [q] <;> rfl) h
  · obtain ⟨G, ds, l, hG, hR, ⟨up, low, ins, h1, h0, h2, h3, h4, rfl, rfl⟩, k⟩ := h
    have l1 : (1000000 : Int) < 2 ^ 62 := by decide
    have ll := List.length_pos_iff.mpr h0
    refine Run.go 4 hG hR rfl ?_
    with_reducible refine r_seq ?_
    refine r_asg (en_call (ea_1 (ev_var rfl)) ⟨ins, by omega, rfl, rfl⟩).dd ?_
    with_reducible refine r_seq ?_
    refine r_asgN (l := []) (en_lst ea_nil (Nat.zero_le _)) ?_
    with_reducible refine r_seq ?_
    have cnt : (((ratsOf ins).map qD).length : Int).toNat = ins.length := by
      simp only [List.length_map]
      omega
    refine r_for (ei_range1 (ea_1 (ev_len (ev_var rfl))) ?_ ?_) (fun t => [.fz (rowD up), .fz (rowD low), .fz (rowD ins), .fz (qsD (ratsOf ins)), .ow ((ansM up low (ratsOf ins) t).map qD), .no, .no]) (GLe.refl _) ?_ ?_
    · omega
    · simp only [List.length_map]
      omega
    · intro G1 t ds ht
      obtain ⟨ht2, rfl⟩ := rngD_at ht
      rw [cnt] at ht2
      have e0 : (0 : Int) + (t : Int) = (t : Int) := Int.zero_add _
      rw [e0]
      have u := h1.wu t ht2
      have v := h1.wl t ht2
      with_reducible refine r_seq ?_
      refine r_asg (d := qD (wS up (ratsOf ins) t 0 (wN up t 0) - wS low (ansM up low (ratsOf ins) t) t 1 (wN low t 1))) (ev_lend (n := 4) (ns := [_, _]) rfl rfl ?_) ?_
      · exact ev_call (ea_2 (ev_call (ea_cons (ev_var rfl) (ea_cons (ev_var rfl) (ea_2 (ev_var rfl) ev_int))) ⟨up, ratsOf ins, t, 0, u, h2, by omega, by omega, rfl, rfl⟩) (ev_call (ea_cons (ev_var rfl) (ea_cons (ev_var rfl) (ea_2 (ev_var rfl) ev_int))) ⟨low, ansM up low (ratsOf ins) t, t, 1, v, h3, by omega, by omega, rfl, rfl⟩)) ⟨_, _, u.sums _ (Nat.le_refl _), v.sums _ (Nat.le_refl _), rfl, rfl⟩
      · refine r_app (n := 4) rfl rfl (ev_call (ea_2 (ev_var rfl) (ev_tup (ea_2 (ev_ixL (k := 0) (ev_var rfl) ev_int rfl (map_int_at ll)) ev_int) (show 2 ≤ sizeLine by decide))) ⟨_, (at_ low 0 : Rat), h1.diff t ht2, h1.sc, cast_ne h1.c0, rfl, rfl⟩) (sl_lt ?_) (r_at ⟨.inr rfl, .inr rfl, .inr rfl, .inr rfl, .inr ?_, .inl rfl, .inl rfl, trivial⟩)
        · rw [List.length_map, ansM_len]
          omega
        · show Ent.ow ((ansM up low (ratsOf ins) t).map qD ++ [qD (stepA up low (ratsOf ins) t (ansM up low (ratsOf ins) t))]) = Ent.ow ((ansM up low (ratsOf ins) t ++ [stepA up low (ratsOf ins) t (ansM up low (ratsOf ins) t)]).map qD)
          rw [List.map_append]
          rfl
    · rw [rngD_len, cnt]
      exact r_retO rfl k
def clickI (n : Nat) : List Int := ((1 : Int) :: List.replicate n 0).take n
theorem clickI_rats (n : Nat) : ratsOf (clickI n) = clickL n := by
  unfold clickI clickL ratsOf
  rw [List.map_take, List.map_cons, List.map_replicate]
  rfl
theorem clickI_len (n : Nat) : (clickI n).length = n := by
  unfold clickI
  rw [List.length_take, List.length_cons, List.length_replicate]
  omega
def preClick : List D → List D → Prop := fun ds l => ∃ (up low : List Int) (n : Nat), AOk up low (clickI n) ∧ low ≠ [] ∧ up.length ≤ 100000 ∧ low.length ≤ 100000 ∧ n ≤ 1000 ∧ ds = [rowD up, rowD low, .int (n : Int)] ∧ l = (ansM up low (clickL n) n).map qD
theorem cut_head {l : List D} {n : Nat} (h : n ≤ l.length) : cutD l none (some (n : Int)) = l.take n := by
  unfold cutD
  rw [HT.sIx_none, HT.sIx_nat, Nat.min_eq_left h, List.drop_zero, Nat.sub_zero]
theorem sc_clicked : FnScope ["upper", "lower", "n"] ["upper", "lower", "n"] (defScope s_clicked) := ⟨rfl, rfl, rfl, by decide +kernel, rfl, by decide +kernel, by decide +kernel⟩
theorem ok_clicked (T : Txt K mg) (S : SeerB P base) : FnOk P w K mg base CX0 44 T.clicked.f T.clicked.fd ["upper", "lower", "n"] (SpN K preClick) := by
  refine T.clicked.F.ok sc_clicked (fun vs H Q E h => ?_) (fun cdv A outer s H vs Q E hr h => ⟨_, (pss_one (ps_ret (pe_own T.answers_to (ok_answers_to T S) hr (pa_cons (pv 0) (pa_cons (pv 1) (pa_cons (pe_slice (sl_listk K) (pe_op op_cat (pe_lst (pa_cons pe_int pa_nil)) (pe_op op_rep (pe_lst (pa_cons pe_int pa_nil)) (pv 2))) po_none (po_some (pv 2))) pa_nil))) pass0))), ?_⟩)
  · exact spn_len (fun ds d ⟨a, b, c, _, _, _, _, _, q, _⟩ => by rw [q] <;> rfl) h
  · obtain ⟨G, ds, l, hG, hR, ⟨up, low, n, h1, h0, h2, h3, h4, rfl, rfl⟩, k⟩ := h
    refine Run.go 0 hG hR rfl ?_
    have l1 : (1000000 : Int) ≤ (sizeLine : Int) := by decide
    refine r_retN (EvN.cast (en_call (ea_cons (ev_var rfl) (ea_2 (ev_var rfl) (d2 := rowD (clickI n)) ?_)) ⟨up, low, clickI n, h1, h0, h2, h3, by rw [clickI_len]; omega, rfl, rfl⟩) ?_) k
    · refine Evd.cast (en_slice (hi := some ((n : Nat) : Int)) (en_cat (en_lst (ea_1 ev_int) (show (1 : Nat) ≤ sizeLine by decide)).dd (en_rep (d := .int 0) (en_lst (ea_1 ev_int) (show (1 : Nat) ≤ sizeLine by decide)).dd (ev_var rfl) (by omega) (by omega)).dd (sl_of ?_)).dd ev_nopart (ev_part (ev_var rfl))).dd ?_
      · rw [List.length_replicate, List.length_singleton]
        omega
      · rw [cut_head (by rw [List.length_append, List.length_replicate, List.length_singleton]; omega)]
        show D.lst _ = D.lst _
        congr 1
        unfold clickI
        rw [List.map_take, List.map_cons, List.map_replicate, Int.toNat_natCast]
        rfl
    · rw [clickI_rats, clickI_len]

/-! ### without, loudness -/
def preWo : List D → D → Prop := fun ds d => ∃ (row far : List Rat) (part : Rat), row ≠ [] ∧ far.length = row.length ∧ row.length ≤ 100000 ∧ (∀ i, smq (qat row i)) ∧ (∀ i, smq (qat far i)) ∧ smq part ∧ (∀ j, smq (part * qat far j)) ∧ ds = [qsD row, qsD far, qD part] ∧ d = qsD (woR row far part)
theorem sc_without : FnScope ["row", "far", "part", "last", "i"] ["row", "far", "part"] (defScope s_without) := ⟨rfl, rfl, rfl, by decide +kernel, rfl, by decide +kernel, by decide +kernel⟩
theorem ok_without (T : Txt K mg) (S : SeerB P base) : FnOk P w K mg base CX0 42 T.without.f T.without.fd ["row", "far", "part"] (SpF K preWo) := by
  refine T.without.F.ok sc_without (fun vs H Q E h => ?_) (fun cdv A outer s H vs Q E hr h => ⟨_, (pss_cons (ps_set (i := 3) sc_without.nd rfl (by first | exact Or.inl rfl | exact Or.inr rfl) (pe_op op_sub (pe_callB (call_lenk K) rfl T.b_len PySem.boot_len (pa_cons (pv 0) pa_nil)) pe_int))
      (pss_one (ps_ret (pe_lc (own := [("i", 4)]) rfl sc_without.nd (pi_range1 rfl T.b_range (pa_cons (pv 3) pa_nil)) (blkOk_by (N := ["row", "far", "part", "last", "i"]) (sc := defScope (top 43)) (by decide +kernel)) (fun _ _ _ _ _ => by exact (pg_name (i := 4) sc_without.nd rfl (by first | exact Or.inl rfl | exact Or.inr rfl))) (fun _ _ _ _ _ => by exact pts_nil) (fun _ _ _ _ _ => by exact (pe_own T.less (ok_less T S) hr (pa_cons (pe_ix (ix_listk K) (pv 0) (pv 4) (fun _ _ => rfl)) (pa_cons (pe_own T.times (ok_times T S) hr (pa_cons (pv 2) (pa_cons (pe_ix (ix_listk K) (pv 1) (pe_op op_sub (pv 3) (pv 4)) (fun _ _ => rfl)) pa_nil)) pass0) pa_nil)) pass0)))))), ?_⟩)
  · exact spf_len (fun ds d ⟨a, b, c, _, _, _, _, _, _, _, q, _⟩ => by rw [q] <;> rfl) h
  · obtain ⟨G, ds, l, hG, hR, ⟨row, far, part, h0, h1, h2, h3, h4, h5, h6, rfl, rfl⟩, k⟩ := h
    have ll := List.length_pos_iff.mpr h0
    have l1 : (1000000 : Int) < 2 ^ 62 := by decide
    refine Run.go 2 hG hR rfl ?_
    with_reducible refine r_seq ?_
    refine r_asg (d := .int ((row.length - 1 : Nat) : Int)) (Evd.cast (ev_sub (ev_len (ev_var rfl)) ev_int) ?_) ?_
    · rw [List.length_map]
      congr 1
      omega
    refine r_ret (en_lcAll (ei_range1 (ea_1 (ev_var rfl)) ?_ ?_) (fun j hj => hj) ?_ ((woR row far part).map qD) ?_ ?_).dd k
    · omega
    · omega
    · rw [rngD_len]
      exact sl_of (by omega)
    · rw [rngD_len, List.length_map, woR_len]
      omega
    · intro G1 i ds d hi hd
      obtain ⟨hir, rfl⟩ := rngD_at hi
      have hir : i < row.length - 1 := by omega
      rw [map_q_at (by rw [woR_len]; exact hir)] at hd
      cases hd
      rw [woR_at hir]
      exact ev_call (ea_2 (ev_ixL (k := i) (ev_var rfl) (ev_var rfl) (by omega) (map_q_at (by omega))) (ev_call (ea_2 (ev_var rfl) (ev_ixL (k := row.length - 1 - i) (ev_var rfl) (ev_sub (ev_var rfl) (ev_var rfl)) (by omega) (map_q_at (by omega)))) ⟨part, _, h5, h4 _, rfl, rfl⟩)) ⟨_, _, h3 i, h6 _, rfl, rfl⟩
def preLoud : List D → D → Prop := fun ds d => ∃ (up low : List Int) (n : Nat), max up.length low.length = n + 1 ∧ n ≤ 10000 ∧ low ≠ [] ∧ LOk (padTo low (n + 1)) (padTo up (n + 1)) n ∧ ds = [rowD up, rowD low] ∧ d = qD (loudV up low)
theorem sc_loudness : FnScope ["upper", "lower", "size", "above", "below", "total", "k"] ["upper", "lower"] (defScope s_loudness) := ⟨rfl, rfl, rfl, by decide +kernel, rfl, by decide +kernel, by decide +kernel⟩
theorem ok_loudness (T : Txt K mg) (S : SeerB P base) : FnOk P w K mg base CX0 43 T.loudness.f T.loudness.fd ["upper", "lower"] (SpF K preLoud) := by
  refine T.loudness.F.ok sc_loudness (fun vs H Q E h => ?_) (fun cdv A outer s H vs Q E hr h => ⟨_, (pss_cons (ps_set (i := 2) sc_loudness.nd rfl (by first | exact Or.inl rfl | exact Or.inr rfl) (pe_callB (call_max2 rfl) rfl T.b_max (by decide +kernel) (pa_cons (pe_callB (call_lenk K) rfl T.b_len PySem.boot_len (pa_cons (pv 0) pa_nil)) (pa_cons (pe_callB (call_lenk K) rfl T.b_len PySem.boot_len (pa_cons (pv 1) pa_nil)) pa_nil))))
      (pss_cons (ps_set (i := 3) sc_loudness.nd rfl (by first | exact Or.inl rfl | exact Or.inr rfl) (pe_own T.made_fractions (ok_made_fractions T) hr (pa_cons (pe_own T.padded (ok_padded T) hr (pa_cons (pv 0) (pa_cons (pv 2) pa_nil)) pass0) pa_nil) pass0))
      (pss_cons (ps_set (i := 4) sc_loudness.nd rfl (by first | exact Or.inl rfl | exact Or.inr rfl) (pe_own T.made_fractions (ok_made_fractions T) hr (pa_cons (pe_own T.padded (ok_padded T) hr (pa_cons (pv 1) (pa_cons (pv 2) pa_nil)) pass0) pa_nil) pass0))
      (pss_cons (ps_set (i := 5) sc_loudness.nd rfl (by first | exact Or.inl rfl | exact Or.inr rfl) (pe_gt T.c_NOUGHT.1))
      (pss_cons (ps_for PassesOwn.never rfl (pi_range1 rfl T.b_range (pa_cons (pv 2) pa_nil)) (pg_name (i := 6) sc_loudness.nd rfl (by first | exact Or.inl rfl | exact Or.inr rfl)) (pss_cons (ps_set (i := 5) sc_loudness.nd rfl (by first | exact Or.inl rfl | exact Or.inr rfl) (pe_own T.plus (ok_plus T S) hr (pa_cons (pv 5) (pa_cons (pe_own T.over (ok_over T S) hr (pa_cons (pe_own T.times (ok_times T S) hr (pa_cons (pe_ix (ix_listk K) (pv 3) (pe_un un_neg pe_int) (fun _ _ => rfl)) (pa_cons (pe_ix (ix_listk K) (pv 3) (pe_un un_neg pe_int) (fun _ _ => rfl)) pa_nil)) pass0) (pa_cons (pe_ix (ix_listk K) (pv 4) pe_int (fun _ _ => rfl)) pa_nil)) pass0) pa_nil)) pass0))
      (pss_cons (ps_set (i := 3) sc_loudness.nd rfl (by first | exact Or.inl rfl | exact Or.inr rfl) (pe_own T.without (ok_without T S) hr (pa_cons (pv 3) (pa_cons (pv 4) (pa_cons (pe_own T.over (ok_over T S) hr (pa_cons (pe_ix (ix_listk K) (pv 3) (pe_un un_neg pe_int) (fun _ _ => rfl)) (pa_cons (pe_ix (ix_listk K) (pv 4) pe_int (fun _ _ => rfl)) pa_nil)) pass0) pa_nil))) pass0))
      (pss_one (ps_set (i := 4) sc_loudness.nd rfl (by first | exact Or.inl rfl | exact Or.inr rfl) (pe_own T.without (ok_without T S) hr (pa_cons (pv 4) (pa_cons (pv 4) (pa_cons (pe_own T.over (ok_over T S) hr (pa_cons (pe_ix (ix_listk K) (pv 4) (pe_un un_neg pe_int) (fun _ _ => rfl)) (pa_cons (pe_ix (ix_listk K) (pv 4) pe_int (fun _ _ => rfl)) pa_nil)) pass0) pa_nil))) pass0))))))
      (pss_one (ps_ret (pe_own T.over (ok_over T S) hr (pa_cons (pv 5) (pa_cons (pe_tup (pa_cons (pe_ix (ix_listk K) (pv 1) pe_int (fun _ _ => rfl)) (pa_cons pe_int pa_nil))) pa_nil)) pass0)))))))), ?_⟩)
  · exact spf_len (fun ds d ⟨a, b, c, _, _, _, _, q, _⟩ => by rw [q] <;> rfl) h
  · obtain ⟨G, ds, l, hG, hR, ⟨up, low, n, h1, h2, h0, L, rfl, rfl⟩, k⟩ := h
    have l1 : (1000000 : Int) < 2 ^ 62 := by decide
    have ll := List.length_pos_iff.mpr h0
    have cn := cK_ne L.nz
    refine Run.go 5 hG hR rfl ?_
    with_reducible refine r_seq ?_
    refine r_asg (d := .int ((n + 1 : Nat) : Int)) (Evd.cast (ev_max (ev_len (ev_var rfl)) (ev_len (ev_var rfl))) ?_) ?_
    · rw [List.length_map, List.length_map]
      congr 1
      omega
    with_reducible refine r_seq ?_
    refine r_asg (d := qsD (abvK (padTo low (n + 1)) (padTo up (n + 1)) 0)) (Evd.cast (en_call (ea_1 (en_call (ea_2 (ev_var rfl) (ev_var rfl)) ⟨up, n + 1, by omega, by omega, by omega, rfl, rfl⟩).dd) ⟨padTo up (n + 1), by rw [padTo_len]; omega, rfl, rfl⟩).dd ?_) ?_
    · rw [abv_zero _ _ _ (by omega), ← map_cast_pad _ _ (by omega)]
    with_reducible refine r_seq ?_
    refine r_asg (d := qsD (belK (padTo low (n + 1)) 0)) (Evd.cast (en_call (ea_1 (en_call (ea_2 (ev_var rfl) (ev_var rfl)) ⟨low, n + 1, by omega, by omega, by omega, rfl, rfl⟩).dd) ⟨padTo low (n + 1), by rw [padTo_len]; omega, rfl, rfl⟩).dd ?_) ?_
    · rw [bel_zero _ _ (by omega), ← map_cast_pad _ _ (by omega)]
    with_reducible refine r_seq ?_
    refine r_asg (d := qD (totK (padTo low (n + 1)) (padTo up (n + 1)) 0)) (Evd.cast (ev_nought T) (by rw [tot_zero])) ?_
    with_reducible refine r_seq ?_
    generalize hRR : padTo low (n + 1) = R at L cn ⊢
    generalize hAA : padTo up (n + 1) = A at L ⊢
    refine r_for (ei_range1 (ea_1 (ev_var rfl)) ?_ ?_) (fun i => [.fz (rowD up), .fz (rowD low), .fz (.int ((n + 1 : Nat) : Int)), .fz (qsD (abvK R A i)), .fz (qsD (belK R i)), .fz (qD (totK R A i)), .no]) (GLe.refl _) ?_ ?_
    · omega
    · omega
    · intro G1 i ds hi
      obtain ⟨hi2, rfl⟩ := rngD_at hi
      have hin : i ≤ n := by omega
      have b0 : qat (belK R i) 0 ≠ 0 := by
        rw [bel_at]
        have c1 := cast_ne (cn i (by omega))
        have z1 := cast_ne (L.nz i hin)
        intro z
        rw [Rat.div_def] at z
        rcases Rat.mul_eq_zero.mp z with q | q
        · exact z1 q
        · exact c1 (by rw [← Rat.inv_inv ((cK R i : Int) : Rat), q, Rat.inv_zero])
      have lA : (abvK R A i).length = (R.length - i - 1) + 1 := by
        rw [abv_len (by rw [L.lenA, L.lenR]), L.lenR]
        omega
      have lR : (belK R i).length = (R.length - i - 1) + 1 := by
        rw [bel_len, L.lenR]
        omega
      have top : ∀ {Γ : List Ent}, Γ[3]? = some (.fz (qsD (abvK R A i))) → Evd K G1 H Γ (tOp (rIxL K) (tVar 3) (tUn (rU fun i => .int (-i)) (tC (.int 1)))) (qD (qat (abvK R A i) (R.length - i - 1))) := fun h => ev_ixE (ev_var h) (ev_neg ev_int) (map_q_end lA)
      have bot : ∀ {Γ : List Ent}, Γ[4]? = some (.fz (qsD (belK R i))) → Evd K G1 H Γ (tOp (rIxL K) (tVar 4) (tUn (rU fun i => .int (-i)) (tC (.int 1)))) (qD (qat (belK R i) (R.length - i - 1))) := fun h => ev_ixE (ev_var h) (ev_neg ev_int) (map_q_end lR)
      have fst : ∀ {Γ : List Ent}, Γ[4]? = some (.fz (qsD (belK R i))) → Evd K G1 H Γ (tOp (rIxL K) (tVar 4) (tC (.int 0))) (qD (qat (belK R i) 0)) := fun h => ev_ixL (k := 0) (ev_var h) ev_int rfl (map_q_at (by omega))
      have sA := fun j => L.abv i j hin
      have sB := fun j => L.bel i j hin
      with_reducible refine r_seq ?_
      refine r_asg (d := qD (totK R A (i + 1))) (Evd.cast (ev_call (ea_2 (ev_var rfl) (ev_call (ea_2 (ev_call (ea_2 (top rfl) (top rfl)) ⟨_, _, sA _, sA _, rfl, rfl⟩) (fst rfl)) ⟨_, _, L.sq i hin, sB 0, b0, rfl, rfl⟩)) ⟨_, _, L.tot i (by omega), L.sqo i hin, rfl, rfl⟩) ?_) ?_
      · exact congrArg qD (tot_next (cn i (by omega)) (L.nz i hin))
      with_reducible refine r_seq ?_
      refine r_asg (d := qsD (abvK R A (i + 1))) (Evd.cast (ev_call (ea_cons (ev_var rfl) (ea_2 (ev_var rfl) (ev_call (ea_2 (top rfl) (fst rfl)) ⟨_, _, sA _, sB 0, b0, rfl, rfl⟩))) ⟨_, _, _, ?_, ?_, ?_, sA, sB, L.pa i hin, fun j => L.paf i j hin, rfl, rfl⟩) ?_) ?_
      · intro z
        rw [z] at lA
        cases lA
      · rw [lA, lR]
      · rw [lA, L.lenR]
        omega
      · rw [abv_next (by rw [L.lenA, L.lenR]) (cn i (by omega)) (L.nz i hin) (by rw [L.lenR]; omega)]
      refine r_asg (d := qsD (belK R (i + 1))) (Evd.cast (ev_call (ea_cons (ev_var rfl) (ea_2 (ev_var rfl) (ev_call (ea_2 (bot rfl) (fst rfl)) ⟨_, _, sB _, sB 0, b0, rfl, rfl⟩))) ⟨_, _, _, ?_, rfl, ?_, sB, sB, L.pb i hin, fun j => L.pbf i j hin, rfl, rfl⟩) ?_) (r_at ⟨.inr rfl, .inr rfl, .inr rfl, .inr rfl, .inr rfl, .inr rfl, .inl rfl, trivial⟩)
      · rw [bel_next (cn i (by omega)) (L.nz i hin) (by rw [L.lenR]; omega)]
      · intro z
        rw [z] at lR
        cases lR
      · rw [lR, L.lenR]
        omega
    · rw [rngD_len, show (((n + 1 : Nat) : Int)).toNat = n + 1 by omega]
      have z0 : at_ low 0 ≠ 0 := by
        have := L.nz 0 (by omega)
        rw [← hRR] at this
        rw [← padTo_at low (n + 1) 0]
        exact this
      have c0 : smq (at_ low 0 : Rat) := by
        have := L.c0
        rwa [← hRR, padTo_at] at this
      refine r_ret (Evd.cast (ev_call (ea_2 (ev_var rfl) (ev_tup (ea_2 (ev_ixL (k := 0) (ev_var rfl) ev_int rfl (map_int_at ll)) ev_int) (show 2 ≤ sizeLine by decide))) ⟨_, (at_ low 0 : Rat), L.tot (n + 1) (by omega), c0, cast_ne z0, rfl, rfl⟩) ?_) k
      have tl := tot_loud (R := R) (A := A) (by rw [L.lenA, L.lenR]) L.lenR L.nz n 0 (by omega)
      rw [tot_zero, Rat.zero_add, ← hRR, ← hAA, bel_zero _ _ (by omega), abv_zero _ _ _ (by omega)] at tl
      unfold loudV
      rw [h1, Nat.add_sub_cancel, tl, hRR, hAA]
end
end Qa

set_option Elab.async false
set_option linter.all false
set_option maxRecDepth 100000
set_option maxHeartbeats 4000000
namespace Qa
open PySem PySem.Spec PyProof.Rows L2
open Vbhlae (at_ trim common chain smaller Band Aid present)
section
variable {P : Program} {w : World} {K : PySem.W.Frag} {mg : Str → Option Value} {base : Heap}
/-! ### let_go -/
def preGo : List D → D → Prop := fun ds d => ∃ row told : List Int, row ≠ [] ∧ told.length = row.length - 1 ∧ row.length ≤ 100000 ∧ smr row ∧ smr told ∧ ds = [rowD row, rowD told] ∧ d = rowD (goU row told)
def goM (row told : List Int) (t : Nat) : Int := -((List.range (row.length - 1 - t)).map fun j => at_ row (t + j + 1) * at_ told j).sum
theorem upperOf_eq (row told : List Int) : Vbhlae.upperOf row told = (List.range (row.length - 1)).map (goM row told) := rfl
theorem range_take {n t : Nat} (h : t < n) (f : Nat → Int) : ((List.range t).map f) ++ [f t] = (List.range (t + 1)).map f := by
  rw [List.range_succ, List.map_append]
  rfl
theorem sc_let_go : FnScope ["row", "told", "many", "found", "t", "j"] ["row", "told"] (defScope s_let_go) := ⟨rfl, rfl, rfl, by decide +kernel, rfl, by decide +kernel, by decide +kernel⟩
theorem ok_let_go (T : Txt K mg) : FnOk P w K mg base CX0 1 T.let_go.f T.let_go.fd ["row", "told"] (SpF K preGo) := by
  refine T.let_go.F.ok sc_let_go (fun vs H Q E h => ?_) (fun cdv A outer s H vs Q E hr h => ⟨_, (pss_cons (ps_set (i := 2) sc_let_go.nd rfl (by first | exact Or.inl rfl | exact Or.inr rfl) (pe_op op_sub (pe_callB (call_lenk K) rfl T.b_len PySem.boot_len (pa_cons (pv 0) pa_nil)) pe_int))
      (pss_cons (ps_set (i := 3) sc_let_go.nd rfl (by first | exact Or.inl rfl | exact Or.inr rfl) (pe_lst pa_nil))
      (pss_cons (ps_for PassesOwn.never rfl (pi_range1 rfl T.b_range (pa_cons (pv 2) pa_nil)) (pg_name (i := 4) sc_let_go.nd rfl (by first | exact Or.inl rfl | exact Or.inr rfl)) (pss_one (ps_expr (pe_bm PySem.F.plainAttrs_list PySem.F.slot_list_append PySem.F.type_list_append mt_append (pv 3) (pa_cons (pe_un un_neg (pe_callB (cr_sumk K rfl) rfl T.b_sum (by decide +kernel) (pa_cons (pe_lc (own := [("j", 5)]) rfl sc_let_go.nd (pi_range2 rfl T.b_range (pa_cons (pe_op op_add (pv 4) pe_int) (pa_cons (pe_op op_add (pv 2) pe_int) pa_nil))) (blkOk_by (N := ["row", "told", "many", "found", "t", "j"]) (sc := defScope (top 45)) (by decide +kernel)) (fun _ _ _ _ _ => by exact (pg_name (i := 5) sc_let_go.nd rfl (by first | exact Or.inl rfl | exact Or.inr rfl))) (fun _ _ _ _ _ => by exact pts_nil) (fun _ _ _ _ _ => by exact (pe_op op_mulB (pe_ix (ix_listk K) (pv 0) (pv 5) (fun _ _ => rfl)) (pe_ix (ix_listk K) (pv 1) (pe_op op_sub (pe_op op_sub (pv 5) (pv 4)) pe_int) (fun _ _ => rfl))))) pa_nil))) pa_nil)))))
      (pss_one (ps_ret (pe_op op_cat (pv 3) (pe_lst (pa_cons pe_int pa_nil)))))))), ?_⟩)
  · exact spf_len (fun ds d ⟨a, b, _, _, _, _, _, q, _⟩ => by rw [q] <;> rfl) h
  · obtain ⟨G, ds, l, hG, hR, ⟨row, told, h0, h1, h2, h3, h4, rfl, rfl⟩, k⟩ := h
    have ll := List.length_pos_iff.mpr h0
    have l1 : (1000000 : Int) < 2 ^ 62 := by decide
    refine Run.go 4 hG hR rfl ?_
    with_reducible refine r_seq ?_
    refine r_asg (d := .int ((row.length - 1 : Nat) : Int)) (Evd.cast (ev_sub (ev_len (ev_var rfl)) ev_int) ?_) ?_
    · rw [List.length_map]
      congr 1
      omega
    with_reducible refine r_seq ?_
    refine r_asgN (l := []) (en_lst ea_nil (Nat.zero_le _)) ?_
    with_reducible refine r_seq ?_
    refine r_for (ei_range1 (ea_1 (ev_var rfl)) ?_ ?_) (fun t => [.fz (rowD row), .fz (rowD told), .fz (.int ((row.length - 1 : Nat) : Int)), .ow (((List.range t).map (goM row told)).map D.int), .no, .no]) (GLe.refl _) ?_ ?_
    · omega
    · omega
    · intro G1 t ds ht
      obtain ⟨ht2, rfl⟩ := rngD_at ht
      have htn : t < row.length - 1 := by omega
      have e0 : (0 : Int) + (t : Int) = (t : Int) := Int.zero_add _
      rw [e0]
      refine r_app (n := 3) rfl rfl (ev_neg (ev_sum (ns := (List.range (row.length - 1 - t)).map fun j => at_ row (t + j + 1) * at_ told j) ?_)) (sl_lt ?_) (r_at ⟨.inr rfl, .inr rfl, .inr rfl, .inr ?_, .inl rfl, .inr rfl, trivial⟩)
      · refine (en_lcAll (ei_range2 (ea_2 (ev_add (ev_var rfl) ev_int) (ev_add (ev_var rfl) ev_int)) ?_) (fun j hj => hj) ?_ _ ?_ ?_).dd
        · omega
        · rw [rngD_len]
          exact sl_of (by omega)
        · rw [rngD_len, List.length_map, List.length_map, List.length_range]
          omega
        · intro G2 i ds d hi hd
          obtain ⟨hin, rfl⟩ := rngD_at hi
          have hin : i < row.length - 1 - t := by omega
          rw [map_int_at (by rw [List.length_map, List.length_range]; exact hin), at_range hin] at hd
          cases hd
          exact ev_mul (ev_ixL (k := t + i + 1) (ev_var rfl) (ev_var rfl) (by omega) (map_int_at (by omega))) (ev_ixL (k := i) (ev_var rfl) (ev_sub (ev_sub (ev_var rfl) (ev_var rfl)) ev_int) (by omega) (map_int_at (by omega))) ⟨smr_at h3 _, smr_at h4 _⟩
      · rw [List.length_map, List.length_map, List.length_range]
        omega
      · show Ent.ow (((List.range t).map (goM row told)).map D.int ++ [D.int (goM row told t)]) = _
        rw [← range_take htn (goM row told), List.map_append (f := D.int)]
        rfl
    · rw [rngD_len, Int.toNat_natCast]
      refine r_freeze (n := 3) rfl rfl ?_
      refine r_ret (Evd.cast (en_cat (ev_var rfl) (en_lst (ea_1 ev_int) (show (1 : Nat) ≤ sizeLine by decide)).dd (sl_of ?_)).dd ?_) k
      · rw [List.length_map, List.length_map, List.length_range, List.length_singleton]
        omega
      · unfold goU
        rw [upperOf_eq]
        show D.lst _ = D.lst _
        rw [List.map_append (f := D.int)]
        rfl

/-! ### with_size, rows_told, fractions_told -/
def preSize : List D → List D → Prop := fun ds l => ∃ r : List Int, r.length ≤ 100000 ∧ ds = [rowD r] ∧ l = (Vbhlae.listRow r).map D.int
theorem sc_with_size : FnScope ["row"] ["row"] (defScope s_with_size) := ⟨rfl, rfl, rfl, by decide +kernel, rfl, by decide +kernel, by decide +kernel⟩
theorem ok_with_size (T : Txt K mg) : FnOk P w K mg base CX0 1 T.with_size.f T.with_size.fd ["row"] (SpN K preSize) := by
  refine T.with_size.F.ok sc_with_size (fun vs H Q E h => ?_) (fun cdv A outer s H vs Q E hr h => ⟨_, (pss_one (ps_ret (pe_op op_cat (pe_lst (pa_cons (pe_callB (call_lenk K) rfl T.b_len PySem.boot_len (pa_cons (pv 0) pa_nil)) pa_nil)) (pe_callTy (call_listk K) rfl T.b_list (by decide +kernel) (pa_cons (pv 0) pa_nil))))), ?_⟩)
  · exact spn_len (fun ds d ⟨a, _, q, _⟩ => by rw [q] <;> rfl) h
  · obtain ⟨G, ds, l, hG, hR, ⟨r, h1, rfl, rfl⟩, k⟩ := h
    refine Run.go 0 hG hR rfl ?_
    refine r_retN (EvN.cast (en_cat (en_lst (ea_1 (ev_len (ev_var rfl))) (show (1 : Nat) ≤ sizeLine by decide)).dd (en_listL (ev_var rfl)).dd (sl_of ?_)) ?_) k
    · rw [List.length_map, List.length_singleton]
      omega
    · rw [List.length_map]
      rfl
def preRows : List D → List D → Prop := fun ds l => ∃ rs : List (List Int), (∀ r ∈ rs, r.length ≤ 10000) ∧ rs.length ≤ 90 ∧ ds = [rowsD rs] ∧ l = (rs.flatMap Vbhlae.listRow).map D.int
theorem flat_len {rs : List (List Int)} (h : ∀ r ∈ rs, r.length ≤ 10000) : (rs.flatMap Vbhlae.listRow).length ≤ rs.length * 10001 := by
  induction rs with
  | nil => exact Nat.zero_le _
  | cons r rs ih =>
    rw [List.flatMap_cons, List.length_append, List.length_cons, Nat.succ_mul]
    have h1 := ih fun x hx => h x (List.mem_cons_of_mem _ hx)
    have h2 := h r List.mem_cons_self
    have h3 : (Vbhlae.listRow r).length = r.length + 1 := rfl
    omega
theorem sc_rows_told : FnScope ["rows", "found", "row"] ["rows"] (defScope s_rows_told) := ⟨rfl, rfl, rfl, by decide +kernel, rfl, by decide +kernel, by decide +kernel⟩
theorem ok_rows_told (T : Txt K mg) : FnOk P w K mg base CX0 2 T.rows_told.f T.rows_told.fd ["rows"] (SpN K preRows) := by
  refine T.rows_told.F.ok sc_rows_told (fun vs H Q E h => ?_) (fun cdv A outer s H vs Q E hr h => ⟨_, (pss_cons (ps_set (i := 1) sc_rows_told.nd rfl (by first | exact Or.inl rfl | exact Or.inr rfl) (pe_lst pa_nil))
      (pss_cons (ps_for PassesOwn.never rfl (pi_listk K (pv 0)) (pg_name (i := 2) sc_rows_told.nd rfl (by first | exact Or.inl rfl | exact Or.inr rfl)) (pss_one (ps_expr (pe_bm PySem.F.plainAttrs_list PySem.F.slot_list_extend PySem.F.type_list_extend mt_extend (pv 1) (pa_cons (pe_own T.with_size (ok_with_size T) hr (pa_cons (pv 2) pa_nil) pass0) pa_nil)))))
      (pss_one (ps_ret (pv 1))))), ?_⟩)
  · exact spn_len (fun ds d ⟨a, _, _, q, _⟩ => by rw [q] <;> rfl) h
  · obtain ⟨G, ds, l, hG, hR, ⟨rs, h1, h2, rfl, rfl⟩, k⟩ := h
    refine Run.go 2 hG hR rfl ?_
    with_reducible refine r_seq ?_
    refine r_asgN (l := []) (en_lst ea_nil (Nat.zero_le _)) ?_
    with_reducible refine r_seq ?_
    refine r_for (ei_list (ev_var rfl)) (fun i => [.fz (rowsD rs), .ow (((rs.take i).flatMap Vbhlae.listRow).map D.int), .no]) ⟨.inr rfl, .inr rfl, .inr rfl, trivial⟩ ?_ ?_
    · intro G1 i ds hi
      obtain ⟨hir, rfl⟩ := rows_item hi
      have hr := h1 _ (List.getElem_mem hir)
      have fl := flat_len (rs := rs.take i) fun r hr => h1 r (List.mem_of_mem_take hr)
      have tl : (rs.take i).length ≤ 90 := by
        rw [List.length_take]
        omega
      have tl2 : (rs.take i).length * 10001 ≤ 90 * 10001 := Nat.mul_le_mul_right _ tl
      refine r_ext (n := 1) rfl rfl (en_call (ea_1 (ev_var rfl)) ⟨rs[i], by omega, rfl, rfl⟩).dd (sl_of ?_) (r_at ⟨.inr rfl, .inr ?_, .inl rfl, trivial⟩)
      · rw [List.length_map, List.length_map]
        have h3 : (Vbhlae.listRow rs[i]).length = rs[i].length + 1 := rfl
        omega
      · rw [List.take_succ_eq_append_getElem hir, List.flatMap_append, List.map_append]
        show _ = Ent.ow (_ ++ ((Vbhlae.listRow rs[i]) ++ []).map D.int)
        rw [List.append_nil]
    · rw [List.length_map, List.length_map, List.take_length]
      exact r_retO rfl k
/-- fractions, one behind the other -/
def fracs (l : List Rat) : List Int := l.flatMap fun x => [x.num, (x.den : Int)]
theorem fracs_oq (l : List Rat) : (l.map oq).flatMap Vbhlae.qRow = fracs l := by
  unfold fracs
  rw [List.flatMap_map]
  rfl
theorem fracs_len (l : List Rat) : (fracs l).length = 2 * l.length := by
  unfold fracs
  induction l with
  | nil => rfl
  | cons x l ih =>
    rw [List.flatMap_cons, List.length_append, ih, List.length_cons]
    show 2 + 2 * l.length = 2 * (l.length + 1)
    omega
def preFracs : List D → List D → Prop := fun ds l => ∃ qs : List Rat, qs.length ≤ 100000 ∧ ds = [qsD qs] ∧ l = (fracs qs).map D.int
theorem sc_fractions_told : FnScope ["some", "found", "top", "bottom"] ["some"] (defScope s_fractions_told) := ⟨rfl, rfl, rfl, by decide +kernel, rfl, by decide +kernel, by decide +kernel⟩
theorem ok_fractions_told (T : Txt K mg) : FnOk P w K mg base CX0 1 T.fractions_told.f T.fractions_told.fd ["some"] (SpN K preFracs) := by
  refine T.fractions_told.F.ok sc_fractions_told (fun vs H Q E h => ?_) (fun cdv A outer s H vs Q E hr h => ⟨_, (pss_cons (ps_set (i := 1) sc_fractions_told.nd rfl (by first | exact Or.inl rfl | exact Or.inr rfl) (pe_lst pa_nil))
      (pss_cons (ps_for PassesOwn.never rfl (pi_listk K (pv 0)) (pg_tupk K (n := 2) (pgs_cons (pg_name (i := 2) sc_fractions_told.nd rfl (by first | exact Or.inl rfl | exact Or.inr rfl)) (pgs_cons (pg_name (i := 3) sc_fractions_told.nd rfl (by first | exact Or.inl rfl | exact Or.inr rfl)) pgs_nil))) (pss_one (ps_expr (pe_bm PySem.F.plainAttrs_list PySem.F.slot_list_extend PySem.F.type_list_extend mt_extend (pv 1) (pa_cons (pe_lst (pa_cons (pv 2) (pa_cons (pv 3) pa_nil))) pa_nil)))))
      (pss_one (ps_ret (pv 1))))), ?_⟩)
  · exact spn_len (fun ds d ⟨a, _, q, _⟩ => by rw [q] <;> rfl) h
  · obtain ⟨G, ds, l, hG, hR, ⟨qs, h1, rfl, rfl⟩, k⟩ := h
    refine Run.go 3 hG hR rfl ?_
    with_reducible refine r_seq ?_
    refine r_asgN (l := []) (en_lst ea_nil (Nat.zero_le _)) ?_
    with_reducible refine r_seq ?_
    refine r_for (ei_pairs (ps := qs.map fun x => (D.int x.num, D.int (x.den : Int))) (Evd.cast (ev_var rfl) ?_)) (fun i => [.fz (qsD qs), .ow ((fracs (qs.take i)).map D.int), .no, .no]) ⟨.inr rfl, .inr rfl, .inr rfl, .inr rfl, trivial⟩ ?_ ?_
    · rw [List.map_map]
      rfl
    · intro G1 i ds hi
      have hir : i < qs.length := by
        have := (List.getElem?_eq_some_iff.mp hi).1
        simpa using this
      rw [List.getElem?_map, List.getElem?_map, List.getElem?_eq_getElem hir] at hi
      have hi : some [D.int qs[i].num, D.int (qs[i].den : Int)] = some ds := hi
      cases hi
      refine r_ext (n := 1) rfl rfl (en_lst (ea_2 (ev_var rfl) (ev_var rfl)) (show (2 : Nat) ≤ sizeLine by decide)).dd (sl_of ?_) (r_at ⟨.inr rfl, .inr ?_, .inl rfl, .inl rfl, trivial⟩)
      · rw [List.length_map, fracs_len, List.length_take]
        show 2 * min i qs.length + 2 ≤ 1000000
        omega
      · rw [List.take_succ_eq_append_getElem hir]
        unfold fracs
        rw [List.flatMap_append, List.map_append]
        rfl
    · simp only [List.length_map]
      rw [List.take_length]
      exact r_retO rfl k

/-! ### what is refused -/
def spRi (CR : Addr) : Sp := fun vs H Q _ => ∃ (a : Addr) (c : Int), vs = [.ref a, .int c] ∧ H a = some (exo a CR none) ∧ ∀ d : Addr, H d = none → d ≠ a → Q .non (upd (upd H d (exd d [("code", .int c)])) a (exo a CR (some d)))
theorem sc_Refused_init : FnScope ["self", "code"] ["self", "code"] (defScope s_Refused_init) := ⟨rfl, rfl, rfl, by decide +kernel, rfl, by decide +kernel, by decide +kernel⟩
theorem ok_Refused_init (T : Txt K mg) : FnOk P w K mg base CX0 1 T.Refused_init.f T.Refused_init.fd ["self", "code"] (spRi T.CR) := by
  refine T.Refused_init.F.ok sc_Refused_init (fun vs H Q E h => ?_) (fun cdv A outer s H vs Q E hr h => ⟨_, pss_cons (ps_expr (pe_veinit rfl T.b_ValueError T.vV (pa_cons (pv 0) (pa_cons pe_str pa_nil)))) (pss_one (ps_ost (pv 0) (pv 1))), ?_⟩)
  · obtain ⟨a, c, rfl, _⟩ := h
    rfl
  · obtain ⟨a, c, rfl, ha, k⟩ := h
    refine ⟨_, rfl, a, T.CR, _, rfl, by show 1 ≤ 1000; decide, T.ox, ha, ?_⟩
    refine ⟨_, rfl, _, rfl, a, T.CR, rfl, T.ox, T.noC, .inl ⟨ha, fun d hd hne => ?_⟩⟩
    exact k d hd hne
def preWant : List D → Except Int D → Prop := fun ds r => ∃ (b : Bool) (c : Int), ds = [.bl b, .int c] ∧ r = if b = true then .ok .non else .error c
theorem sc_want : FnScope ["truth", "code"] ["truth", "code"] (defScope s_want) := ⟨rfl, rfl, rfl, by decide +kernel, rfl, by decide +kernel, by decide +kernel⟩
theorem ok_want (T : Txt K mg) : FnOk P w K mg base (L2.CX P w) 3 T.want.f T.want.fd ["truth", "code"] (SpX K T.CR preWant) := by
  refine T.want.F.okX sc_want (fun vs H Q E h => ?_) (fun cdv A outer s H vs Q E hr h => ⟨_, pss_one (ps_if (pt_not (pt_val (pv 0))) (pss_one (ps_raise rfl (takes_of rfl rfl rfl rfl) (pmk_oex T.ox T.iR T.tR (ok_Refused_init T) hr T.Refused_init.b .nil pass0 rfl T.g_Refused (pa_cons (pv 1) pa_nil)))) pss_nil), ?_⟩)
  · exact spx_len (fun ds d ⟨a, b, q, _⟩ => by rw [q] <;> rfl) h
  · obtain ⟨G, ds, r, hG, hR, ⟨b, c, rfl, rfl⟩, k, kE⟩ := h
    refine Run.go (G := G) 0 hG hR rfl ?_
    refine r_if (et_not (et_b (ev_var rfl))) (fun hb => ?_) (fun hb => ?_)
    · have hb : b = false := by simpa using hb
      subst hb
      have E1 := kE c rfl
      intro σ G1 H1 s1
      have cv := ev_var (K := K) (G0 := G) (H0 := H) (Γ := [.fz (.bl false), .fz (.int c)]) (n := 1) rfl
      refine cv σ G1 H1 s1 _ fun v G2 H2 g2 r2 => ⟨by show 1 ≤ 1000; decide, fun a ha => ?_⟩
      have r2 : v = .int c := r2
      subst r2
      refine ⟨a, c, rfl, upd_same, fun d hd hne => ⟨rfl, d, [("code", .int c)], upd_same, ?_, ?_, ?_⟩⟩
      · rw [upd_ne hne]
        exact upd_same
      · rwa [upd_ne hne] at hd
      · have hd2 : H2 d = none := by rwa [upd_ne hne] at hd
        have sH : Same H H2 := (s1.step g2).gh.hh
        refine E1 d _ (fun b o e => ?_) (sH.free hd2) upd_same
        have e2 := sH b o e
        have nb : b ≠ d := ne_of_none e2 hd2
        have na : b ≠ a := ne_of_none e2 ha
        rw [upd_ne nb, del_ne na, upd_ne na, upd_ne nb, upd_ne na]
        exact e2
    · have hb : b = true := by simpa using hb
      subst hb
      intro σ G1 H1 s1
      exact k .non rfl .non G1 H1 s1.gh rfl
/-- the fact that is wanted holds, or the number is refused -/
theorem r_want (T : Txt K mg) {G0 H0 : Hp} {Γ : List Ent} {ta : TE} {tc : TE} {b : Bool} {c : Int} {E : XK} {De : Ends} (hb : Evd K G0 H0 Γ ta (.bl b)) (hc : Evd K G0 H0 Γ tc (.int c)) (hE : b = false → Er T.CR E H0 c) (k : b = true → Run K G0 H0 Γ De.nx) :
    Run K G0 H0 Γ (tDrop (tCall (SpX K T.CR preWant) [] E (tCons ta (tCons tc tNil))) De) := by
  refine r_dropX (ex_call (ea_2 hb hc) ⟨b, c, rfl, rfl⟩ fun c' e => ?_) fun d e => ?_
  · cases b with
    | true => cases e
    | false =>
      cases e
      exact hE rfl
  · cases b with
    | true => exact k rfl
    | false => cases e
def preWithin : List D → Except Int D → Prop := fun ds r => ∃ n lo hi : Int, ds = [.int n, .int lo, .int hi] ∧ r = if Vbhlae.inr n lo hi = true then .ok .non else .error (-1)
theorem sc_want_within : FnScope ["number", "least", "most"] ["number", "least", "most"] (defScope s_want_within) := ⟨rfl, rfl, rfl, by decide +kernel, rfl, by decide +kernel, by decide +kernel⟩
theorem ok_want_within (T : Txt K mg) : FnOk P w K mg base (L2.CX P w) 4 T.want_within.f T.want_within.fd ["number", "least", "most"] (SpX K T.CR preWithin) := by
  refine T.want_within.F.okX sc_want_within (fun vs H Q E h => ?_) (fun cdv A outer s H vs Q E hr h => ⟨_, (pss_one (ps_expr (pe_own T.want (ok_want T) hr (pa_cons (pe_chain op_le op_le (pv 1) (pv 0) (pv 2)) (pa_cons (pe_gi T.c_BAD) pa_nil)) (px rfl rfl rfl rfl)))), ?_⟩)
  · exact spx_len (fun ds d ⟨a, b, c, q, _⟩ => by rw [q] <;> rfl) h
  · obtain ⟨G, ds, r, hG, hR, ⟨n, lo, hi, rfl, rfl⟩, k, kE⟩ := h
    refine Run.go (G := G) 0 hG hR rfl ?_
    have e : Vbhlae.inr n lo hi = (decide (lo ≤ n) && decide (n ≤ hi)) := rfl
    rw [e] at k kE
    refine r_want T (ev_chain (ev_var rfl) (ev_var rfl) (ev_var rfl)) ev_int (fun hb => kE _ (if_neg (by rw [hb]; exact Bool.false_ne_true))) fun hb => ?_
    intro σ G1 H1 s1
    exact k .non (if_pos hb) .non G1 H1 s1.gh rfl
/-- want_within as a statement -/
theorem r_within (T : Txt K mg) {G0 H0 : Hp} {Γ : List Ent} {ta tb tc : TE} {n lo hi : Int} {E : XK} {De : Ends} (ha : Evd K G0 H0 Γ ta (.int n)) (hb : Evd K G0 H0 Γ tb (.int lo)) (hc : Evd K G0 H0 Γ tc (.int hi)) (hE : Vbhlae.inr n lo hi = false → Er T.CR E H0 (-1)) (k : Vbhlae.inr n lo hi = true → Run K G0 H0 Γ De.nx) :
    Run K G0 H0 Γ (tDrop (tCall (SpX K T.CR preWithin) [] E (tCons ta (tCons tb (tCons tc tNil)))) De) := by
  refine r_dropX (ex_call (ea_cons ha (ea_2 hb hc)) ⟨n, lo, hi, rfl, rfl⟩ fun c' e => ?_) fun d e => ?_
  · cases q : Vbhlae.inr n lo hi with
    | true =>
      rw [q] at e
      cases e
    | false =>
      rw [q] at e
      cases e
      exact hE q
  · cases q : Vbhlae.inr n lo hi with
    | true => exact k q
    | false =>
      rw [q] at e
      cases e
def rowOk (r : List Int) (lo hi far : Int) : Bool := (decide (lo ≤ (r.length : Int)) && decide ((r.length : Int) ≤ hi)) && r.all fun a => decide (-far ≤ a) && decide (a ≤ far)
def preWrow : List D → Except Int D → Prop := fun ds r => ∃ (row : List Int) (lo hi far : Int), row.length ≤ 1000000 ∧ ds = [rowD row, .int lo, .int hi, .int far] ∧ r = if rowOk row lo hi far = true then .ok .non else .error (-1)
theorem sc_want_row : FnScope ["row", "least_long", "most_long", "far", "a"] ["row", "least_long", "most_long", "far"] (defScope s_want_row) := ⟨rfl, rfl, rfl, by decide +kernel, rfl, by decide +kernel, by decide +kernel⟩
theorem ok_want_row (T : Txt K mg) : FnOk P w K mg base (L2.CX P w) 4 T.want_row.f T.want_row.fd ["row", "least_long", "most_long", "far"] (SpX K T.CR preWrow) := by
  refine T.want_row.F.okX sc_want_row (fun vs H Q E h => ?_) (fun cdv A outer s H vs Q E hr h => ⟨_, (pss_one (ps_expr (pe_own T.want (ok_want T) hr (pa_cons (pe_and (pe_chain op_le op_le (pv 1) (pe_callB (call_lenk K) rfl T.b_len PySem.boot_len (pa_cons (pv 0) pa_nil)) (pv 2)) (pe_one (pe_callB (cr_allk K rfl) rfl T.b_all (by decide +kernel) (pa_cons (pe_lc (own := [("a", 4)]) rfl sc_want_row.nd (pi_listk K (pv 0)) (blkOk_by (N := ["row", "least_long", "most_long", "far", "a"]) (sc := defScope (top 12)) (by decide +kernel)) (fun _ _ _ _ _ => by exact (pg_name (i := 4) sc_want_row.nd rfl (by first | exact Or.inl rfl | exact Or.inr rfl))) (fun _ _ _ _ _ => by exact pts_nil) (fun _ _ _ _ _ => by exact (pe_chain op_le op_le (pe_un un_neg (pv 3)) (pv 4) (pv 3)))) pa_nil)))) (pa_cons (pe_gi T.c_BAD) pa_nil)) (px rfl rfl rfl rfl)))), ?_⟩)
  · exact spx_len (fun ds d ⟨a, b, c, e, _, q, _⟩ => by rw [q] <;> rfl) h
  · obtain ⟨G, ds, r, hG, hR, ⟨row, lo, hi, far, h1, rfl, rfl⟩, k, kE⟩ := h
    refine Run.go (G := G) 1 hG hR rfl ?_
    refine r_want (b := rowOk row lo hi far) T (Evd.cast (ev_and (ev_chain (ev_var rfl) (ev_len (ev_var rfl)) (ev_var rfl)) fun _ => ev_all (bs := row.map fun a => decide (-far ≤ a) && decide (a ≤ far)) (en_lcAll (ei_list (ev_var rfl)) (fun j hj => hj) ?_ _ ?_ ?_).dd) ?_) ev_int (fun hb => kE _ (if_neg (by rw [hb]; exact Bool.false_ne_true))) fun hb => ?_
    · rw [List.length_map, List.length_map]
      exact sl_of h1
    · simp only [List.length_map]
    · intro G1 i ds d hi hd
      obtain ⟨hir, rfl⟩ := ints_item hi
      rw [List.getElem?_map, List.getElem?_map, List.getElem?_eq_getElem hir] at hd
      have hd : some (D.bl (decide (-far ≤ row[i]) && decide (row[i] ≤ far))) = some d := hd
      cases hd
      rw [← at_lt hir]
      exact ev_chain (ev_neg (ev_var rfl)) (ev_var rfl) (ev_var rfl)
    · unfold rowOk
      rw [List.length_map, List.all_map]
      rfl
    · intro σ G1 H1 s1
      exact k .non (if_pos hb) .non G1 H1 s1.gh rfl
theorem r_wrow (T : Txt K mg) {G0 H0 : Hp} {Γ : List Ent} {ta tb tc td : TE} {row : List Int} {lo hi far : Int} {E : XK} {De : Ends} (hl : row.length ≤ 1000000) (ha : Evd K G0 H0 Γ ta (rowD row)) (hb : Evd K G0 H0 Γ tb (.int lo)) (hc : Evd K G0 H0 Γ tc (.int hi)) (hd : Evd K G0 H0 Γ td (.int far))
    (hE : rowOk row lo hi far = false → Er T.CR E H0 (-1)) (k : rowOk row lo hi far = true → Run K G0 H0 Γ De.nx) :
    Run K G0 H0 Γ (tDrop (tCall (SpX K T.CR preWrow) [] E (tCons ta (tCons tb (tCons tc (tCons td tNil))))) De) := by
  refine r_dropX (ex_call (ea_cons ha (ea_cons hb (ea_2 hc hd))) ⟨row, lo, hi, far, hl, rfl, rfl⟩ fun c' e => ?_) fun d e => ?_
  · cases q : rowOk row lo hi far with
    | true =>
      rw [q] at e
      cases e
    | false =>
      rw [q] at e
      cases e
      exact hE q
  · cases q : rowOk row lo hi far with
    | true => exact k q
    | false =>
      rw [q] at e
      cases e
def filtOk (u l : List Int) : Bool := rowOk u 1 4 100 && (rowOk l 1 3 100 && !decide (at_ l 0 = 0))
def preWfil : List D → Except Int D → Prop := fun ds r => ∃ u l : List Int, u.length ≤ 1000000 ∧ l.length ≤ 1000000 ∧ ds = [rowD u, rowD l] ∧ r = if filtOk u l = true then .ok .non else .error (-1)
theorem rowOk_len {r : List Int} {lo hi far : Int} (h : rowOk r lo hi far = true) : lo ≤ (r.length : Int) ∧ (r.length : Int) ≤ hi := by
  unfold rowOk at h
  rw [Bool.and_eq_true, Bool.and_eq_true] at h
  exact ⟨of_decide_eq_true h.1.1, of_decide_eq_true h.1.2⟩
theorem sc_want_filter : FnScope ["upper", "lower"] ["upper", "lower"] (defScope s_want_filter) := ⟨rfl, rfl, rfl, by decide +kernel, rfl, by decide +kernel, by decide +kernel⟩
theorem ok_want_filter (T : Txt K mg) : FnOk P w K mg base (L2.CX P w) 5 T.want_filter.f T.want_filter.fd ["upper", "lower"] (SpX K T.CR preWfil) := by
  refine T.want_filter.F.okX sc_want_filter (fun vs H Q E h => ?_) (fun cdv A outer s H vs Q E hr h => ⟨_, (pss_cons (ps_expr (pe_own T.want_row (ok_want_row T) hr (pa_cons (pv 0) (pa_cons pe_int (pa_cons (pe_gi T.c_MOST_UPPER) (pa_cons (pe_gi T.c_MOST_OF_FILTERS) pa_nil)))) (px rfl rfl rfl rfl)))
      (pss_cons (ps_expr (pe_own T.want_row (ok_want_row T) hr (pa_cons (pv 1) (pa_cons pe_int (pa_cons (pe_gi T.c_MOST_LOWER) (pa_cons (pe_gi T.c_MOST_OF_FILTERS) pa_nil)))) (px rfl rfl rfl rfl)))
      (pss_one (ps_expr (pe_own T.want (ok_want T) hr (pa_cons (pe_cmpR op_ne (pe_ix (ix_listk K) (pv 1) pe_int (fun _ _ => rfl)) pe_int (nomark _)) (pa_cons (pe_gi T.c_BAD) pa_nil)) (px rfl rfl rfl rfl)))))), ?_⟩)
  · exact spx_len (fun ds d ⟨a, b, _, _, q, _⟩ => by rw [q] <;> rfl) h
  · obtain ⟨G, ds, r, hG, hR, ⟨u, l, h1, h2, rfl, rfl⟩, k, kE⟩ := h
    refine Run.go (G := G) 0 hG hR rfl ?_
    have bad : filtOk u l = false → Er T.CR E H (-1) := fun hb => kE _ (if_neg (by rw [hb]; exact Bool.false_ne_true))
    with_reducible refine r_seq ?_
    refine r_wrow T h1 (ev_var rfl) ev_int ev_int ev_int (fun hb => bad (by unfold filtOk; rw [hb]; rfl)) fun q1 => ?_
    with_reducible refine r_seq ?_
    refine r_wrow T h2 (ev_var rfl) ev_int ev_int ev_int (fun hb => bad (by unfold filtOk; rw [q1, hb]; rfl)) fun q2 => ?_
    have ll := rowOk_len q2
    refine r_want T (ev_ne (ev_ixL (k := 0) (ev_var rfl) ev_int rfl (map_int_at (by omega))) ev_int) ev_int (fun hb => bad (by unfold filtOk; rw [q1, q2, hb]; rfl)) fun q3 => ?_
    intro σ G1 H1 s1
    exact k .non (if_pos (by unfold filtOk; rw [q1, q2, q3]; rfl)) .non G1 H1 s1.gh rfl
theorem r_wfil (T : Txt K mg) {G0 H0 : Hp} {Γ : List Ent} {ta tb : TE} {u l : List Int} {E : XK} {De : Ends} (h1 : u.length ≤ 1000000) (h2 : l.length ≤ 1000000) (ha : Evd K G0 H0 Γ ta (rowD u)) (hb : Evd K G0 H0 Γ tb (rowD l)) (hE : filtOk u l = false → Er T.CR E H0 (-1)) (k : filtOk u l = true → Run K G0 H0 Γ De.nx) :
    Run K G0 H0 Γ (tDrop (tCall (SpX K T.CR preWfil) [] E (tCons ta (tCons tb tNil))) De) := by
  refine r_dropX (ex_call (ea_2 ha hb) ⟨u, l, h1, h2, rfl, rfl⟩ fun c' e => ?_) fun d e => ?_
  · cases q : filtOk u l with
    | true =>
      rw [q] at e
      cases e
    | false =>
      rw [q] at e
      cases e
      exact hE q
  · cases q : filtOk u l with
    | true => exact k q
    | false =>
      rw [q] at e
      cases e
end
end Qa

set_option Elab.async false
set_option linter.all false
set_option maxRecDepth 100000
set_option maxHeartbeats 4000000
namespace Qa
open PySem PySem.Spec PyProof.Rows L2
open Vbhlae (at_ trim common chain smaller Band Aid present Q)
/-! ### an aid, as data -/
def qqD (q : Vbhlae.Q) : D := .tup [.int q.num, .int (q.den : Int)]
def bandD (CB : Addr) (b : Band) : D := .ins CB ["gain", "upper", "lower"] [qqD b.gain, rowD b.up, rowD b.low]
def obD (CB : Addr) : Option Band → D
  | none => .non
  | some b => bandD CB b
def aidD (CA CB : Addr) (s : Aid) : D := .ins CA ["leak_upper", "leak_lower", "bands"] [rowD s.leakUp, rowD s.leakLow, .lst (s.bands.map (obD CB))]
theorem qq_gain {b : Band} (h : BandOk b) : qqD b.gain = qD (gainR b.gain) := by
  have e := h.gain.low
  show qqD b.gain = qqD (oq (gainR b.gain))
  rw [e]
theorem ix_lu : ixS ["leak_upper", "leak_lower", "bands"] "leak_upper" 0 = some (0 + 0) := by decide +kernel
theorem ix_ll : ixS ["leak_upper", "leak_lower", "bands"] "leak_lower" 0 = some (0 + 1) := by decide +kernel
theorem ix_bs : ixS ["leak_upper", "leak_lower", "bands"] "bands" 0 = some (0 + 2) := by decide +kernel
theorem ix_g : ixS ["gain", "upper", "lower"] "gain" 0 = some (0 + 0) := by decide +kernel
theorem ix_u : ixS ["gain", "upper", "lower"] "upper" 0 = some (0 + 1) := by decide +kernel
theorem ix_l : ixS ["gain", "upper", "lower"] "lower" 0 = some (0 + 2) := by decide +kernel
theorem no_tog : ixS ["leak_upper", "leak_lower", "bands"] "together" 0 = none := by decide +kernel
theorem no_rat : ixS ["leak_upper", "leak_lower", "bands"] "ring_at" 0 = none := by decide +kernel
theorem no_ring : ixS ["leak_upper", "leak_lower", "bands"] "ring" 0 = none := by decide +kernel
theorem no_heard : ixS ["leak_upper", "leak_lower", "bands"] "heard" 0 = none := by decide +kernel
theorem no_bat : ixS ["leak_upper", "leak_lower", "bands"] "band_at" 0 = none := by decide +kernel
section
variable {P : Program} {w : World} {K : PySem.W.Frag} {mg : Str → Option Value} {base : Heap}
section
variable {G0 H0 : Hp} {Γ : List Ent} {ta : TE} {s : Aid} {b : Band}
theorem ev_lu (T : Txt K mg) (h : Evd K G0 H0 Γ ta (aidD T.CA T.CB s)) : Evd K G0 H0 Γ (tFld K ta "leak_upper") (rowD s.leakUp) := ev_fld h T.cl_CA T.n_leak_upper ix_lu rfl
theorem ev_ll (T : Txt K mg) (h : Evd K G0 H0 Γ ta (aidD T.CA T.CB s)) : Evd K G0 H0 Γ (tFld K ta "leak_lower") (rowD s.leakLow) := ev_fld h T.cl_CA T.n_leak_lower ix_ll rfl
theorem ev_bs (T : Txt K mg) (h : Evd K G0 H0 Γ ta (aidD T.CA T.CB s)) : Evd K G0 H0 Γ (tFld K ta "bands") (.lst (s.bands.map (obD T.CB))) := ev_fld h T.cl_CA T.n_bands ix_bs rfl
theorem ev_bg (T : Txt K mg) (h : Evd K G0 H0 Γ ta (bandD T.CB b)) : Evd K G0 H0 Γ (tFld K ta "gain") (qqD b.gain) := ev_fld h T.cl_CB T.n_gain ix_g rfl
theorem ev_bu (T : Txt K mg) (h : Evd K G0 H0 Γ ta (bandD T.CB b)) : Evd K G0 H0 Γ (tFld K ta "upper") (rowD b.up) := ev_fld h T.cl_CB T.n_upper ix_u rfl
theorem ev_bl' (T : Txt K mg) (h : Evd K G0 H0 Γ ta (bandD T.CB b)) : Evd K G0 H0 Γ (tFld K ta "lower") (rowD b.low) := ev_fld h T.cl_CB T.n_lower ix_l rfl
end
theorem vol_smq {v : Rat} (h : VolOk v) : smq v := ⟨sm_of (n := 10) (Nat.lt_of_le_of_lt h.num (by decide)) (by unfold BB; omega), sm_of (n := 10) (by rw [Int.natAbs_natCast]; exact Nat.lt_of_le_of_lt h.den (by decide)) (by unfold BB; omega)⟩
theorem gain_smq {b : Band} (h : BandOk b) : smq (gainR b.gain) := by
  have g := h.gain
  have e1 : (gainR b.gain).num = b.gain.num := congrArg Vbhlae.Q.num g.low
  have e2 : (gainR b.gain).den = b.gain.den := congrArg Vbhlae.Q.den g.low
  refine vol_smq ⟨?_, ?_⟩
  · rw [e1]
    exact g.num
  · rw [e2]
    exact g.den
theorem bl_sm {n : Nat} {r : List Int} (h : bl n r) (hn : n ≤ 1000) : smr r := sm_bl h (Nat.le_trans hn (by unfold BB; omega))
theorem small_sm {x : Int} (h : x.natAbs ≤ 1000000) : sm x := sm_of (n := 20) (Nat.lt_of_le_of_lt h (by decide)) (by unfold BB; omega)
/-! ### together -/
def preTog (CA CB : Addr) : List D → D → Prop := fun ds d => ∃ (s : Aid) (v : Rat), AidOk s ∧ VolOk v ∧ ds = [aidD CA CB s, qD v] ∧ d = .tup [rowD (upM v (present s) (present s).length), rowD (pallM ((present s).map (lowM v)))]
theorem fm_present (CB : Addr) (s : Aid) : ((s.bands.map fun o => o.map (bandD CB)).filterMap id) = (present s).map (bandD CB) := by
  unfold present
  induction s.bands with
  | nil => rfl
  | cons o l ih =>
    cases o with
    | none =>
      rw [List.map_cons, List.filterMap_cons_none (by rfl), ih, List.filterMap_cons_none (by rfl)]
    | some b =>
      rw [List.map_cons, List.filterMap_cons_some (b := bandD CB b) (by rfl), ih, List.filterMap_cons_some (b := b) (by rfl), List.map_cons]
theorem ob_non (CB : Addr) (o : Option Band) : (!isNonD (obD CB o)) = o.isSome := by
  cases o <;> rfl
theorem map_band_at {CB : Addr} {bs : List Band} {i : Nat} (h : i < bs.length) : (bs.map (bandD CB))[i]? = some (bandD CB bs[i]) := by
  rw [List.getElem?_map, List.getElem?_eq_getElem h]
  rfl
theorem band_item {CB : Addr} {bs : List Band} {i : Nat} {es : List D} (h : ((bs.map (bandD CB)).map fun d => [d])[i]? = some es) : ∃ hi : i < bs.length, es = [bandD CB bs[i]] := by
  have hi : i < bs.length := by
    have := (List.getElem?_eq_some_iff.mp h).1
    rwa [List.length_map, List.length_map] at this
  rw [List.getElem?_map, map_band_at hi] at h
  exact ⟨hi, (Option.some.inj h).symm⟩
theorem band_num {CB : Addr} {bs : List Band} {i : Nat} {es : List D} (h : (numD (bs.map (bandD CB)))[i]? = some es) : ∃ hi : i < bs.length, es = [.int (i : Int), bandD CB bs[i]] := by
  obtain ⟨d, hd, e⟩ := numD_at h
  have hi : i < bs.length := by
    have := (List.getElem?_eq_some_iff.mp hd).1
    rwa [List.length_map] at this
  rw [map_band_at hi] at hd
  cases hd
  exact ⟨hi, e⟩
theorem cut_from {l : List D} {n : Nat} (h : n ≤ l.length) : cutD l (some (n : Int)) none = l.drop n := by
  unfold cutD
  rw [HT.sIx_none, HT.sIx_nat, Nat.min_eq_left h]
  refine List.take_of_length_le ?_
  rw [List.length_drop]
  exact Nat.le_refl _
theorem gains_at {v : Rat} {bs : List Band} {i : Nat} (h : i < bs.length) : qat (bs.map (gM v)) i = gM v bs[i] := by
  rw [qat_lt (by rw [List.length_map]; exact h), List.getElem_map]
theorem sc_Aid_together : FnScope ["self", "volume", "there", "band", "gains", "lowers", "gain", "upper", "k", "others"] ["self", "volume"] (defScope s_Aid_together) := ⟨rfl, rfl, rfl, by decide +kernel, rfl, by decide +kernel, by decide +kernel⟩
theorem ok_Aid_together (T : Txt K mg) (S : SeerB P base) : FnOk P w K mg base CX0 42 T.Aid_together.f T.Aid_together.fd ["self", "volume"] (SpF K (preTog T.CA T.CB)) := by
  refine T.Aid_together.F.ok sc_Aid_together (fun vs H Q E h => ?_) (fun cdv A outer s H vs Q E hr h => ⟨_, (pss_cons (ps_setLc (i := 2) (own := [("band", 3)]) rfl sc_Aid_together.nd rfl rfl (sw_true rfl rfl rfl (by decide +kernel)) (pi_listk K (pe_fldk K (pv 0))) (blkOk_by (N := ["self", "volume", "there", "band", "gains", "lowers", "gain", "upper", "k", "others"]) (sc := defScope (inClass (top 37) 2)) (by decide +kernel)) (fun _ _ _ _ _ => by exact (pg_name (i := 3) sc_Aid_together.nd rfl (by first | exact Or.inl rfl | exact Or.inr rfl))) (fun _ _ _ _ _ => by exact (pts_one (pt_cmp (pc_notN (pv 3)) rfl))) (fun _ _ _ _ _ => by exact (pv 3)))
      (pss_cons (ps_setLc (i := 4) (own := [("band", 3)]) rfl sc_Aid_together.nd rfl rfl (sw_true rfl rfl rfl (by decide +kernel)) (pi_listk K (pv 2)) (blkOk_by (N := ["self", "volume", "there", "band", "gains", "lowers", "gain", "upper", "k", "others"]) (sc := defScope (inClass (top 37) 2)) (by decide +kernel)) (fun _ _ _ _ _ => by exact (pg_name (i := 3) sc_Aid_together.nd rfl (by first | exact Or.inl rfl | exact Or.inr rfl))) (fun _ _ _ _ _ => by exact pts_nil) (fun _ _ _ _ _ => by exact (pe_own T.times (ok_times T S) hr (pa_cons (pe_fldk K (pv 3)) (pa_cons (pv 1) pa_nil)) pass0)))
      (pss_cons (ps_setLc (i := 5) (own := [("band", 3), ("gain", 6)]) rfl sc_Aid_together.nd rfl rfl (sw_true rfl rfl rfl (by decide +kernel)) (pi_zipk K T.b_zip (pa_cons (pv 2) (pa_cons (pv 4) pa_nil))) (blkOk_by (N := ["self", "volume", "there", "band", "gains", "lowers", "gain", "upper", "k", "others"]) (sc := defScope (inClass (top 37) 2)) (by decide +kernel)) (fun _ _ _ _ _ => by exact (pg_tupk K (n := 2) (pgs_cons (pg_name (i := 3) sc_Aid_together.nd rfl (by first | exact Or.inl rfl | exact Or.inr rfl)) (pgs_cons (pg_name (i := 6) sc_Aid_together.nd rfl (by first | exact Or.inl rfl | exact Or.inr rfl)) pgs_nil)))) (fun _ _ _ _ _ => by exact pts_nil) (fun _ _ _ _ _ => by exact (pe_own T.scaled (ok_scaled T) hr (pa_cons (pe_fldk K (pv 3)) (pa_cons (pe_ix (ix_tupk K) (pv 6) pe_int (fun _ _ => rfl)) pa_nil)) pass0)))
      (pss_cons (ps_set (i := 7) sc_Aid_together.nd rfl (by first | exact Or.inl rfl | exact Or.inr rfl) (pe_lst (pa_cons pe_int pa_nil)))
      (pss_cons (ps_for PassesOwn.never rfl (pi_enumk K T.b_enumerate (pa_cons (pv 2) pa_nil)) (pg_tupk K (n := 2) (pgs_cons (pg_name (i := 8) sc_Aid_together.nd rfl (by first | exact Or.inl rfl | exact Or.inr rfl)) (pgs_cons (pg_name (i := 3) sc_Aid_together.nd rfl (by first | exact Or.inl rfl | exact Or.inr rfl)) pgs_nil))) (pss_cons (ps_set (i := 9) sc_Aid_together.nd rfl (by first | exact Or.inl rfl | exact Or.inr rfl) (pe_own T.product_of (ok_product_of T) hr (pa_cons (pe_op op_cat (pe_slice (sl_listk K) (pv 5) po_none (po_some (pv 8))) (pe_slice (sl_listk K) (pv 5) (po_some (pe_op op_add (pv 8) pe_int)) po_none)) pa_nil) pass0))
      (pss_one (ps_set (i := 7) sc_Aid_together.nd rfl (by first | exact Or.inl rfl | exact Or.inr rfl) (pe_own T.sum_of (ok_sum_of T) hr (pa_cons (pv 7) (pa_cons (pe_own T.product (ok_product T) hr (pa_cons (pe_own T.scaled (ok_scaled T) hr (pa_cons (pe_fldk K (pv 3)) (pa_cons (pe_ix (ix_tupk K) (pe_ix (ix_listk K) (pv 4) (pv 8) (fun _ _ => rfl)) pe_int (fun _ _ => rfl)) pa_nil)) pass0) (pa_cons (pv 9) pa_nil)) pass0) pa_nil)) pass0)))))
      (pss_one (ps_ret (pe_tup (pa_cons (pv 7) (pa_cons (pe_own T.product_of (ok_product_of T) hr (pa_cons (pv 5) pa_nil) pass0) pa_nil)))))))))), ?_⟩)
  · exact spf_len (fun ds d ⟨a, b, _, _, q, _⟩ => by rw [q] <;> rfl) h
  · obtain ⟨G, ds, d, hG, hR, ⟨s, v, hs, hv, rfl, rfl⟩, k⟩ := h
    have p3 := present_len hs
    have pb := present_ok hs
    refine Run.go 8 hG hR rfl ?_
    with_reducible refine r_seq ?_
    refine r_asg (d := .lst ((present s).map (bandD T.CB))) (EvN.dd (EvN.cast (en_lc (ei_list (ev_bs T (ev_var rfl))) (fun j hj => hj) ?_ (s.bands.map fun o => o.map (bandD T.CB)) ?_ ?_) (fm_present T.CB s))) ?_
    · rw [List.length_map, List.length_map, hs.three]
      decide
    · simp only [List.length_map]
    · intro G1 i ds o hi ho
      have hi2 : i < s.bands.length := by
        have := (List.getElem?_eq_some_iff.mp hi).1
        rwa [List.length_map, List.length_map] at this
      rw [List.getElem?_map, List.getElem?_map, List.getElem?_eq_getElem hi2] at hi
      rw [List.getElem?_map, List.getElem?_eq_getElem hi2] at ho
      have hi : some [obD T.CB s.bands[i]] = some ds := hi
      have ho : some (s.bands[i].map (bandD T.CB)) = some o := ho
      cases hi
      cases ho
      refine ⟨EvT.cast (et_b (ev_notN (ev_var rfl))) ?_, fun d hd => Evd.cast (ev_var rfl) ?_⟩
      · rw [ob_non, Option.isSome_map]
      · cases hq : s.bands[i] with
        | none =>
          rw [hq] at hd
          cases hd
        | some b =>
          rw [hq] at hd
          cases hd
          rfl
    with_reducible refine r_seq ?_
    refine r_asg (d := qsD ((present s).map (gM v))) (EvN.dd (en_lcAll (ei_list (ev_var rfl)) (fun j hj => hj) ?_ (((present s).map (gM v)).map qD) ?_ ?_)) ?_
    · rw [List.length_map, List.length_map]
      exact sl_of (by omega)
    · simp only [List.length_map]
    · intro G1 i ds d hi hd
      obtain ⟨hib, rfl⟩ := band_item hi
      rw [map_q_at (by rw [List.length_map]; exact hib), gains_at hib] at hd
      cases hd
      have bo := pb _ (List.getElem_mem hib)
      exact ev_call (ea_2 (Evd.cast (ev_bg T (ev_var rfl)) (qq_gain bo)) (ev_var rfl)) ⟨_, v, gain_smq bo, vol_smq hv, rfl, rfl⟩
    with_reducible refine r_seq ?_
    refine r_asg (d := rowsD ((present s).map (lowM v))) (EvN.dd (en_lcAll (ei_zip (ea_2 (ev_var rfl) (ev_var rfl))) (fun j hj => hj) ?_ (((present s).map (lowM v)).map rowD) ?_ ?_)) ?_
    · rw [twoD_len]
      simp only [List.length_map]
      exact sl_of (by omega)
    · rw [twoD_len]
      simp only [List.length_map]
      omega
    · intro G1 i ds d hi hd
      obtain ⟨x, y, hx, hy, rfl⟩ := twoD_at hi
      have hib : i < (present s).length := by
        have := (List.getElem?_eq_some_iff.mp hx).1
        rwa [List.length_map] at this
      rw [map_band_at hib] at hx
      rw [map_q_at (by rw [List.length_map]; exact hib), gains_at hib] at hy
      rw [map_row_at (by rw [List.length_map]; exact hib), List.getElem_map] at hd
      cases hx
      cases hy
      cases hd
      have bo := pb _ (List.getElem_mem hib)
      obtain ⟨_, g2⟩ := gM_ok hv bo
      have := bo.low3
      exact (en_call (ea_2 (ev_bl' T (ev_var rfl)) (ev_ixT (k := 1) (ev_var rfl) ev_int rfl rfl)) ⟨_, _, by omega, bl_sm (hund bo.lowN) (by decide), small_sm (by rw [Int.natAbs_natCast]; exact g2), rfl, rfl⟩).dd
    with_reducible refine r_seq ?_
    refine r_asg (d := rowD [0]) (en_lst (ea_1 ev_int) (show (1 : Nat) ≤ sizeLine by decide)).dd ?_
    with_reducible refine r_seq ?_
    refine r_for (ei_enum (ea_1 (ev_var rfl))) (fun i => [.fz (aidD T.CA T.CB s), .fz (qD v), .fz (.lst ((present s).map (bandD T.CB))), .no, .fz (qsD ((present s).map (gM v))), .fz (rowsD ((present s).map (lowM v))), .no, .fz (rowD (upM v (present s) i)), .no, .no]) ⟨.inr rfl, .inr rfl, .inr rfl, .inl rfl, .inr rfl, .inr rfl, .inl rfl, .inr rfl, .inr rfl, .inr rfl, trivial⟩ ?_ ?_
    · intro G1 i ds hi
      obtain ⟨hib, rfl⟩ := band_num hi
      have bo := pb _ (List.getElem_mem hib)
      obtain ⟨g1, _⟩ := gM_ok hv bo
      obtain ⟨o1, o2, o3⟩ := oth_ok hv pb p3 hib
      obtain ⟨t1, t2, t3, t4, t5⟩ := term_ok hv pb p3 hib
      obtain ⟨u1, u2, u3⟩ := upM_ok hv pb p3 i (by omega)
      obtain ⟨be, _⟩ := band_get pb hib
      have upl := bo.up4
      with_reducible refine r_seq ?_
      refine r_asg (d := rowD (othM v (present s) i)) (ev_call (ea_1 (d := rowsD (((present s).map (lowM v)).take i ++ ((present s).map (lowM v)).drop (i + 1))) (EvN.dd (EvN.cast (en_cat (en_slice (ev_var rfl) ev_nopart (ev_part (ev_var rfl))).dd (en_slice (lo := some ((i + 1 : Nat) : Int)) (ev_var rfl) (ev_part (Evd.cast (ev_add (ev_var rfl) ev_int) (by push_cast; rfl))) ev_nopart).dd ?_) ?_))) ⟨_, ?_, ?_, rfl, rfl⟩) ?_
      · unfold cutD
        simp only [List.length_take, List.length_drop, List.length_map]
        exact sl_of (by omega)
      · rw [cut_head (by simp only [List.length_map]; omega), cut_from (by simp only [List.length_map]; omega), List.map_append, List.map_take, List.map_drop]
      · intro j hj
        have so := sub_ok hv pb (l := ((present s).map (lowM v)).take i ++ ((present s).map (lowM v)).drop (i + 1)) oth_mem
        have hl : (((present s).map (lowM v)).take i ++ ((present s).map (lowM v)).drop (i + 1)).length ≤ 3 := by
          simp only [List.length_append, List.length_take, List.length_drop, List.length_map]
          omega
        obtain ⟨q1, q2, q3⟩ := pallM_ok ((((present s).map (lowM v)).take i ++ ((present s).map (lowM v)).drop (i + 1)).take j) [1] 1 1 one_ok (fun z => nomatch z) (Nat.le_refl _) fun r hr => so r (List.mem_of_mem_take hr)
        have hl2 : ((((present s).map (lowM v)).take i ++ ((present s).map (lowM v)).drop (i + 1)).take j).length ≤ 3 := by
          rw [List.length_take]
          omega
        have hb : ((((present s).map (lowM v)).take i ++ ((present s).map (lowM v)).drop (i + 1)).take j).length * (27 + 1 + 2 * ((((present s).map (lowM v)).take i ++ ((present s).map (lowM v)).drop (i + 1)).take j).length) ≤ 3 * (27 + 1 + 2 * 3) := Nat.mul_le_mul hl2 (by omega)
        exact ⟨bl_sm q3 (by omega), Nat.le_trans q2 (by omega)⟩
      · intro r hr
        obtain ⟨q1, q2, q3⟩ := sub_ok hv pb oth_mem r hr
        exact ⟨q2, by omega, bl_sm q1 (by decide)⟩
      refine r_asg (d := rowD (upM v (present s) (i + 1))) (Evd.cast (EvN.dd (en_call (ea_2 (ev_var rfl) (EvN.dd (en_call (ea_2 (EvN.dd (en_call (ea_2 (ev_bu T (ev_var rfl)) (ev_ixT (k := 0) (ev_ixL (k := i) (ev_var rfl) (ev_var rfl) rfl (map_q_at (by rw [List.length_map]; exact hib))) ev_int rfl rfl)) ⟨_, _, by omega, bl_sm (hund bo.upN) (by decide), small_sm (by rw [gains_at hib]; exact g1), rfl, rfl⟩)) (ev_var rfl)) ⟨_, othM v (present s) i, ?_, o1, ?_, by omega, ?_, bl_sm o3 (by decide), rfl, rfl⟩))) ⟨upM v (present s) i, _, by omega, ?_, rfl, rfl⟩)) ?_) (r_at ⟨.inr rfl, .inr rfl, .inr rfl, .inl rfl, .inr rfl, .inr rfl, .inl rfl, .inr rfl, .inl rfl, .inl rfl, trivial⟩)
      · rw [gains_at hib]
        show rowD (Vbhlae.plus (upM v (present s) i) (chain (Vbhlae.times (gM v (present s)[i]).num (present s)[i].up) (othM v (present s) i))) = rowD (Vbhlae.plus (upM v (present s) i) (chain (Vbhlae.times (gM v ((present s).getD i noBandD)).num ((present s).getD i noBandD).up) (othM v (present s) i)))
        rw [be]
      · exact times_ne (List.length_pos_iff.mp bo.up1)
      · rw [times_len]
        omega
      · rw [gains_at hib]
        exact bl_sm t1 (by decide)
      · rw [gains_at hib]
        omega
    · rw [numD_len, List.length_map]
      refine r_ret (ev_tup (ea_2 (ev_var rfl) (ev_call (ea_1 (ev_var rfl)) ⟨_, ?_, ?_, rfl, rfl⟩)) (show 2 ≤ sizeLine by decide)) k
      · intro j hj
        have so := sub_ok hv pb (l := (present s).map (lowM v)) fun r hr => hr
        obtain ⟨q1, q2, q3⟩ := pallM_ok (((present s).map (lowM v)).take j) [1] 1 1 one_ok (fun z => nomatch z) (Nat.le_refl _) fun r hr => so r (List.mem_of_mem_take hr)
        have hl2 : (((present s).map (lowM v)).take j).length ≤ 3 := by
          rw [List.length_take, List.length_map]
          omega
        have hb : (((present s).map (lowM v)).take j).length * (27 + 1 + 2 * (((present s).map (lowM v)).take j).length) ≤ 3 * (27 + 1 + 2 * 3) := Nat.mul_le_mul hl2 (by omega)
        exact ⟨bl_sm q3 (by omega), Nat.le_trans q2 (by omega)⟩
      · intro r hr
        obtain ⟨q1, q2, q3⟩ := sub_ok hv pb (fun r hr => hr) r hr
        exact ⟨q2, by omega, bl_sm q1 (by decide)⟩
end
end Qa

set_option Elab.async false
set_option linter.all false
set_option maxRecDepth 100000
set_option maxHeartbeats 4000000
namespace Qa
open Vbhlae
theorem g_hit {s : Aid} {c : Int} {l : List (Int × Bool)} {k : Unit → Aid × List Int} {b : Bool} (h : b = true) : guarded s ((c, b) :: l) k = (s, [c]) := by
  subst h
  rfl
theorem g_miss {s : Aid} {c : Int} {l : List (Int × Bool)} {k : Unit → Aid × List Int} {b : Bool} (h : b = false) : guarded s ((c, b) :: l) k = guarded s l k := by
  subst h
  rfl
theorem g_none {s : Aid} {k : Unit → Aid × List Int} : guarded s [] k = k () := rfl
theorem at0_plain {r : List Int} (h : at_ r 0 ≠ 0) : 0 < at_ (plain r) 0 := plain_pos h
theorem steps_alk {a b : List Int} (h : Alk a b) : steps a = steps b := by
  unfold steps
  rw [plain_alk h]
  have l1 := trim_len_le b
  have l2 := trim_len_le a
  rw [trim_alk h] at l2
  exact steps_fuel (by rw [plain_len]; omega) (by rw [plain_len]; omega)
theorem quiet_alk {a b : List Int} (h : Alk a b) : quiet a = quiet b := by
  unfold quiet
  rw [steps_alk h, h 0]
theorem mem_steps_pos : ∀ {f : Nat} {r : List Int}, 0 < at_ r 0 → ∀ x ∈ stepsFrom f r, 0 < at_ x 0 ∧ x.length ≤ r.length
  | 0, r, _, x, hx => by
    cases hx
  | f + 1, r, h, x, hx => by
    by_cases c : 1 < r.length ∧ smaller r = true
    · rw [steps_go c.1 c.2] at hx
      rcases List.mem_cons.mp hx with e | e
      · subst e
        exact ⟨h, Nat.le_refl _⟩
      · have h2 : at_ (reduced r) 0 ≠ 0 := by
          have := red_first c.1 c.2
          omega
        have t := mem_steps_pos (plain_pos h2) x e
        have l := plain_red_len r
        exact ⟨t.1, by omega⟩
    · rw [steps_stop c] at hx
      rcases List.mem_cons.mp hx with e | e
      · subst e
        exact ⟨h, Nat.le_refl _⟩
      · cases e
theorem steps_many : ∀ {f : Nat} {r : List Int}, (stepsFrom f r).length ≤ f
  | 0, r => Nat.le_refl _
  | f + 1, r => by
    by_cases c : 1 < r.length ∧ smaller r = true
    · rw [steps_go c.1 c.2, List.length_cons]
      exact Nat.succ_le_succ steps_many
    · rw [steps_stop c]
      simp
theorem steps_pos {r : List Int} (h : at_ r 0 ≠ 0) : ∀ x ∈ steps r, 0 < at_ x 0 ∧ x.length ≤ r.length := fun x hx => by
  have t := mem_steps_pos (plain_pos h) x hx
  have l := plain_len r
  have l2 := trim_len_le r
  exact ⟨t.1, by omega⟩
theorem steps_count (r : List Int) : (steps r).length ≤ r.length + 1 := steps_many
def shR (x : List Int) : Option Rat := if x.length ≤ 1 then none else some ((at_ x (x.length - 1) : Rat) / (at_ x 0 : Rat))
def shares' (r : List Int) : List Rat := (steps r).filterMap shR
theorem shares_eq (r : List Int) : (shares r).flatMap qRow = (shares' r).flatMap fun x => [x.num, (x.den : Int)] := by
  unfold shares shares'
  generalize steps r = l
  induction l with
  | nil => rfl
  | cons x l ih =>
    by_cases c : x.length ≤ 1
    · rw [List.filterMap_cons_none (by simp [c]), List.filterMap_cons_none (by simp [shR, c]), ih]
    · rw [List.filterMap_cons_some (b := (Q.whole (at_ x (x.length - 1))).div (Q.whole (at_ x 0))) (by simp [c]), List.filterMap_cons_some (b := (at_ x (x.length - 1) : Rat) / (at_ x 0 : Rat)) (by simp [shR, c]), List.flatMap_cons, List.flatMap_cons, ih]
      rw [show (Q.whole (at_ x (x.length - 1))).div (Q.whole (at_ x 0)) = oq ((at_ x (x.length - 1) : Rat) / (at_ x 0 : Rat)) from by rw [oq_whole, oq_whole, oq_div]]
      rfl
theorem shares_alk {a b : List Int} (h : Alk a b) : shares a = shares b := by
  unfold shares
  rw [steps_alk h]
section
variable {s : Aid}
theorem one_oq : one = oq 1 := oq_one
theorem ring_one (h : AidOk s) : Alk (ringM s 1) (ringRow s one) := by
  rw [one_oq]
  exact ring_alk h 1
theorem hear_one (h : AidOk s) : Alk (hearM s 1) (upRow s one) := by
  rw [one_oq]
  exact hear_alk h 1
theorem ring_of (h : AidOk s) : plain (ringM s 1) = ringOf s := plain_alk (ring_one h)
theorem at_of (h : AidOk s) (v : Rat) : quietAt s (oq v) = quiet (ringM s v) := (quiet_alk (ring_alk h v)).symm
theorem at_one (h : AidOk s) : quietAt s one = quiet (ringM s 1) := by
  rw [one_oq]
  exact at_of h 1
theorem ring_at0 (h : AidOk s) : at_ (ringRow s one) 0 = at_ (ringM s 1) 0 := (ring_one h 0).symm
end
end Qa

set_option Elab.async false
set_option linter.all false
set_option maxRecDepth 100000
set_option maxHeartbeats 1000000
namespace Qa
open PySem PySem.Spec PyProof.Rows L2
open Vbhlae (Q Row at_ plus times chain trim common plain reduced smaller steps quiet Aid Band Call step guarded inr bit ringRow upRow ringOf quietAt one noRing noBand loudly listRow qRow present)
def rz (s : Aid) : Prop := at_ (ringM s 1) 0 = 0
instance (s : Aid) : Decidable (rz s) := inferInstanceAs (Decidable (_ = _))
/-- an answer as what the walk's functions give -/
def toX (a : List Int) : Except Int D := if a.headD 0 = 0 then .ok (rowD a.tail) else .error (a.headD 0)
theorem toX_o (l : List Int) : toX (0 :: l) = .ok (rowD l) := rfl
theorem toX_e {c : Int} (h : c ≠ 0) : toX [c] = .error c := if_neg h
theorem inr_iff (n lo hi : Int) : inr n lo hi = true ↔ lo ≤ n ∧ n ≤ hi := by
  unfold Vbhlae.inr
  rw [Bool.and_eq_true, decide_eq_true_eq, decide_eq_true_eq]
theorem rowOk_0 (l : List Int) (n : Nat) (far : Int) : rowOk l 0 (n : Int) far = (decide (l.length ≤ n) && l.all fun x => inr x (-far) far) := by
  unfold rowOk
  have e1 : decide ((0 : Int) ≤ (l.length : Int)) = true := decide_eq_true (by omega)
  have e2 : decide ((l.length : Int) ≤ (n : Int)) = decide (l.length ≤ n) := by
    rw [decide_eq_decide]
    omega
  rw [e1, e2, Bool.true_and]
  rfl
theorem rowOk_1 (l : List Int) (n : Nat) (far : Int) : rowOk l 1 (n : Int) far = (decide (1 ≤ l.length) && (decide (l.length ≤ n) && l.all fun x => inr x (-far) far)) := by
  unfold rowOk
  have e1 : decide ((1 : Int) ≤ (l.length : Int)) = decide (1 ≤ l.length) := by
    rw [decide_eq_decide]
    omega
  have e2 : decide ((l.length : Int) ≤ (n : Int)) = decide (l.length ≤ n) := by
    rw [decide_eq_decide]
    omega
  rw [e1, e2, Bool.and_assoc]
  rfl
theorem rowOk_mem {r : List Int} {lo hi far : Int} (h : rowOk r lo hi far = true) : ∀ x ∈ r, -far ≤ x ∧ x ≤ far := fun x hx => by
  unfold rowOk at h
  rw [Bool.and_eq_true, List.all_eq_true] at h
  have := h.2 x hx
  rw [Bool.and_eq_true, decide_eq_true_eq, decide_eq_true_eq] at this
  exact this
theorem quiet_plain {r : List Int} (h : at_ r 0 ≠ 0) : quiet (plain r) = quiet r := by
  have p := plain_pos h
  unfold Vbhlae.quiet
  have e : steps (plain r) = steps r := by
    unfold Vbhlae.steps
    rw [plain_plain h]
    have := plain_len r
    have := trim_len_le r
    exact steps_fuel (by omega) (by omega)
  rw [e, show decide (at_ (plain r) 0 ≠ 0) = true from decide_eq_true (by omega), show decide (at_ r 0 ≠ 0) = true from decide_eq_true h]
section
variable {s : Aid}
theorem nr_e (h : AidOk s) (z : rz s) : (at_ (ringRow s one) 0 == 0) = true := by
  rw [ring_at0 h, show at_ (ringM s 1) 0 = 0 from z]
  rfl
theorem nr_o (h : AidOk s) (z : ¬ rz s) : (at_ (ringRow s one) 0 == 0) = false := by
  rw [ring_at0 h]
  exact beq_eq_false_iff_ne.mpr z
theorem st_ring_e (h : AidOk s) (z : rz s) : (step s .ring).2 = [-5] := congrArg Prod.snd (g_hit (nr_e h z))
theorem st_ring_o (h : AidOk s) (z : ¬ rz s) : (step s .ring).2 = 0 :: plain (ringM s 1) := by
  rw [ring_of h]
  exact congrArg Prod.snd (g_miss (nr_o h z))
theorem st_quiet_e (h : AidOk s) (z : rz s) : (step s .quiet).2 = [-5] := congrArg Prod.snd (g_hit (nr_e h z))
theorem st_quiet_o (h : AidOk s) (z : ¬ rz s) : (step s .quiet).2 = 0 :: bit (quiet (ringM s 1)) :: fracs (shares' (ringM s 1)) := by
  refine (congrArg Prod.snd (g_miss (nr_o h z))).trans ?_
  rw [g_none]
  show [0, bit (quietAt s one)] ++ _ = _
  rw [at_one h, ← shares_alk (ring_one h), shares_eq]
  rfl
theorem st_steps_e (h : AidOk s) (z : rz s) : (step s .steps).2 = [-5] := congrArg Prod.snd (g_hit (nr_e h z))
theorem st_steps_o (h : AidOk s) (z : ¬ rz s) : (step s .steps).2 = 0 :: (steps (ringM s 1)).flatMap listRow := by
  refine (congrArg Prod.snd (g_miss (nr_o h z))).trans ?_
  rw [g_none]
  show 0 :: (Vbhlae.steps (ringRow s one)).flatMap listRow = _
  rw [← steps_alk (ring_one h)]
theorem st_check_b {l : List Int} (q : ¬ l.length ≤ 200) : (step s (.check l)).2 = [-1] := congrArg Prod.snd (g_hit (by simp [q]))
theorem st_check_e {l : List Int} (h : AidOk s) (q : l.length ≤ 200) (z : rz s) : (step s (.check l)).2 = [-5] := congrArg Prod.snd ((g_miss (by simp [q])).trans (g_hit (nr_e h z)))
def checkM (s : Aid) (l : List Int) : Bool := match Vbhlae.rowsIn (l.length + 1) l with
  | none => false
  | some rs => Vbhlae.isProof (plain (ringM s 1)) rs
theorem st_check_o {l : List Int} (h : AidOk s) (q : l.length ≤ 200) (z : ¬ rz s) : (step s (.check l)).2 = [0, bit (checkM s l)] := by
  refine (congrArg Prod.snd ((g_miss (by simp [q])).trans (g_miss (nr_o h z)))).trans ?_
  rw [g_none]
  unfold checkM
  rw [ring_of h]
  cases Vbhlae.rowsIn (l.length + 1) l with
  | none => rfl
  | some rs => rfl
theorem ld_e (h : AidOk s) (q : quiet (ringM s 1) = false) : (!quietAt s one) = true := by
  rw [at_one h, q]
  rfl
theorem ld_o (h : AidOk s) (q : quiet (ringM s 1) = true) : (!quietAt s one) = false := by
  rw [at_one h, q]
  rfl
theorem st_loud_e (h : AidOk s) (z : rz s) : (step s .loud).2 = [-5] := congrArg Prod.snd (g_hit (nr_e h z))
theorem st_loud_b (h : AidOk s) (z : ¬ rz s) (q : quiet (ringM s 1) = false) : (step s .loud).2 = [-8] := congrArg Prod.snd ((g_miss (nr_o h z)).trans (g_hit (ld_e h q)))
theorem at_ne {r : List Int} (h : at_ r 0 ≠ 0) : r ≠ [] := fun e => h (by rw [e]; rfl)
theorem st_loud_o (h : AidOk s) (z : ¬ rz s) (q : quiet (ringM s 1) = true) : (step s .loud).2 = [0, (loudV (hearM s 1) (ringM s 1)).num, ((loudV (hearM s 1) (ringM s 1)).den : Int)] := by
  refine (congrArg Prod.snd ((g_miss (nr_o h z)).trans (g_miss (ld_o h q)))).trans ?_
  rw [g_none]
  show 0 :: qRow (Vbhlae.loud (upRow s one) (ringRow s one)) = _
  have n2 : ringRow s one ≠ [] := at_ne (by rw [ring_at0 h]; exact z)
  rw [loudV_eq _ _ n2, loudV_alk (hear_one h) (ring_one h) (at_ne z) n2]
  rfl
theorem play_same (h : AidOk s) (l : List Rat) : (Vbhlae.play (upRow s one) (ringRow s one) (l.map oq)).flatMap qRow = fracs (ansM (hearM s 1) (ringM s 1) l l.length) := by
  unfold Vbhlae.play
  have e := play_oq (upRow s one) (ringRow s one) l [] []
  have e2 : Vbhlae.playFrom (upRow s one) (ringRow s one) [] [] (l.map oq) = (playR (upRow s one) (ringRow s one) [] [] l).map oq := e
  rw [e2, ← play_alk (hear_one h) (ring_one h), ← ans_play, fracs_oq]
theorem st_play_b {l : List Int} (q : rowOk l 0 16 1000 = false) : (step s (.play l)).2 = [-1] := by
  have e := rowOk_0 l 16 1000
  exact congrArg Prod.snd (g_hit (by rw [show (decide (l.length ≤ 16) && l.all fun x => inr x (-1000) 1000) = false from e.symm.trans q]; rfl))
theorem st_play_m {l : List Int} (q : rowOk l 0 16 1000 = true) : (!(decide (l.length ≤ 16) && l.all fun x => inr x (-1000) 1000)) = false := by
  rw [show (decide (l.length ≤ 16) && l.all fun x => inr x (-1000) 1000) = true from (rowOk_0 l 16 1000).symm.trans q]
  rfl
theorem st_play_e {l : List Int} (h : AidOk s) (q : rowOk l 0 16 1000 = true) (z : rz s) : (step s (.play l)).2 = [-5] := congrArg Prod.snd ((g_miss (st_play_m q)).trans (g_hit (nr_e h z)))
theorem st_play_o {l : List Int} (h : AidOk s) (q : rowOk l 0 16 1000 = true) (z : ¬ rz s) : (step s (.play l)).2 = 0 :: fracs (ansM (hearM s 1) (ringM s 1) (ratsOf l) l.length) := by
  refine (congrArg Prod.snd ((g_miss (st_play_m q)).trans (g_miss (nr_o h z)))).trans ?_
  rw [g_none]
  have e := play_same h (ratsOf l)
  have e2 : l.map Q.whole = (ratsOf l).map oq := whole_map l
  show 0 :: (Vbhlae.play (upRow s one) (ringRow s one) (l.map Q.whole)).flatMap qRow = _
  rw [e2, e, show (ratsOf l).length = l.length from List.length_map ..]
theorem st_click_b {n : Int} (q : inr n 1 16 = false) : (step s (.click n)).2 = [-1] := congrArg Prod.snd (g_hit (by rw [q]; rfl))
theorem st_click_e {n : Int} (h : AidOk s) (q : inr n 1 16 = true) (z : rz s) : (step s (.click n)).2 = [-5] := congrArg Prod.snd ((g_miss (by rw [q]; rfl)).trans (g_hit (nr_e h z)))
theorem st_click_o {n : Int} (h : AidOk s) (q : inr n 1 16 = true) (z : ¬ rz s) : (step s (.click n)).2 = 0 :: fracs (ansM (hearM s 1) (ringM s 1) (clickL n.toNat) n.toNat) := by
  refine (congrArg Prod.snd ((g_miss (by rw [q]; rfl)).trans (g_miss (nr_o h z)))).trans ?_
  rw [g_none]
  have e := play_same h (clickL n.toNat)
  have b := (inr_iff _ _ _).mp q
  obtain ⟨m, hm⟩ : ∃ m, n.toNat = m + 1 := ⟨n.toNat - 1, by omega⟩
  have e2 : (Q.whole 1 :: List.replicate (n.toNat - 1) (Q.whole 0)) = (clickL n.toNat).map oq := by
    unfold clickL
    rw [hm, List.take_succ_cons, List.map_cons, Nat.add_sub_cancel, List.take_replicate, Nat.min_eq_left (by omega), List.map_replicate]
    rfl
  show 0 :: (Vbhlae.play (upRow s one) (ringRow s one) (Q.whole 1 :: List.replicate (n.toNat - 1) (Q.whole 0))).flatMap qRow = _
  rw [e2, e, clickL_len]
end
end Qa

set_option Elab.async false
set_option linter.all false
set_option maxRecDepth 100000
set_option maxHeartbeats 4000000
namespace Qa
open PySem PySem.Spec PyProof.Rows L2
open Vbhlae (at_ trim common chain smaller Band Aid present Q)
section
variable {P : Program} {w : World} {K : PySem.W.Frag} {mg : Str → Option Value} {base : Heap}
/-! ### the ring -/
def preRat (CA CB : Addr) : List D → D → Prop := fun ds d => ∃ (s : Aid) (v : Rat), AidOk s ∧ VolOk v ∧ ds = [aidD CA CB s, qD v] ∧ d = rowD (ringM s v)
theorem hundL {r : List Int} (h : ∀ x ∈ r, x.natAbs ≤ 100) : smr r := bl_sm (hund h) (by decide)
theorem sc_Aid_ring_at : FnScope ["self", "volume", "upper", "lower"] ["self", "volume"] (defScope s_Aid_ring_at) := ⟨rfl, rfl, rfl, by decide +kernel, rfl, by decide +kernel, by decide +kernel⟩
theorem ok_Aid_ring_at (T : Txt K mg) (S : SeerB P base) : FnOk P w K mg base CX0 43 T.Aid_ring_at.f T.Aid_ring_at.fd ["self", "volume"] (SpF K (preRat T.CA T.CB)) := by
  refine T.Aid_ring_at.F.ok sc_Aid_ring_at (fun vs H Q E h => ?_) (fun cdv A outer s H vs Q E hr h => ⟨_, (pss_cons (ps_asg (pe_meth (pv 0) T.cl_CA T.Aid_together.m (ok_Aid_together T S) (hr.mono (by decide)) T.Aid_together.b .nil pass0 (pa_cons (pv 1) pa_nil)) (pg_tupk K (n := 2) (pgs_cons (pg_name (i := 2) sc_Aid_ring_at.nd rfl (by first | exact Or.inl rfl | exact Or.inr rfl)) (pgs_cons (pg_name (i := 3) sc_Aid_ring_at.nd rfl (by first | exact Or.inl rfl | exact Or.inr rfl)) pgs_nil))))
      (pss_one (ps_ret (pe_own T.less_row (ok_less_row T) hr (pa_cons (pe_own T.product (ok_product T) hr (pa_cons (pe_fldk K (pv 0)) (pa_cons (pv 3) pa_nil)) pass0) (pa_cons (pe_own T.product (ok_product T) hr (pa_cons (pe_fldk K (pv 0)) (pa_cons (pv 2) pa_nil)) pass0) pa_nil)) pass0)))), ?_⟩)
  · exact spf_len (fun ds d ⟨a, b, _, _, q, _⟩ => by rw [q] <;> rfl) h
  · obtain ⟨G, ds, d, hG, hR, ⟨s, v, hs, hv, rfl, rfl⟩, k⟩ := h
    have p3 := present_len hs
    have pb := present_ok hs
    obtain ⟨u1, u2, u3⟩ := upM_ok hv pb p3 (present s).length (Nat.le_refl _)
    obtain ⟨a1, a2, a3⟩ := all_ok hv pb p3
    obtain ⟨c1, c2, c3⟩ := ring_ok hs hv
    have lu := hs.up4
    have ll := hs.low3
    refine Run.go 2 hG hR rfl ?_
    with_reducible refine r_seq ?_
    refine r_asg2 (ev_meth (ev_var rfl) no_tog (ea_1 (ev_var rfl)) ⟨s, v, hs, hv, rfl, rfl⟩) ?_
    have w1 : smr (chain s.leakUp (upM v (present s) (present s).length)) := bl_sm (chain_bl (hund hs.upN) u3) (by omega)
    have l1 : (chain s.leakUp (upM v (present s) (present s).length)).length ≤ 100 := by
      rw [chain_len (List.length_pos_iff.mp hs.up1) u1]
      omega
    have l2 : (chain s.leakLow (pallM ((present s).map (lowM v)))).length ≤ 100 := by
      rw [chain_len (List.length_pos_iff.mp hs.low1) a1]
      omega
    exact r_ret (EvN.dd (en_call (ea_2 (EvN.dd (en_call (ea_2 (ev_ll T (ev_var rfl)) (ev_var rfl)) ⟨_, _, List.length_pos_iff.mp hs.low1, a1, by omega, by omega, hundL hs.lowN, bl_sm a3 (by decide), rfl, rfl⟩)) (EvN.dd (en_call (ea_2 (ev_lu T (ev_var rfl)) (ev_var rfl)) ⟨_, _, List.length_pos_iff.mp hs.up1, u1, by omega, by omega, hundL hs.upN, bl_sm u3 (by omega), rfl, rfl⟩))) ⟨_, _, by omega, by omega, w1, rfl, rfl⟩)) k
def ringX (s : Aid) : Except Int D := if rz s then .error (-5) else .ok (rowD (ringM s 1))
theorem ringX_e {s : Aid} (h : rz s) : ringX s = .error (-5) := if_pos h
theorem ringX_o {s : Aid} (h : ¬ rz s) : ringX s = .ok (rowD (ringM s 1)) := if_neg h
def preRing (CA CB : Addr) : List D → Except Int D → Prop := fun ds r => ∃ s : Aid, AidOk s ∧ ds = [aidD CA CB s] ∧ r = ringX s
theorem ring_ne {s : Aid} (h : AidOk s) {v : Rat} (hv : VolOk v) : 0 < (ringM s v).length := List.length_pos_iff.mpr (ring_ok h hv).1
theorem sc_Aid_ring : FnScope ["self", "found"] ["self"] (defScope s_Aid_ring) := ⟨rfl, rfl, rfl, by decide +kernel, rfl, by decide +kernel, by decide +kernel⟩
theorem ok_Aid_ring (T : Txt K mg) (S : SeerB P base) : FnOk P w K mg base (L2.CX P w) 44 T.Aid_ring.f T.Aid_ring.fd ["self"] (SpX K T.CR (preRing T.CA T.CB)) := by
  refine T.Aid_ring.F.okX sc_Aid_ring (fun vs H Q E h => ?_) (fun cdv A outer s H vs Q E hr h => ⟨_, (pss_cons (ps_set (i := 1) sc_Aid_ring.nd rfl (by first | exact Or.inl rfl | exact Or.inr rfl) (pe_meth (pv 0) T.cl_CA T.Aid_ring_at.m (ok_Aid_ring_at T S) (hr.mono (by decide)) T.Aid_ring_at.b .nil pass0 (pa_cons (pe_gt T.c_ONE.1) pa_nil)))
      (pss_cons (ps_expr (pe_own T.want (ok_want T) hr (pa_cons (pe_cmpR op_ne (pe_ix (ix_listk K) (pv 1) pe_int (fun _ _ => rfl)) pe_int (nomark _)) (pa_cons (pe_gi T.c_NO_RING) pa_nil)) (px rfl rfl rfl rfl)))
      (pss_one (ps_ret (pv 1))))), ?_⟩)
  · exact spx_len (fun ds d ⟨a, _, q, _⟩ => by rw [q] <;> rfl) h
  · obtain ⟨G, ds, r, hG, hR, ⟨s, hs, rfl, rfl⟩, k, kE⟩ := h
    refine Run.go (G := G) 1 hG hR rfl ?_
    with_reducible refine r_seq ?_
    refine r_asg (ev_meth (ev_var rfl) no_rat (ea_1 (ev_one1 T)) ⟨s, 1, hs, vol_one, rfl, rfl⟩) ?_
    with_reducible refine r_seq ?_
    refine r_want T (ev_ne (ev_ixL (k := 0) (ev_var rfl) ev_int rfl (map_int_at (ring_ne hs vol_one))) ev_int) ev_int (fun hb => kE _ (ringX_e (by unfold rz; simpa using hb))) fun hb => ?_
    exact r_ret (ev_var rfl) (k _ (ringX_o (by unfold rz; simpa using hb)))
theorem x_ring (T : Txt K mg) {G0 H0 : Hp} {Γ : List Ent} {ta : TE} {s : Aid} {E : XK} (hs : AidOk s) (ha : Evd K G0 H0 Γ ta (aidD T.CA T.CB s)) (hE : rz s → Er T.CR E H0 (-5)) :
    EvX K G0 H0 Γ (tMeth T.CA "ring" (SpX K T.CR (preRing T.CA T.CB)) [] E ta tNil) (ringX s) := by
  refine ex_meth ha no_ring ea_nil ⟨s, hs, rfl, rfl⟩ fun c e => ?_
  by_cases z : rz s
  · rw [ringX_e z] at e
    cases e
    exact hE z
  · rw [ringX_o z] at e
    cases e
def heardX (s : Aid) : Except Int D := if rz s then .error (-5) else .ok (.tup [rowD (hearM s 1), rowD (ringM s 1)])
theorem heardX_e {s : Aid} (h : rz s) : heardX s = .error (-5) := if_pos h
theorem heardX_o {s : Aid} (h : ¬ rz s) : heardX s = .ok (.tup [rowD (hearM s 1), rowD (ringM s 1)]) := if_neg h
def preHeard (CA CB : Addr) : List D → Except Int D → Prop := fun ds r => ∃ s : Aid, AidOk s ∧ ds = [aidD CA CB s] ∧ r = heardX s
theorem sc_Aid_heard : FnScope ["self", "lower"] ["self"] (defScope s_Aid_heard) := ⟨rfl, rfl, rfl, by decide +kernel, rfl, by decide +kernel, by decide +kernel⟩
theorem ok_Aid_heard (T : Txt K mg) (S : SeerB P base) : FnOk P w K mg base (L2.CX P w) 45 T.Aid_heard.f T.Aid_heard.fd ["self"] (SpX K T.CR (preHeard T.CA T.CB)) := by
  refine T.Aid_heard.F.okX sc_Aid_heard (fun vs H Q E h => ?_) (fun cdv A outer s H vs Q E hr h => ⟨_, (pss_cons (ps_set (i := 1) sc_Aid_heard.nd rfl (by first | exact Or.inl rfl | exact Or.inr rfl) (pe_meth0 (pv 0) T.cl_CA T.Aid_ring.m (ok_Aid_ring T S) (hr.mono (by decide)) T.Aid_ring.b .nil (px rfl rfl rfl rfl)))
      (pss_one (ps_ret (pe_tup (pa_cons (pe_own T.product (ok_product T) hr (pa_cons (pe_fldk K (pv 0)) (pa_cons (pe_ix (ix_tupk K) (pe_meth (pv 0) T.cl_CA T.Aid_together.m (ok_Aid_together T S) (hr.mono (by decide)) T.Aid_together.b .nil pass0 (pa_cons (pe_gt T.c_ONE.1) pa_nil)) pe_int (fun _ _ => rfl)) pa_nil)) pass0) (pa_cons (pv 1) pa_nil)))))), ?_⟩)
  · exact spx_len (fun ds d ⟨a, _, q, _⟩ => by rw [q] <;> rfl) h
  · obtain ⟨G, ds, r, hG, hR, ⟨s, hs, rfl, rfl⟩, k, kE⟩ := h
    obtain ⟨u1, u2, u3⟩ := upM_ok vol_one (present_ok hs) (present_len hs) (present s).length (Nat.le_refl _)
    have p3 := present_len hs
    have ll := hs.low3
    refine Run.go (G := G) 1 hG hR rfl ?_
    with_reducible refine r_seq ?_
    refine r_asgX (x_ring T hs (ev_var rfl) fun z => kE _ (heardX_e z)) fun d e => ?_
    by_cases z : rz s
    · rw [ringX_e z] at e
      cases e
    · rw [ringX_o z] at e
      cases e
      exact r_ret (ev_tup (ea_2 (EvN.dd (en_call (ea_2 (ev_ll T (ev_var rfl)) (ev_ixT (k := 0) (ev_meth (ev_var rfl) no_tog (ea_1 (ev_one1 T)) ⟨s, 1, hs, vol_one, rfl, rfl⟩) ev_int rfl rfl)) ⟨_, _, List.length_pos_iff.mp hs.low1, u1, by omega, by omega, hundL hs.lowN, bl_sm u3 (by omega), rfl, rfl⟩)) (ev_var rfl)) (show 2 ≤ sizeLine by decide)) (k _ (heardX_o z))
theorem x_heard (T : Txt K mg) {G0 H0 : Hp} {Γ : List Ent} {ta : TE} {s : Aid} {E : XK} (hs : AidOk s) (ha : Evd K G0 H0 Γ ta (aidD T.CA T.CB s)) (hE : rz s → Er T.CR E H0 (-5)) :
    EvX K G0 H0 Γ (tMeth T.CA "heard" (SpX K T.CR (preHeard T.CA T.CB)) [] E ta tNil) (heardX s) := by
  refine ex_meth ha no_heard ea_nil ⟨s, hs, rfl, rfl⟩ fun c e => ?_
  by_cases z : rz s
  · rw [heardX_e z] at e
    cases e
    exact hE z
  · rw [heardX_o z] at e
    cases e
end
end Qa

set_option Elab.async false
set_option linter.all false
set_option maxRecDepth 100000
set_option maxHeartbeats 4000000
namespace Qa
open PySem PySem.Spec PyProof.Rows L2
open Vbhlae (at_ trim common chain smaller Band Aid present Q bit listRow qRow step Call inr)
section
variable {P : Program} {w : World} {K : PySem.W.Frag} {mg : Str → Option Value} {base : Heap}
/-! ### asking -/
/-- what a call with an aid alone gives -/
def preA (CA CB : Addr) (c : Call) : List D → Except Int D → Prop := fun ds r => ∃ s : Aid, AidOk s ∧ ds = [aidD CA CB s] ∧ r = toX (step s c).2
def preAL (CA CB : Addr) (c : List Int → Call) : List D → Except Int D → Prop := fun ds r => ∃ (s : Aid) (l : List Int), AidOk s ∧ l.length ≤ 220 ∧ bl 60 l ∧ ds = [aidD CA CB s, rowD l] ∧ r = toX (step s (c l)).2
def preAI (CA CB : Addr) (c : Int → Call) : List D → Except Int D → Prop := fun ds r => ∃ (s : Aid) (n : Int), AidOk s ∧ ds = [aidD CA CB s, .int n] ∧ r = toX (step s (c n)).2
def preAII (CA CB : Addr) (c : Int → Int → Call) : List D → Except Int D → Prop := fun ds r => ∃ (s : Aid) (n d : Int), AidOk s ∧ ds = [aidD CA CB s, .int n, .int d] ∧ r = toX (step s (c n d)).2
theorem x_e {a : List Int} {c : Int} (h : a = [c]) (hc : c ≠ 0) : toX a = .error c := by
  rw [h]
  exact toX_e hc
theorem x_o {a l : List Int} (h : a = 0 :: l) : toX a = .ok (rowD l) := by
  rw [h]
  rfl
section
variable {s : Aid}
theorem rg_len (h : AidOk s) : (ringM s 1).length ≤ 11 := (ring_ok h vol_one).2.1
theorem rg_bl (h : AidOk s) : bl 120 (ringM s 1) := (ring_ok h vol_one).2.2
theorem rg_sm (h : AidOk s) : smr (ringM s 1) := bl_sm (rg_bl h) (by decide)
theorem bd_of {r : List Int} {n : Nat} (h : bl n r) (hn : n ≤ 200) (hl : r.length ≤ 12) : Bd BB r := ⟨n, h, by
  have : 2 ^ r.length ≤ 2 ^ 12 := Nat.pow_le_pow_right (by decide) hl
  have : (n + 1) * 2 ^ r.length ≤ 201 * 2 ^ 12 := Nat.mul_le_mul (by omega) this
  unfold BB
  omega⟩
theorem rgv_bd (h : AidOk s) {v : Rat} (hv : VolOk v) : Bd BB (ringM s v) := bd_of (ring_ok h hv).2.2 (by decide) (by have := (ring_ok h hv).2.1; omega)
theorem rg_bd (h : AidOk s) : Bd BB (ringM s 1) := rgv_bd h vol_one
theorem rg_tr (z : ¬ rz s) : trim (ringM s 1) ≠ [] := trim_ne z
end
theorem sc_ring : FnScope ["aid"] ["aid"] (defScope s_ring) := ⟨rfl, rfl, rfl, by decide +kernel, rfl, by decide +kernel, by decide +kernel⟩
theorem ok_ring (T : Txt K mg) (S : SeerB P base) : FnOk P w K mg base (L2.CX P w) 45 T.ring.f T.ring.fd ["aid"] (SpX K T.CR (preA T.CA T.CB .ring)) := by
  refine T.ring.F.okX sc_ring (fun vs H Q E h => ?_) (fun cdv A outer s H vs Q E hr h => ⟨_, (pss_one (ps_ret (pe_own T.plain (ok_plain T S) hr (pa_cons (pe_meth0 (pv 0) T.cl_CA T.Aid_ring.m (ok_Aid_ring T S) (hr.mono (by decide)) T.Aid_ring.b .nil (px rfl rfl rfl rfl)) pa_nil) pass0))), ?_⟩)
  · exact spx_len (fun ds d ⟨a, _, q, _⟩ => by rw [q] <;> rfl) h
  · obtain ⟨G, ds, r, hG, hR, ⟨s, hs, rfl, rfl⟩, k, kE⟩ := h
    refine Run.go (G := G) 0 hG hR rfl ?_
    by_cases z : rz s
    · exact r_dead_ret (dead_call ((x_ring T hs (ev_var rfl) fun _ => kE _ (x_e (st_ring_e hs z) (by decide))).dead (ringX_e z)))
    · have := rg_len hs
      exact r_ret (ev_call (ea_1 ((x_ring T hs (ev_var rfl) fun h => absurd h z).ok (ringX_o z))) ⟨_, rg_tr z, by omega, rg_sm hs, rfl, rfl⟩) (k _ (x_o (st_ring_o hs z)))
theorem sc_quiet : FnScope ["aid", "row", "shares", "one"] ["aid"] (defScope s_quiet) := ⟨rfl, rfl, rfl, by decide +kernel, rfl, by decide +kernel, by decide +kernel⟩
theorem ok_quiet (T : Txt K mg) (S : SeerB P base) : FnOk P w K mg base (L2.CX P w) 45 T.quiet.f T.quiet.fd ["aid"] (SpX K T.CR (preA T.CA T.CB .quiet)) := by
  refine T.quiet.F.okX sc_quiet (fun vs H Q E h => ?_) (fun cdv A outer s H vs Q E hr h => ⟨_, (pss_cons (ps_set (i := 1) sc_quiet.nd rfl (by first | exact Or.inl rfl | exact Or.inr rfl) (pe_meth0 (pv 0) T.cl_CA T.Aid_ring.m (ok_Aid_ring T S) (hr.mono (by decide)) T.Aid_ring.b .nil (px rfl rfl rfl rfl)))
      (pss_cons (ps_setLc (i := 2) (own := [("one", 3)]) rfl sc_quiet.nd rfl rfl (sw_true rfl rfl rfl (by decide +kernel)) (pi_listk K (pe_own T.told_steps (ok_told_steps T S) hr (pa_cons (pv 1) pa_nil) pass0)) (blkOk_by (N := ["aid", "row", "shares", "one"]) (sc := defScope (top 68)) (by decide +kernel)) (fun _ _ _ _ _ => by exact (pg_name (i := 3) sc_quiet.nd rfl (by first | exact Or.inl rfl | exact Or.inr rfl))) (fun _ _ _ _ _ => by exact (pts_one (pt_cmpR op_gt (pe_callB (call_lenk K) rfl T.b_len PySem.boot_len (pa_cons (pv 3) pa_nil)) pe_int (nomark _)))) (fun _ _ _ _ _ => by exact (pe_own T.fraction (ok_fraction T S) hr (pa_cons (pe_ix (ix_listk K) (pv 3) (pe_un un_neg pe_int) (fun _ _ => rfl)) (pa_cons (pe_ix (ix_listk K) (pv 3) pe_int (fun _ _ => rfl)) pa_nil)) pass0)))
      (pss_one (ps_ret (pe_op op_cat (pe_lst (pa_cons (pe_callTy call_int1 rfl T.b_int (by decide +kernel) (pa_cons (pe_own T.is_quiet (ok_is_quiet T S) hr (pa_cons (pv 1) pa_nil) pass0) pa_nil)) pa_nil)) (pe_own T.fractions_told (ok_fractions_told T) hr (pa_cons (pv 2) pa_nil) pass0)))))), ?_⟩)
  · exact spx_len (fun ds d ⟨a, _, q, _⟩ => by rw [q] <;> rfl) h
  · obtain ⟨G, ds, r, hG, hR, ⟨s, hs, rfl, rfl⟩, k, kE⟩ := h
    have rl := rg_len hs
    refine Run.go (G := G) 3 hG hR rfl ?_
    with_reducible refine r_seq ?_
    refine r_asgX (x_ring T hs (ev_var rfl) fun z => kE _ (x_e (st_quiet_e hs z) (by decide))) fun d e => ?_
    by_cases z : rz s
    · rw [ringX_e z] at e
      cases e
    · rw [ringX_o z] at e
      cases e
      have sc := steps_count (ringM s 1)
      have shl : (shares' (ringM s 1)).length ≤ 12 := Nat.le_trans (List.length_filterMap_le _ _) (by omega)
      with_reducible refine r_seq ?_
      refine r_asg (d := qsD (shares' (ringM s 1))) (EvN.dd (EvN.cast (en_lc (ei_list (en_call (ea_1 (ev_var rfl)) ⟨_, ⟨z, by omega, rg_bd hs⟩, rfl, rfl⟩).dd) (fun j hj => hj) ?_ ((Vbhlae.steps (ringM s 1)).map fun x => (shR x).map qD) ?_ ?_) ?_)) ?_
      · rw [List.length_map, List.length_map]
        exact sl_of (by omega)
      · simp only [List.length_map]
      · intro G1 i ds o hi ho
        obtain ⟨hir, rfl⟩ := rows_item hi
        rw [List.getElem?_map, List.getElem?_eq_getElem hir] at ho
        have ho : some ((shR (Vbhlae.steps (ringM s 1))[i]).map qD) = some o := ho
        cases ho
        obtain ⟨sp, sl⟩ := steps_pos z _ (List.getElem_mem hir)
        have n0 : (Vbhlae.steps (ringM s 1))[i].length ≠ 0 := fun e => by
          rw [at_ge (by omega)] at sp
          omega
        refine ⟨EvT.cast (et_b (ev_gt (ev_len (ev_var rfl)) ev_int)) ?_, fun d hd => Evd.cast (ev_call (ea_2 (ev_ixE (ev_var rfl) (ev_neg ev_int) (d := .int (at_ (Vbhlae.steps (ringM s 1))[i] ((Vbhlae.steps (ringM s 1))[i].length - 1))) ?_) (ev_ixL (k := 0) (ev_var rfl) ev_int rfl (map_int_at (by omega)))) ⟨_, _, by omega, rfl, rfl⟩) ?_⟩
        · rw [List.length_map, Option.isSome_map]
          unfold shR
          by_cases c : (Vbhlae.steps (ringM s 1))[i].length ≤ 1
          · rw [if_pos c, decide_eq_false (by omega)]
            rfl
          · rw [if_neg c, decide_eq_true (by omega)]
            rfl
        · rw [List.length_map]
          exact map_int_at (by omega)
        · unfold shR at hd
          by_cases c : (Vbhlae.steps (ringM s 1))[i].length ≤ 1
          · rw [if_pos c] at hd
            cases hd
          · rw [if_neg c] at hd
            cases hd
            rfl
      · unfold shares'
        rw [List.filterMap_map, List.map_filterMap]
        rfl
      refine r_ret (EvN.dd (EvN.cast (en_cat (en_lst (ea_1 (ev_intb (ev_call (ea_1 (ev_var rfl)) ⟨_, at_ne z, by omega, rg_bd hs, rfl, rfl⟩))) (show (1 : Nat) ≤ sizeLine by decide)).dd (en_call (ea_1 (ev_var rfl)) ⟨shares' (ringM s 1), by omega, rfl, rfl⟩).dd ?_) (m := (bit (Vbhlae.quiet (ringM s 1)) :: fracs (shares' (ringM s 1))).map D.int) rfl)) (k _ (x_o (st_quiet_o hs z)))
      rw [List.length_map, fracs_len]
      exact sl_of (by show 1 + _ ≤ _; omega)
theorem sc_steps : FnScope ["aid"] ["aid"] (defScope s_steps) := ⟨rfl, rfl, rfl, by decide +kernel, rfl, by decide +kernel, by decide +kernel⟩
theorem ok_steps (T : Txt K mg) (S : SeerB P base) : FnOk P w K mg base (L2.CX P w) 45 T.steps.f T.steps.fd ["aid"] (SpX K T.CR (preA T.CA T.CB .steps)) := by
  refine T.steps.F.okX sc_steps (fun vs H Q E h => ?_) (fun cdv A outer s H vs Q E hr h => ⟨_, (pss_one (ps_ret (pe_own T.rows_told (ok_rows_told T) hr (pa_cons (pe_own T.told_steps (ok_told_steps T S) hr (pa_cons (pe_meth0 (pv 0) T.cl_CA T.Aid_ring.m (ok_Aid_ring T S) (hr.mono (by decide)) T.Aid_ring.b .nil (px rfl rfl rfl rfl)) pa_nil) pass0) pa_nil) pass0))), ?_⟩)
  · exact spx_len (fun ds d ⟨a, _, q, _⟩ => by rw [q] <;> rfl) h
  · obtain ⟨G, ds, r, hG, hR, ⟨s, hs, rfl, rfl⟩, k, kE⟩ := h
    refine Run.go (G := G) 0 hG hR rfl ?_
    have rl := rg_len hs
    by_cases z : rz s
    · exact r_dead_ret (dead_call (dead_call ((x_ring T hs (ev_var rfl) fun _ => kE _ (x_e (st_steps_e hs z) (by decide))).dead (ringX_e z))))
    · have sc := steps_count (ringM s 1)
      refine r_ret (EvN.dd (en_call (ea_1 (en_call (ea_1 ((x_ring T hs (ev_var rfl) fun h => absurd h z).ok (ringX_o z))) ⟨_, ⟨z, by omega, rg_bd hs⟩, rfl, rfl⟩).dd) ⟨Vbhlae.steps (ringM s 1), fun x hx => ?_, by omega, rfl, rfl⟩)) (k _ (x_o (st_steps_o hs z)))
      have := (steps_pos z x hx).2
      omega
theorem rin_mem : ∀ {f : Nat} {l : List Int} {rs : List (List Int)}, Vbhlae.rowsIn f l = some rs → rs.length ≤ l.length ∧ ∀ a ∈ rs, a.length ≤ l.length ∧ ∀ x ∈ a, x ∈ l
  | 0, l, rs, h => by cases h
  | f + 1, [], rs, h => by
    cases h
    exact ⟨Nat.le_refl _, fun a ha => by cases ha⟩
  | f + 1, n :: r, rs, h => by
    have h : (if n < 1 ∨ (r.length : Int) < n then none else (Vbhlae.rowsIn f (r.drop n.toNat)).map fun l => r.take n.toNat :: l) = some rs := h
    by_cases c : n < 1 ∨ (r.length : Int) < n
    · rw [if_pos c] at h
      cases h
    · rw [if_neg c] at h
      cases q : Vbhlae.rowsIn f (r.drop n.toNat) with
      | none =>
        rw [q] at h
        cases h
      | some us =>
        rw [q] at h
        cases h
        obtain ⟨i1, i2⟩ := rin_mem q
        have dl : (r.drop n.toNat).length ≤ r.length := by
          rw [List.length_drop]
          omega
        refine ⟨?_, fun a ha => ?_⟩
        · simp only [List.length_cons]
          omega
        · rcases List.mem_cons.mp ha with e | e
          · subst e
            refine ⟨?_, fun x hx => List.mem_cons_of_mem _ (List.mem_of_mem_take hx)⟩
            rw [List.length_take, List.length_cons]
            omega
          · obtain ⟨j1, j2⟩ := i2 a e
            refine ⟨?_, fun x hx => List.mem_cons_of_mem _ (List.mem_of_mem_drop (j2 x hx))⟩
            rw [List.length_cons]
            omega
theorem checkM_eq {s : Aid} {l : List Int} (z : ¬ rz s) : checkM s l = (!isNonD (rinD l) && (match Vbhlae.rowsIn (l.length + 1) l with | none => false | some rs => proofM (Vbhlae.plain (ringM s 1)) rs)) := by
  unfold checkM rinD
  cases Vbhlae.rowsIn (l.length + 1) l with
  | none => rfl
  | some rs =>
    have := plain_pos (r := ringM s 1) z
    exact proof_eq rs _ (by omega)
theorem sc_check : FnScope ["aid", "numbers", "row", "rows"] ["aid", "numbers"] (defScope s_check) := ⟨rfl, rfl, rfl, by decide +kernel, rfl, by decide +kernel, by decide +kernel⟩
theorem ok_check (T : Txt K mg) (S : SeerB P base) : FnOk P w K mg base (L2.CX P w) 45 T.check.f T.check.fd ["aid", "numbers"] (SpX K T.CR (preAL T.CA T.CB .check)) := by
  refine T.check.F.okX sc_check (fun vs H Q E h => ?_) (fun cdv A outer s H vs Q E hr h => ⟨_, (pss_cons (ps_expr (pe_own T.want (ok_want T) hr (pa_cons (pe_cmpR op_le (pe_callB (call_lenk K) rfl T.b_len PySem.boot_len (pa_cons (pv 1) pa_nil)) (pe_gi T.c_MOST_CHECKED) (nomark _)) (pa_cons (pe_gi T.c_BAD) pa_nil)) (px rfl rfl rfl rfl)))
      (pss_cons (ps_set (i := 2) sc_check.nd rfl (by first | exact Or.inl rfl | exact Or.inr rfl) (pe_own T.plain (ok_plain T S) hr (pa_cons (pe_meth0 (pv 0) T.cl_CA T.Aid_ring.m (ok_Aid_ring T S) (hr.mono (by decide)) T.Aid_ring.b .nil (px rfl rfl rfl rfl)) pa_nil) pass0))
      (pss_cons (ps_set (i := 3) sc_check.nd rfl (by first | exact Or.inl rfl | exact Or.inr rfl) (pe_own T.rows_in (ok_rows_in T) hr (pa_cons (pv 1) pa_nil) pass0))
      (pss_one (ps_ret (pe_lst (pa_cons (pe_callTy call_int1 rfl T.b_int (by decide +kernel) (pa_cons (pe_and (pe_cmp (pc_notN (pv 3)) rfl) (pe_one (pe_own T.is_proof (ok_is_proof T S) hr (pa_cons (pv 2) (pa_cons (pv 3) pa_nil)) pass0))) pa_nil)) pa_nil))))))), ?_⟩)
  · exact spx_len (fun ds d ⟨a, _, _, _, _, q, _⟩ => by rw [q] <;> rfl) h
  · obtain ⟨G, ds, r, hG, hR, ⟨s, l, hs, hl, hb, rfl, rfl⟩, k, kE⟩ := h
    have rl := rg_len hs
    refine Run.go (G := G) 2 hG hR rfl ?_
    with_reducible refine r_seq ?_
    refine r_want T (ev_le (ev_len (ev_var rfl)) ev_int) ev_int (fun q => kE _ (x_e (st_check_b ?_) (by decide))) fun q => ?_
    · rw [List.length_map] at q
      have := of_decide_eq_false q
      omega
    rw [List.length_map] at q
    have q : l.length ≤ 200 := by
      have := of_decide_eq_true q
      omega
    with_reducible refine r_seq ?_
    by_cases z : rz s
    · exact r_dead_asg (dead_call ((x_ring T hs (ev_var rfl) fun _ => kE _ (x_e (st_check_e hs q z) (by decide))).dead (ringX_e z)))
    · refine r_asg (ev_call (ea_1 ((x_ring T hs (ev_var rfl) fun h => absurd h z).ok (ringX_o z))) ⟨_, rg_tr z, by omega, rg_sm hs, rfl, rfl⟩) ?_
      with_reducible refine r_seq ?_
      refine r_asg (ev_call (ea_1 (ev_var rfl)) ⟨l, by omega, rfl, rfl⟩) ?_
      refine r_ret (EvN.dd (EvN.cast (en_lst (ea_1 (ev_intb (b := checkM s l) (Evd.cast (ev_and (ev_notN (ev_var rfl)) (c := match Vbhlae.rowsIn (l.length + 1) l with | none => false | some rs => proofM (Vbhlae.plain (ringM s 1)) rs) fun hn => ?_) (congrArg D.bl (checkM_eq z).symm)))) (show (1 : Nat) ≤ sizeLine by decide)) (m := [bit (checkM s l)].map D.int) rfl)) (k _ (x_o (st_check_o hs q z)))
      cases e : Vbhlae.rowsIn (l.length + 1) l with
      | none =>
        unfold rinD at hn
        rw [e] at hn
        cases hn
      | some rs =>
        obtain ⟨i1, i2⟩ := rin_mem e
        have pl := plain_len (ringM s 1)
        have tl := trim_len_le (ringM s 1)
        refine ev_call (ea_2 (ev_var rfl) (d2 := rowsD rs) (ev_var ?_)) ⟨_, rs, by omega, by omega, fun a ha => ?_, rfl, rfl⟩
        · unfold rinD
          rw [e]
          rfl
        · obtain ⟨j1, j2⟩ := i2 a ha
          have ab : bl 60 a := fun x hx => hb x (j2 x hx)
          exact ⟨by omega, bl_sm ab (by decide), bl_sm (red_bl fun x hx => ab x (trim_mem hx)) (by decide)⟩
end
end Qa

set_option Elab.async false
set_option linter.all false
set_option maxRecDepth 100000
set_option maxHeartbeats 1000000
namespace Qa
open PySem PySem.Spec PyProof.Rows L2
open Vbhlae (Q Row at_ plus times chain trim common plain reduced smaller steps quiet Aid Band Call step guarded inr bit ringRow upRow ringOf quietAt one noRing noBand loudly listRow qRow present)
section
variable {s : Aid}
/-! ### freed -/
def freedOk (n : Int) (l : List Int) : Bool := inr n 0 16 && rowOk l 0 12 1000
theorem fr_m {n : Int} {l : List Int} {b : Bool} (q : freedOk n l = b) : (!(inr n 0 16 && (decide (l.length ≤ 12) && l.all fun x => inr x (-1000) 1000))) = !b := by
  rw [← q]
  unfold freedOk
  rw [show (decide (l.length ≤ 12) && l.all fun x => inr x (-1000) 1000) = rowOk l 0 12 1000 from (rowOk_0 l 12 1000).symm]
theorem st_freed_b {n : Int} {l : List Int} (q : freedOk n l = false) : (step s (.freed n l)).2 = [-1] := congrArg Prod.snd (g_hit (fr_m q))
theorem st_freed_e {n : Int} {l : List Int} (h : AidOk s) (q : freedOk n l = true) (z : rz s) : (step s (.freed n l)).2 = [-5] := congrArg Prod.snd ((g_miss (fr_m q)).trans (g_hit (nr_e h z)))
theorem fr_mis {l : List Int} {b : Bool} (h : AidOk s) (q : decide (l.length + 1 ≠ (plain (ringM s 1)).length) = b) : (l.length + 1 != (ringOf s).length) = b := by
  rw [← ring_of h, ← q]
  by_cases c : l.length + 1 = (plain (ringM s 1)).length
  · simp [c]
  · simp [c]
theorem st_freed_f {n : Int} {l : List Int} (h : AidOk s) (q : freedOk n l = true) (z : ¬ rz s) (m : l.length + 1 ≠ (plain (ringM s 1)).length) : (step s (.freed n l)).2 = [-6] := congrArg Prod.snd ((g_miss (fr_m q)).trans ((g_miss (nr_o h z)).trans (g_hit (fr_mis h (decide_eq_true m)))))
theorem quiet_pl (h : AidOk s) (z : ¬ rz s) : quietAt s one = quiet (plain (ringM s 1)) := by
  rw [at_one h, quiet_plain z]
theorem goU_len (low told : List Int) (h : low ≠ []) : (goU low told).length = low.length := by
  have := List.length_pos_iff.mpr h
  unfold goU Vbhlae.upperOf
  rw [List.length_append, List.length_map, List.length_range]
  show low.length - 1 + 1 = _
  omega
theorem goU_alk (low told : List Int) : Alk (goU low told) (Vbhlae.upperOf low told) := fun i => by
  unfold goU
  by_cases c : i < (Vbhlae.upperOf low told).length
  · exact at_append_l c
  · rw [at_ge (r := Vbhlae.upperOf low told) (by omega)]
    by_cases c2 : i = (Vbhlae.upperOf low told).length
    · subst c2
      rw [at_lt (by simp)]
      simp
    · exact at_ge (by simp; omega)
theorem plain_nil (z : ¬ rz s) : plain (ringM s 1) ≠ [] := at_ne (by have := plain_pos (r := ringM s 1) z; omega)
def freedA (s : Aid) (n : Int) (l : List Int) : List Int := fracs (ansM (goU (plain (ringM s 1)) l) (plain (ringM s 1)) (clickL n.toNat) n.toNat)
theorem freed_same (h : AidOk s) (n : Int) (l : List Int) : (Vbhlae.freed (ringOf s) (l.map Q.whole) n.toNat).flatMap qRow = freedA s n l := by
  rw [← ring_of h, freed_eq, fracs_oq]
  rfl
theorem st_freed_n {n : Int} {l : List Int} (h : AidOk s) (q : freedOk n l = true) (z : ¬ rz s) (m : l.length + 1 = (plain (ringM s 1)).length) (u : quiet (plain (ringM s 1)) = false) : (step s (.freed n l)).2 = 0 :: 0 :: freedA s n l := by
  refine (congrArg Prod.snd ((g_miss (fr_m q)).trans ((g_miss (nr_o h z)).trans (g_miss (fr_mis h (decide_eq_false fun c => c m)))))).trans ?_
  rw [g_none]
  show [0, bit (quietAt s one)] ++ ((if quietAt s one = true then _ else []) ++ (Vbhlae.freed (ringOf s) (l.map Q.whole) n.toNat).flatMap qRow) = _
  rw [freed_same h, quiet_pl h z, u]
  rfl
def freedL (s : Aid) (l : List Int) : Rat := loudV (goU (plain (ringM s 1)) l) (plain (ringM s 1))
theorem st_freed_q {n : Int} {l : List Int} (h : AidOk s) (q : freedOk n l = true) (z : ¬ rz s) (m : l.length + 1 = (plain (ringM s 1)).length) (u : quiet (plain (ringM s 1)) = true) : (step s (.freed n l)).2 = 0 :: 1 :: (freedL s l).num :: ((freedL s l).den : Int) :: freedA s n l := by
  refine (congrArg Prod.snd ((g_miss (fr_m q)).trans ((g_miss (nr_o h z)).trans (g_miss (fr_mis h (decide_eq_false fun c => c m)))))).trans ?_
  rw [g_none]
  show [0, bit (quietAt s one)] ++ ((if quietAt s one = true then qRow (Vbhlae.loud (Vbhlae.upperOf (ringOf s) l) (ringOf s)) else []) ++ (Vbhlae.freed (ringOf s) (l.map Q.whole) n.toNat).flatMap qRow) = _
  have np := plain_nil z
  rw [freed_same h, quiet_pl h z, u, if_pos rfl, ← ring_of h, loudV_eq _ _ np, ← loudV_alk (goU_alk _ l) (fun i => rfl : Alk (plain (ringM s 1)) (plain (ringM s 1))) np np]
  rfl
/-! ### volume -/
def qv (s : Aid) (n d : Int) : Bool := quiet (ringM s ((n : Rat) / (d : Rat)))
theorem frac_pos {n d : Int} (hd : 1 ≤ d) : Vbhlae.frac n d.toNat = oq ((n : Rat) / (d : Rat)) := by
  rw [frac_oq, mk_eq]
  have e : ((d.toNat : Nat) : Rat) = (d : Rat) := by
    have : ((d.toNat : Nat) : Int) = d := Int.toNat_of_nonneg (by omega)
    rw [← Rat.intCast_natCast, this]
  rw [e]
theorem vol_ok {n d : Int} (h0 : 0 ≤ n) (h1 : n ≤ 1000) (hd : 1 ≤ d) (hd1 : d ≤ 1000) : VolOk ((n : Rat) / (d : Rat)) := by
  obtain ⟨a, b⟩ := q_size (x := (n : Rat) / (d : Rat)) (N := n) (M := d) (by omega) rfl
  exact ⟨by omega, by omega⟩
theorem qv_eq (h : AidOk s) {n d : Int} (hd : 1 ≤ d) : quietAt s (Vbhlae.frac n d.toNat) = qv s n d := by
  rw [frac_pos hd, at_of h]
  rfl
theorem great_more (h : AidOk s) {d : Int} (hd : 1 ≤ d) {f v : Nat} (q : qv s (v : Int) d = true) (q2 : qv s ((v : Int) + 1) d = true) : Vbhlae.greatest s d.toNat (f + 1) v = Vbhlae.greatest s d.toNat f (v + 1) := by
  have e : quietAt s (Vbhlae.frac (v : Int) d.toNat) = true := by rw [qv_eq h hd, q]
  show (if quietAt s (Vbhlae.frac (v : Int) d.toNat) = true then _ else _) = _
  rw [if_pos e]
theorem great_stop (h : AidOk s) {d : Int} (hd : 1 ≤ d) {f v : Nat} (q : qv s (v : Int) d = true) (q2 : qv s ((v : Int) + 1) d = false) : Vbhlae.greatest s d.toNat (f + 1) v = some v := by
  have e : quietAt s (Vbhlae.frac (v : Int) d.toNat) = true := by rw [qv_eq h hd, q]
  have e2 : quietAt s (Vbhlae.frac ((v + 1 : Nat) : Int) d.toNat) = false := by
    rw [qv_eq h hd, ← q2]
    push_cast
    rfl
  have e3 : Vbhlae.greatest s d.toNat (f + 1) v = Vbhlae.greatest s d.toNat f (v + 1) := by
    show (if quietAt s (Vbhlae.frac (v : Int) d.toNat) = true then _ else _) = _
    rw [if_pos e]
  rw [e3]
  cases f with
  | zero =>
    show (if quietAt s (Vbhlae.frac ((v + 1 : Nat) : Int) d.toNat) = true then _ else _) = _
    rw [if_neg (by rw [e2]; exact Bool.false_ne_true), if_neg (by omega)]
    rfl
  | succ f =>
    show (if quietAt s (Vbhlae.frac ((v + 1 : Nat) : Int) d.toNat) = true then _ else _) = _
    rw [if_neg (by rw [e2]; exact Bool.false_ne_true), if_neg (by omega)]
    rfl
theorem great_end (h : AidOk s) {d : Int} (hd : 1 ≤ d) {v : Nat} (q : qv s (v : Int) d = true) : Vbhlae.greatest s d.toNat 0 v = some v := by
  have e : quietAt s (Vbhlae.frac (v : Int) d.toNat) = true := by rw [qv_eq h hd, q]
  show (if quietAt s (Vbhlae.frac (v : Int) d.toNat) = true then _ else _) = _
  rw [if_pos e]
theorem great_none (h : AidOk s) {d : Int} (hd : 1 ≤ d) (m : Nat) (q : qv s 0 d = false) : Vbhlae.greatest s d.toNat m 0 = none := by
  have e : quietAt s (Vbhlae.frac ((0 : Nat) : Int) d.toNat) = false := by rw [qv_eq h hd]; exact q
  cases m with
  | zero =>
    show (if quietAt s (Vbhlae.frac ((0 : Nat) : Int) d.toNat) = true then _ else _) = _
    rw [if_neg (by rw [e]; exact Bool.false_ne_true), if_pos rfl]
  | succ m =>
    show (if quietAt s (Vbhlae.frac ((0 : Nat) : Int) d.toNat) = true then _ else _) = _
    rw [if_neg (by rw [e]; exact Bool.false_ne_true), if_pos rfl]
def volB (d m : Int) : Bool := inr d 1 100 && inr m 0 60
theorem st_vol_b {d m : Int} (q : volB d m = false) : (step s (.volume d m)).2 = [-1] := congrArg Prod.snd (g_hit (by rw [show (inr d 1 100 && inr m 0 60) = false from q]; rfl))
theorem st_vol_m {d m : Int} (q : volB d m = true) {o : Option Nat} (e : Vbhlae.volume s d.toNat m.toNat = o) : (step s (.volume d m)).2 = 0 :: match o with
    | none => [0]
    | some v => [1, (v : Int)] := by
  refine (congrArg Prod.snd (g_miss (by rw [show (inr d 1 100 && inr m 0 60) = true from q]; rfl))).trans ?_
  rw [g_none, e]
  cases o with
  | none => rfl
  | some v => rfl
theorem st_qa_b {n d : Int} (q : (inr n 0 1000 && inr d 1 1000) = false) : (step s (.quietAt n d)).2 = [-1] := congrArg Prod.snd (g_hit (by rw [q]; rfl))
theorem st_qa_o {n d : Int} (h : AidOk s) (q : (inr n 0 1000 && inr d 1 1000) = true) : (step s (.quietAt n d)).2 = [0, bit (qv s n d)] := by
  refine (congrArg Prod.snd (g_miss (by rw [q]; rfl))).trans ?_
  rw [g_none]
  rw [Bool.and_eq_true, inr_iff, inr_iff] at q
  show [0, bit (quietAt s (Vbhlae.frac n d.toNat))] = _
  rw [qv_eq h (by omega)]
/-! ### the others -/
theorem st_alone : (step s .alone).2 = 0 :: bit (quiet s.leakLow) :: s.bands.map fun b => match b with
    | none => -1
    | some x => bit (quiet x.low) := rfl
theorem row_m {l : List Int} {b : Bool} (q : rowOk l 1 12 1000000 = b) : (!(decide (1 ≤ l.length) && (decide (l.length ≤ 12) && l.all fun x => inr x (-1000000) 1000000))) = !b := by
  rw [← q, show (decide (1 ≤ l.length) && (decide (l.length ≤ 12) && l.all fun x => inr x (-1000000) 1000000)) = rowOk l 1 12 1000000 from (rowOk_1 l 12 1000000).symm]
theorem st_row_b {l : List Int} (q : rowOk l 1 12 1000000 = false) : (step s (.row l)).2 = [-1] := congrArg Prod.snd (g_hit (row_m q))
theorem st_row_e {l : List Int} (q : rowOk l 1 12 1000000 = true) (z : at_ l 0 = 0) : (step s (.row l)).2 = [-5] := congrArg Prod.snd ((g_miss (row_m q)).trans (g_hit (by rw [z]; rfl)))
theorem st_row_o {l : List Int} (q : rowOk l 1 12 1000000 = true) (z : at_ l 0 ≠ 0) : (step s (.row l)).2 = 0 :: bit (quiet l) :: (steps l).flatMap listRow := by
  refine (congrArg Prod.snd ((g_miss (row_m q)).trans (g_miss (by simpa using z)))).trans ?_
  rw [g_none]
  rfl
def turnR (r : List Int) : List Int := (List.range r.length).map fun i => if i % 2 = 1 then -(at_ r i) else at_ r i
theorem foldl_sum (f : Nat → Int) : ∀ (l : List Nat) (c : Int), l.foldl (fun s i => s + f i) c = c + (l.map f).sum
  | [], c => by simp
  | x :: l, c => by
    rw [List.foldl_cons, foldl_sum f l, List.map_cons, List.sum_cons]
    omega
theorem row_range (r : List Int) : (List.range r.length).map (at_ r) = r := by
  refine at_ext (by simp) fun i hi => ?_
  rw [at_range (by simpa using hi)]
theorem value_1 (r : List Int) : Vbhlae.valueAt r 1 = r.sum := by
  unfold Vbhlae.valueAt
  rw [foldl_sum (fun i => if (1 : Int) = -1 ∧ i % 2 = 1 then -(at_ r i) else at_ r i)]
  have e : ((List.range r.length).map fun i => if (1 : Int) = -1 ∧ i % 2 = 1 then -(at_ r i) else at_ r i) = r := by
    refine Eq.trans (List.map_congr_left fun i _ => if_neg fun h => absurd h.1 (by decide)) (row_range r)
  rw [e]
  omega
theorem value_m (r : List Int) : Vbhlae.valueAt r (-1) = (turnR r).sum := by
  unfold Vbhlae.valueAt
  rw [foldl_sum (fun i => if (-1 : Int) = -1 ∧ i % 2 = 1 then -(at_ r i) else at_ r i)]
  have e : ((List.range r.length).map fun i => if (-1 : Int) = -1 ∧ i % 2 = 1 then -(at_ r i) else at_ r i) = turnR r := by
    refine List.map_congr_left fun i _ => ?_
    by_cases c : i % 2 = 1
    · rw [if_pos ⟨rfl, c⟩, if_pos c]
    · rw [if_neg fun h => c h.2, if_neg c]
  rw [e]
  omega
theorem st_ends_e (h : AidOk s) (z : rz s) : (step s .ends).2 = [-5] := congrArg Prod.snd (g_hit (nr_e h z))
theorem st_ends_o (h : AidOk s) (z : ¬ rz s) : (step s .ends).2 = [0, (plain (ringM s 1)).sum, (turnR (plain (ringM s 1))).sum] := by
  refine (congrArg Prod.snd (g_miss (nr_o h z))).trans ?_
  rw [g_none]
  show [0, Vbhlae.valueAt (ringOf s) 1, Vbhlae.valueAt (ringOf s) (-1)] = _
  rw [value_1, value_m, ring_of h]
def bandT : Option Band → List Int
  | none => [0]
  | some x => 1 :: (qRow x.gain ++ (listRow x.up ++ listRow x.low))
theorem st_told : (step s .told).2 = 0 :: (listRow s.leakUp ++ (listRow s.leakLow ++ s.bands.flatMap bandT)) := by
  show 0 :: (listRow s.leakUp ++ (listRow s.leakLow ++ s.bands.flatMap fun b => match b with
      | none => [0]
      | some x => 1 :: (qRow x.gain ++ (listRow x.up ++ listRow x.low)))) = _
  congr 3
end
end Qa

set_option Elab.async false
set_option linter.all false
set_option maxRecDepth 100000
set_option maxHeartbeats 4000000
namespace Qa
open PySem PySem.Spec PyProof.Rows L2
open Vbhlae (at_ trim common chain smaller Band Aid present Q bit listRow qRow step Call inr)
section
variable {P : Program} {w : World} {K : PySem.W.Frag} {mg : Str → Option Value} {base : Heap}
section
variable {s : Aid}
theorem hr_len (h : AidOk s) : (hearM s 1).length ≤ 10 := (hear_ok h vol_one).2.1
theorem hr_bl (h : AidOk s) : bl 120 (hearM s 1) := (hear_ok h vol_one).2.2
theorem bl_pad {e n : Nat} {r : List Int} (h : bl e r) : bl e (padTo r n) := fun x hx => by
  rcases List.mem_append.mp hx with c | c
  · exact h x c
  · rw [(List.mem_replicate.mp c).2]
    exact Nat.two_pow_pos _
theorem lok_quiet {low up : List Int} {n e : Nat} (q : Vbhlae.quiet low = true) (hn : max up.length low.length = n + 1) (h11 : n ≤ 10) (h : bl e low) (h2 : bl e up) (he : e ≤ 200) : LOk (padTo low (n + 1)) (padTo up (n + 1)) n := by
  refine lok_of (e := e) ?_ ?_ (bl_pad h) (bl_pad h2) (nz_quiet q (fun i => padTo_at low (n + 1) i) ?_) ?_
  · rw [padTo_len]
    omega
  · rw [padTo_len]
    omega
  · rw [padTo_len]
    omega
  · have : 2 ^ (n + 4) ≤ 2 ^ 14 := Nat.pow_le_pow_right (by decide) (by omega)
    have : (e + 1) * 2 ^ (n + 4) ≤ 201 * 2 ^ 14 := Nat.mul_le_mul (by omega) this
    unfold BB
    omega
end
theorem sc_loud : FnScope ["aid", "upper", "lower"] ["aid"] (defScope s_loud) := ⟨rfl, rfl, rfl, by decide +kernel, rfl, by decide +kernel, by decide +kernel⟩
theorem ok_loud (T : Txt K mg) (S : SeerB P base) : FnOk P w K mg base (L2.CX P w) 46 T.loud.f T.loud.fd ["aid"] (SpX K T.CR (preA T.CA T.CB .loud)) := by
  refine T.loud.F.okX sc_loud (fun vs H Q E h => ?_) (fun cdv A outer s H vs Q E hr h => ⟨_, (pss_cons (ps_asg (pe_meth0 (pv 0) T.cl_CA T.Aid_heard.m (ok_Aid_heard T S) (hr.mono (by decide)) T.Aid_heard.b .nil (px rfl rfl rfl rfl)) (pg_tupk K (n := 2) (pgs_cons (pg_name (i := 1) sc_loud.nd rfl (by first | exact Or.inl rfl | exact Or.inr rfl)) (pgs_cons (pg_name (i := 2) sc_loud.nd rfl (by first | exact Or.inl rfl | exact Or.inr rfl)) pgs_nil))))
      (pss_cons (ps_expr (pe_own T.want (ok_want T) hr (pa_cons (pe_own T.is_quiet (ok_is_quiet T S) hr (pa_cons (pv 2) pa_nil) pass0) (pa_cons (pe_gi T.c_LOUD) pa_nil)) (px rfl rfl rfl rfl)))
      (pss_one (ps_ret (pe_callTy (call_listk K) rfl T.b_list (by decide +kernel) (pa_cons (pe_own T.loudness (ok_loudness T S) hr (pa_cons (pv 1) (pa_cons (pv 2) pa_nil)) pass0) pa_nil)))))), ?_⟩)
  · exact spx_len (fun ds d ⟨a, _, q, _⟩ => by rw [q] <;> rfl) h
  · obtain ⟨G, ds, r, hG, hR, ⟨s, hs, rfl, rfl⟩, k, kE⟩ := h
    have rl := rg_len hs
    have hl := hr_len hs
    have rn := ring_ne hs vol_one
    refine Run.go (G := G) 2 hG hR rfl ?_
    with_reducible refine r_seq ?_
    refine r_asgX2 (x_heard T hs (ev_var rfl) fun z => kE _ (x_e (st_loud_e hs z) (by decide))) (fun d e => ?_) fun d1 d2 e => ?_
    · by_cases z : rz s
      · rw [heardX_e z] at e
        cases e
      · rw [heardX_o z] at e
        cases e
        exact ⟨_, _, rfl⟩
    by_cases z : rz s
    · rw [heardX_e z] at e
      cases e
    · rw [heardX_o z] at e
      cases e
      with_reducible refine r_seq ?_
      refine r_want T (ev_call (ea_1 (ev_var rfl)) ⟨_, at_ne z, by omega, rg_bd hs, rfl, rfl⟩) ev_int (fun q => kE _ (x_e (st_loud_b hs z q) (by decide))) fun q => ?_
      obtain ⟨n, hn⟩ : ∃ n, max (hearM s 1).length (ringM s 1).length = n + 1 := ⟨max (hearM s 1).length (ringM s 1).length - 1, by omega⟩
      exact r_ret (EvN.dd (EvN.cast (en_listT (ev_call (ea_2 (ev_var rfl) (ev_var rfl)) ⟨_, _, n, hn, by omega, at_ne z, lok_quiet q hn (by omega) (rg_bl hs) (hr_bl hs) (by decide), rfl, rfl⟩)) (m := [(loudV (hearM s 1) (ringM s 1)).num, ((loudV (hearM s 1) (ringM s 1)).den : Int)].map D.int) rfl)) (k _ (x_o (st_loud_o hs z q)))
theorem in_bl {l : List Int} {lo hi far : Int} {e : Nat} (q : rowOk l lo hi far = true) (h : far < 2 ^ e) : bl e l := fun x hx => by
  have := rowOk_mem q x hx
  have : ((2 ^ e : Nat) : Int) = 2 ^ e := by push_cast; rfl
  omega
theorem aok_in {up low ins : List Int} (h1 : bl 200 up) (h2 : bl 200 low) (h3 : bl 200 ins) (z : at_ low 0 ≠ 0) (l1 : up.length ≤ 12) (l2 : low.length ≤ 12) (l3 : ins.length ≤ 16) : AOk up low ins := by
  refine aok_of (b := 200) (L := 12) h1 h3 h2 z l1 l2 ?_
  have : (ins.length + 2) * (2 * 200 + 12 + 2) ≤ 18 * (2 * 200 + 12 + 2) := Nat.mul_le_mul_right _ (by omega)
  unfold BB
  omega
theorem sc_play : FnScope ["aid", "inputs", "upper", "lower"] ["aid", "inputs"] (defScope s_play) := ⟨rfl, rfl, rfl, by decide +kernel, rfl, by decide +kernel, by decide +kernel⟩
theorem ok_play (T : Txt K mg) (S : SeerB P base) : FnOk P w K mg base (L2.CX P w) 46 T.play.f T.play.fd ["aid", "inputs"] (SpX K T.CR (preAL T.CA T.CB .play)) := by
  refine T.play.F.okX sc_play (fun vs H Q E h => ?_) (fun cdv A outer s H vs Q E hr h => ⟨_, (pss_cons (ps_expr (pe_own T.want_row (ok_want_row T) hr (pa_cons (pv 1) (pa_cons pe_int (pa_cons (pe_gi T.c_MOST_INPUTS) (pa_cons (pe_gi T.c_FAR) pa_nil)))) (px rfl rfl rfl rfl)))
      (pss_cons (ps_asg (pe_meth0 (pv 0) T.cl_CA T.Aid_heard.m (ok_Aid_heard T S) (hr.mono (by decide)) T.Aid_heard.b .nil (px rfl rfl rfl rfl)) (pg_tupk K (n := 2) (pgs_cons (pg_name (i := 2) sc_play.nd rfl (by first | exact Or.inl rfl | exact Or.inr rfl)) (pgs_cons (pg_name (i := 3) sc_play.nd rfl (by first | exact Or.inl rfl | exact Or.inr rfl)) pgs_nil))))
      (pss_one (ps_ret (pe_own T.fractions_told (ok_fractions_told T) hr (pa_cons (pe_own T.answers_to (ok_answers_to T S) hr (pa_cons (pv 2) (pa_cons (pv 3) (pa_cons (pv 1) pa_nil))) pass0) pa_nil) pass0))))), ?_⟩)
  · exact spx_len (fun ds d ⟨a, _, _, _, _, q, _⟩ => by rw [q] <;> rfl) h
  · obtain ⟨G, ds, r, hG, hR, ⟨s, l, hs, hl, hb, rfl, rfl⟩, k, kE⟩ := h
    have rl := rg_len hs
    have ul := hr_len hs
    refine Run.go (G := G) 2 hG hR rfl ?_
    with_reducible refine r_seq ?_
    refine r_wrow T (by omega) (ev_var rfl) ev_int ev_int ev_int (fun q => kE _ (x_e (st_play_b q) (by decide))) fun q => ?_
    have ql := (rowOk_len q).2
    with_reducible refine r_seq ?_
    refine r_asgX2 (x_heard T hs (ev_var rfl) fun z => kE _ (x_e (st_play_e hs q z) (by decide))) (fun d e => ?_) fun d1 d2 e => ?_
    · by_cases z : rz s
      · rw [heardX_e z] at e
        cases e
      · rw [heardX_o z] at e
        cases e
        exact ⟨_, _, rfl⟩
    by_cases z : rz s
    · rw [heardX_e z] at e
      cases e
    · rw [heardX_o z] at e
      cases e
      refine r_ret (EvN.dd (en_call (ea_1 (EvN.dd (en_call (ea_cons (ev_var rfl) (ea_2 (ev_var rfl) (ev_var rfl))) ⟨_, _, l, aok_in (bl_mono (hr_bl hs) (by decide)) (bl_mono (rg_bl hs) (by decide)) (bl_mono (in_bl (e := 10) q (by decide)) (by decide)) z (by omega) (by omega) (by omega), at_ne z, by omega, by omega, by omega, rfl, rfl⟩))) ⟨_, ?_, rfl, rfl⟩)) (k _ (x_o (st_play_o hs q z)))
      rw [ansM_len]
      omega
theorem click_bl (n : Nat) : bl 200 (clickI n) := fun x hx => by
  have hx := List.mem_of_mem_take hx
  rcases List.mem_cons.mp hx with e | e
  · subst e
    decide
  · rw [(List.mem_replicate.mp e).2]
    exact Nat.two_pow_pos _
theorem sc_click : FnScope ["aid", "n", "upper", "lower"] ["aid", "n"] (defScope s_click) := ⟨rfl, rfl, rfl, by decide +kernel, rfl, by decide +kernel, by decide +kernel⟩
theorem ok_click (T : Txt K mg) (S : SeerB P base) : FnOk P w K mg base (L2.CX P w) 46 T.click.f T.click.fd ["aid", "n"] (SpX K T.CR (preAI T.CA T.CB .click)) := by
  refine T.click.F.okX sc_click (fun vs H Q E h => ?_) (fun cdv A outer s H vs Q E hr h => ⟨_, (pss_cons (ps_expr (pe_own T.want_within (ok_want_within T) hr (pa_cons (pv 1) (pa_cons pe_int (pa_cons (pe_gi T.c_MOST_INPUTS) pa_nil))) (px rfl rfl rfl rfl)))
      (pss_cons (ps_asg (pe_meth0 (pv 0) T.cl_CA T.Aid_heard.m (ok_Aid_heard T S) (hr.mono (by decide)) T.Aid_heard.b .nil (px rfl rfl rfl rfl)) (pg_tupk K (n := 2) (pgs_cons (pg_name (i := 2) sc_click.nd rfl (by first | exact Or.inl rfl | exact Or.inr rfl)) (pgs_cons (pg_name (i := 3) sc_click.nd rfl (by first | exact Or.inl rfl | exact Or.inr rfl)) pgs_nil))))
      (pss_one (ps_ret (pe_own T.fractions_told (ok_fractions_told T) hr (pa_cons (pe_own T.clicked (ok_clicked T S) hr (pa_cons (pv 2) (pa_cons (pv 3) (pa_cons (pv 1) pa_nil))) pass0) pa_nil) pass0))))), ?_⟩)
  · exact spx_len (fun ds d ⟨a, _, _, q, _⟩ => by rw [q] <;> rfl) h
  · obtain ⟨G, ds, r, hG, hR, ⟨s, n, hs, rfl, rfl⟩, k, kE⟩ := h
    have rl := rg_len hs
    have ul := hr_len hs
    refine Run.go (G := G) 2 hG hR rfl ?_
    with_reducible refine r_seq ?_
    refine r_within T (ev_var rfl) ev_int ev_int (fun q => kE _ (x_e (st_click_b q) (by decide))) fun q => ?_
    have qb := (inr_iff _ _ _).mp q
    with_reducible refine r_seq ?_
    refine r_asgX2 (x_heard T hs (ev_var rfl) fun z => kE _ (x_e (st_click_e hs q z) (by decide))) (fun d e => ?_) fun d1 d2 e => ?_
    · by_cases z : rz s
      · rw [heardX_e z] at e
        cases e
      · rw [heardX_o z] at e
        cases e
        exact ⟨_, _, rfl⟩
    by_cases z : rz s
    · rw [heardX_e z] at e
      cases e
    · rw [heardX_o z] at e
      cases e
      have en : ((n.toNat : Nat) : Int) = n := Int.toNat_of_nonneg (by omega)
      refine r_ret (EvN.dd (en_call (ea_1 (EvN.dd (en_call (ea_cons (ev_var rfl) (ea_2 (ev_var rfl) (Evd.cast (ev_var rfl) (congrArg D.int en.symm)))) ⟨_, _, n.toNat, aok_in (bl_mono (hr_bl hs) (by decide)) (bl_mono (rg_bl hs) (by decide)) (click_bl _) z (by omega) (by omega) (by rw [clickI_len]; omega), at_ne z, by omega, by omega, by omega, rfl, rfl⟩))) ⟨_, ?_, rfl, rfl⟩)) (k _ (x_o (st_click_o hs q z)))
      rw [ansM_len]
      omega
def preQa (CA CB : Addr) : List D → D → Prop := fun ds d => ∃ (s : Aid) (n m : Int), AidOk s ∧ 0 ≤ n ∧ n ≤ 1000 ∧ 1 ≤ m ∧ m ≤ 1000 ∧ ds = [aidD CA CB s, .int n, .int m] ∧ d = .bl (qv s n m)
theorem sc_is_quiet_at : FnScope ["aid", "n", "d"] ["aid", "n", "d"] (defScope s_is_quiet_at) := ⟨rfl, rfl, rfl, by decide +kernel, rfl, by decide +kernel, by decide +kernel⟩
theorem ok_is_quiet_at (T : Txt K mg) (S : SeerB P base) : FnOk P w K mg base CX0 45 T.is_quiet_at.f T.is_quiet_at.fd ["aid", "n", "d"] (SpF K (preQa T.CA T.CB)) := by
  refine T.is_quiet_at.F.ok sc_is_quiet_at (fun vs H Q E h => ?_) (fun cdv A outer s H vs Q E hr h => ⟨_, (pss_one (ps_ret (pe_own T.is_quiet (ok_is_quiet T S) hr (pa_cons (pe_meth (pv 0) T.cl_CA T.Aid_ring_at.m (ok_Aid_ring_at T S) (hr.mono (by decide)) T.Aid_ring_at.b .nil pass0 (pa_cons (pe_own T.fraction (ok_fraction T S) hr (pa_cons (pv 1) (pa_cons (pv 2) pa_nil)) pass0) pa_nil)) pa_nil) pass0))), ?_⟩)
  · exact spf_len (fun ds d ⟨a, _, _, _, _, _, _, _, q, _⟩ => by rw [q] <;> rfl) h
  · obtain ⟨G, ds, d, hG, hR, ⟨s, n, m, hs, n0, n1, m0, m1, rfl, rfl⟩, k⟩ := h
    have vo := vol_ok n0 n1 m0 m1
    have rl := (ring_ok hs vo).2.1
    refine Run.go (G := G) 0 hG hR rfl ?_
    exact r_ret (ev_call (ea_1 (ev_meth (ev_var rfl) no_rat (ea_1 (ev_call (ea_2 (ev_var rfl) (ev_var rfl)) ⟨n, m, by omega, rfl, rfl⟩)) ⟨s, _, hs, vo, rfl, rfl⟩)) ⟨_, (ring_ok hs vo).1, by omega, rgv_bd hs vo, rfl, rfl⟩) k
theorem sc_volume : FnScope ["aid", "d", "m", "v"] ["aid", "d", "m"] (defScope s_volume) := ⟨rfl, rfl, rfl, by decide +kernel, rfl, by decide +kernel, by decide +kernel⟩
theorem ok_volume (T : Txt K mg) (S : SeerB P base) : FnOk P w K mg base (L2.CX P w) 46 T.volume.f T.volume.fd ["aid", "d", "m"] (SpX K T.CR (preAII T.CA T.CB .volume)) := by
  refine T.volume.F.okX sc_volume (fun vs H Q E h => ?_) (fun cdv A outer s H vs Q E hr h => ⟨_, (pss_cons (ps_expr (pe_own T.want_within (ok_want_within T) hr (pa_cons (pv 1) (pa_cons pe_int (pa_cons (pe_gi T.c_MOST_PARTS) pa_nil))) (px rfl rfl rfl rfl)))
      (pss_cons (ps_expr (pe_own T.want_within (ok_want_within T) hr (pa_cons (pv 2) (pa_cons pe_int (pa_cons (pe_gi T.c_MOST_VOLUME) pa_nil))) (px rfl rfl rfl rfl)))
      (pss_cons (ps_if (pt_not (pt_val (pe_own T.is_quiet_at (ok_is_quiet_at T S) hr (pa_cons (pv 0) (pa_cons pe_int (pa_cons (pv 1) pa_nil))) pass0))) (pss_one (ps_ret (pe_lst (pa_cons pe_int pa_nil)))) pss_nil)
      (pss_cons (ps_set (i := 3) sc_volume.nd rfl (by first | exact Or.inl rfl | exact Or.inr rfl) pe_int)
      (pss_cons (PS.inox (ps_while PassesOwn.never (PW.pt (pw_and (pt_cmpR op_lt (pv 3) (pv 2) (nomark _)) (pw_and1 (pt_val (pe_own T.is_quiet_at (ok_is_quiet_at T S) hr (pa_cons (pv 0) (pa_cons (pe_op op_add (pv 3) pe_int) (pa_cons (pv 1) pa_nil))) pass0))))) (pss_one (ps_set (i := 3) sc_volume.nd rfl (by first | exact Or.inl rfl | exact Or.inr rfl) (pe_op op_add (pv 3) pe_int)))))
      (pss_one (ps_ret (pe_lst (pa_cons pe_int (pa_cons (pv 3) pa_nil)))))))))), ?_⟩)
  · exact spx_len (fun ds d ⟨a, _, _, _, q, _⟩ => by rw [q] <;> rfl) h
  · obtain ⟨G, ds, r, hG, hR, ⟨s, d, m, hs, rfl, rfl⟩, k, kE⟩ := h
    refine Run.go (G := G) 1 hG hR rfl ?_
    with_reducible refine r_seq ?_
    refine r_within T (ev_var rfl) ev_int ev_int (fun q => kE _ (x_e (st_vol_b (by unfold volB; rw [q]; rfl)) (by decide))) fun q1 => ?_
    with_reducible refine r_seq ?_
    refine r_within T (ev_var rfl) ev_int ev_int (fun q => kE _ (x_e (st_vol_b (by unfold volB; rw [q1, q]; rfl)) (by decide))) fun q2 => ?_
    have qq : volB d m = true := by
      unfold volB
      rw [q1, q2]
      rfl
    have b1 := (inr_iff _ _ _).mp q1
    have b2 := (inr_iff _ _ _).mp q2
    with_reducible refine r_seq ?_
    refine r_if (et_not (et_test (ev_call (ea_cons (ev_var rfl) (ea_2 ev_int (ev_var rfl))) ⟨s, 0, d, hs, by omega, by omega, by omega, by omega, rfl, rfl⟩))) (fun hb => ?_) fun hb => ?_
    · have hb : qv s 0 d = false := by simpa using hb
      exact r_ret (EvN.dd (EvN.cast (en_lst (ea_1 ev_int) (show (1 : Nat) ≤ sizeLine by decide)) (m := [0].map D.int) rfl)) (k _ (x_o (st_vol_m qq (great_none hs b1.1 m.toNat hb))))
    · have hb : qv s 0 d = true := by simpa using hb
      refine r_next ?_
      with_reducible refine r_seq ?_
      refine r_asg ev_int ?_
      with_reducible refine r_seq ?_
      refine r_while (S := Nat) (fun v => [.fz (aidD T.CA T.CB s), .fz (.int d), .fz (.int m), .fz (.int (v : Int))]) (fun v => m.toNat - v) 0 (fun v => v ≤ m.toNat ∧ qv s (v : Int) d = true ∧ Vbhlae.greatest s d.toNat (m.toNat - v) v = Vbhlae.volume s d.toNat m.toNat) ⟨by omega, hb, rfl⟩ ?_ ?_
      · exact ⟨.inr rfl, .inr rfl, .inr rfl, .inr rfl, trivial⟩
      · intro v ⟨vm, vq, vg⟩
        refine ⟨decide ((v : Int) < m) && qv s ((v : Int) + 1) d, et_and (et_b (ev_lt (ev_var rfl) (ev_var rfl))) fun hlt => et_test (ev_call (ea_cons (ev_var rfl) (ea_2 (ev_add (ev_var rfl) ev_int) (ev_var rfl))) ⟨s, (v : Int) + 1, d, hs, by omega, by have := of_decide_eq_true hlt; omega, by omega, by omega, rfl, rfl⟩), fun hb => ?_, fun hb => ?_⟩
        · rw [Bool.and_eq_true, decide_eq_true_eq] at hb
          have e : m.toNat - v = (m.toNat - (v + 1)) + 1 := by omega
          rw [e, great_more hs b1.1 vq hb.2] at vg
          refine ⟨v + 1, ⟨by omega, by push_cast; exact hb.2, vg⟩, by omega, ?_⟩
          exact r_asg (Evd.cast (ev_add (ev_var rfl) ev_int) (congrArg D.int (by push_cast; rfl : (v : Int) + 1 = ((v + 1 : Nat) : Int)))) (r_at ⟨.inr rfl, .inr rfl, .inr rfl, .inr rfl, trivial⟩)
        · have vv : Vbhlae.volume s d.toNat m.toNat = some v := by
            rw [← vg]
            by_cases c : (v : Int) < m
            · rw [decide_eq_true c, Bool.true_and] at hb
              have e : m.toNat - v = (m.toNat - (v + 1)) + 1 := by omega
              rw [e]
              exact great_stop hs b1.1 vq hb
            · have e : m.toNat - v = 0 := by omega
              rw [e]
              exact great_end hs b1.1 vq
          exact r_ret (EvN.dd (EvN.cast (en_lst (ea_2 ev_int (ev_var rfl)) (show (2 : Nat) ≤ sizeLine by decide)) (m := [1, (v : Int)].map D.int) rfl)) (k _ (x_o (st_vol_m qq vv)))
theorem sc_quiet_at : FnScope ["aid", "n", "d"] ["aid", "n", "d"] (defScope s_quiet_at) := ⟨rfl, rfl, rfl, by decide +kernel, rfl, by decide +kernel, by decide +kernel⟩
theorem ok_quiet_at (T : Txt K mg) (S : SeerB P base) : FnOk P w K mg base (L2.CX P w) 46 T.quiet_at.f T.quiet_at.fd ["aid", "n", "d"] (SpX K T.CR (preAII T.CA T.CB .quietAt)) := by
  refine T.quiet_at.F.okX sc_quiet_at (fun vs H Q E h => ?_) (fun cdv A outer s H vs Q E hr h => ⟨_, (pss_cons (ps_expr (pe_own T.want_within (ok_want_within T) hr (pa_cons (pv 1) (pa_cons pe_int (pa_cons (pe_gi T.c_FAR) pa_nil))) (px rfl rfl rfl rfl)))
      (pss_cons (ps_expr (pe_own T.want_within (ok_want_within T) hr (pa_cons (pv 2) (pa_cons pe_int (pa_cons (pe_gi T.c_FAR) pa_nil))) (px rfl rfl rfl rfl)))
      (pss_one (ps_ret (pe_lst (pa_cons (pe_callTy call_int1 rfl T.b_int (by decide +kernel) (pa_cons (pe_own T.is_quiet_at (ok_is_quiet_at T S) hr (pa_cons (pv 0) (pa_cons (pv 1) (pa_cons (pv 2) pa_nil))) pass0) pa_nil)) pa_nil)))))), ?_⟩)
  · exact spx_len (fun ds d ⟨a, _, _, _, q, _⟩ => by rw [q] <;> rfl) h
  · obtain ⟨G, ds, r, hG, hR, ⟨s, n, d, hs, rfl, rfl⟩, k, kE⟩ := h
    refine Run.go (G := G) 0 hG hR rfl ?_
    with_reducible refine r_seq ?_
    refine r_within T (ev_var rfl) ev_int ev_int (fun q => kE _ (x_e (st_qa_b (by rw [q]; rfl)) (by decide))) fun q1 => ?_
    with_reducible refine r_seq ?_
    refine r_within T (ev_var rfl) ev_int ev_int (fun q => kE _ (x_e (st_qa_b (by rw [q1, q]; rfl)) (by decide))) fun q2 => ?_
    have b1 := (inr_iff _ _ _).mp q1
    have b2 := (inr_iff _ _ _).mp q2
    exact r_ret (EvN.dd (EvN.cast (en_lst (ea_1 (ev_intb (ev_call (ea_cons (ev_var rfl) (ea_2 (ev_var rfl) (ev_var rfl))) ⟨s, n, d, hs, b1.1, b1.2, b2.1, b2.2, rfl, rfl⟩))) (show (1 : Nat) ≤ sizeLine by decide)) (m := [bit (qv s n d)].map D.int) rfl)) (k _ (x_o (st_qa_o hs (by rw [q1, q2]; rfl))))
theorem sc_freed : FnScope ["aid", "n", "told", "row", "upper", "following"] ["aid", "n", "told"] (defScope s_freed) := ⟨rfl, rfl, rfl, by decide +kernel, rfl, by decide +kernel, by decide +kernel⟩
theorem ok_freed (T : Txt K mg) (S : SeerB P base) : FnOk P w K mg base (L2.CX P w) 45 T.freed.f T.freed.fd ["aid", "n", "told"] (SpX K T.CR fun ds r => ∃ (s : Aid) (n : Int) (l : List Int), AidOk s ∧ l.length ≤ 220 ∧ ds = [aidD T.CA T.CB s, .int n, rowD l] ∧ r = toX (step s (.freed n l)).2) := by
  refine T.freed.F.okX sc_freed (fun vs H Q E h => ?_) (fun cdv A outer s H vs Q E hr h => ⟨_, (pss_cons (ps_expr (pe_own T.want_within (ok_want_within T) hr (pa_cons (pv 1) (pa_cons pe_int (pa_cons (pe_gi T.c_MOST_INPUTS) pa_nil))) (px rfl rfl rfl rfl)))
      (pss_cons (ps_expr (pe_own T.want_row (ok_want_row T) hr (pa_cons (pv 2) (pa_cons pe_int (pa_cons (pe_gi T.c_MOST_TOLD) (pa_cons (pe_gi T.c_FAR) pa_nil)))) (px rfl rfl rfl rfl)))
      (pss_cons (ps_set (i := 3) sc_freed.nd rfl (by first | exact Or.inl rfl | exact Or.inr rfl) (pe_own T.plain (ok_plain T S) hr (pa_cons (pe_meth0 (pv 0) T.cl_CA T.Aid_ring.m (ok_Aid_ring T S) (hr.mono (by decide)) T.Aid_ring.b .nil (px rfl rfl rfl rfl)) pa_nil) pass0))
      (pss_cons (ps_expr (pe_own T.want (ok_want T) hr (pa_cons (pe_cmpR op_eq (pe_callB (call_lenk K) rfl T.b_len PySem.boot_len (pa_cons (pv 2) pa_nil)) (pe_op op_sub (pe_callB (call_lenk K) rfl T.b_len PySem.boot_len (pa_cons (pv 3) pa_nil)) pe_int) (nomark _)) (pa_cons (pe_gi T.c_MISFIT) pa_nil)) (px rfl rfl rfl rfl)))
      (pss_cons (ps_set (i := 4) sc_freed.nd rfl (by first | exact Or.inl rfl | exact Or.inr rfl) (pe_own T.let_go (ok_let_go T) hr (pa_cons (pv 3) (pa_cons (pv 2) pa_nil)) pass0))
      (pss_cons (ps_set (i := 5) sc_freed.nd rfl (by first | exact Or.inl rfl | exact Or.inr rfl) (pe_own T.fractions_told (ok_fractions_told T) hr (pa_cons (pe_own T.clicked (ok_clicked T S) hr (pa_cons (pv 4) (pa_cons (pv 3) (pa_cons (pv 1) pa_nil))) pass0) pa_nil) pass0))
      (pss_cons (ps_if (pt_not (pt_val (pe_own T.is_quiet (ok_is_quiet T S) hr (pa_cons (pv 3) pa_nil) pass0))) (pss_one (ps_ret (pe_op op_cat (pe_lst (pa_cons pe_int pa_nil)) (pv 5)))) pss_nil)
      (pss_one (ps_ret (pe_op op_cat (pe_op op_cat (pe_lst (pa_cons pe_int pa_nil)) (pe_callTy (call_listk K) rfl T.b_list (by decide +kernel) (pa_cons (pe_own T.loudness (ok_loudness T S) hr (pa_cons (pv 4) (pa_cons (pv 3) pa_nil)) pass0) pa_nil))) (pv 5))))))))))), ?_⟩)
  · exact spx_len (fun ds d ⟨a, _, _, _, _, q, _⟩ => by rw [q] <;> rfl) h
  · obtain ⟨G, ds, r, hG, hR, ⟨s, n, l, hs, hl, rfl, rfl⟩, k, kE⟩ := h
    have rl := rg_len hs
    refine Run.go (G := G) 3 hG hR rfl ?_
    with_reducible refine r_seq ?_
    refine r_within T (ev_var rfl) ev_int ev_int (fun q => kE _ (x_e (st_freed_b (by unfold freedOk; rw [q]; rfl)) (by decide))) fun q1 => ?_
    with_reducible refine r_seq ?_
    refine r_wrow T (by omega) (ev_var rfl) ev_int ev_int ev_int (fun q => kE _ (x_e (st_freed_b (by unfold freedOk; rw [q1, q]; rfl)) (by decide))) fun q2 => ?_
    have qq : freedOk n l = true := by
      unfold freedOk
      rw [q1, q2]
      rfl
    have b1 := (inr_iff _ _ _).mp q1
    have ql := (rowOk_len q2).2
    have lb : bl 10 l := in_bl q2 (by decide)
    with_reducible refine r_seq ?_
    by_cases z : rz s
    · exact r_dead_asg (dead_call ((x_ring T hs (ev_var rfl) fun _ => kE _ (x_e (st_freed_e hs qq z) (by decide))).dead (ringX_e z)))
    · refine r_asg (ev_call (ea_1 ((x_ring T hs (ev_var rfl) fun h => absurd h z).ok (ringX_o z))) ⟨_, rg_tr z, by omega, rg_sm hs, rfl, rfl⟩) ?_
      have pl := plain_len (ringM s 1)
      have tl := trim_len_le (ringM s 1)
      have pn := plain_nil z
      have pp := List.length_pos_iff.mpr pn
      have p0 : at_ (Vbhlae.plain (ringM s 1)) 0 ≠ 0 := by
        have := plain_pos (r := ringM s 1) z
        omega
      have pb : bl 120 (Vbhlae.plain (ringM s 1)) := plain_bl (rg_bl hs)
      with_reducible refine r_seq ?_
      refine r_want T (ev_eq (ev_len (ev_var rfl)) (ev_sub (ev_len (ev_var rfl)) ev_int)) ev_int (fun q => ?_) fun q => ?_
      · rw [List.length_map, List.length_map] at q
        have := of_decide_eq_false q
        exact kE _ (x_e (st_freed_f hs qq z (by omega)) (by decide))
      rw [List.length_map, List.length_map] at q
      have m : l.length + 1 = (Vbhlae.plain (ringM s 1)).length := by
        have := of_decide_eq_true q
        omega
      have gl := goU_len (Vbhlae.plain (ringM s 1)) l pn
      have gb : bl 200 (goU (Vbhlae.plain (ringM s 1)) l) := fun x hx => by
        rcases List.mem_append.mp hx with c | c
        · rw [upperOf_eq] at c
          obtain ⟨t, ht, rfl⟩ := List.mem_map.mp c
          have ht := List.mem_range.mp ht
          have := sum_bit (n := 130) (f := fun j => at_ (Vbhlae.plain (ringM s 1)) (t + j + 1) * at_ l j) ((Vbhlae.plain (ringM s 1)).length - 1 - t) fun i _ => mul_bit (bl_at pb _) (bl_at lb _)
          have e : (goM (Vbhlae.plain (ringM s 1)) l t).natAbs = ((List.range ((Vbhlae.plain (ringM s 1)).length - 1 - t)).map fun j => at_ (Vbhlae.plain (ringM s 1)) (t + j + 1) * at_ l j).sum.natAbs := Int.natAbs_neg _
          rw [e]
          exact Nat.lt_of_lt_of_le this (Nat.pow_le_pow_right (by decide) (by omega))
        · rcases List.mem_cons.mp c with e | e
          · subst e
            exact Nat.two_pow_pos _
          · cases e
      with_reducible refine r_seq ?_
      refine r_asg (ev_call (ea_2 (ev_var rfl) (ev_var rfl)) ⟨_, l, pn, by omega, by omega, bl_sm pb (by decide), bl_sm lb (by decide), rfl, rfl⟩) ?_
      have en : ((n.toNat : Nat) : Int) = n := Int.toNat_of_nonneg (by omega)
      have fl : (freedA s n l).length ≤ 32 := by
        unfold freedA
        rw [fracs_len, ansM_len]
        omega
      with_reducible refine r_seq ?_
      refine r_asg (d := rowD (freedA s n l)) (EvN.dd (en_call (ea_1 (EvN.dd (en_call (ea_cons (ev_var rfl) (ea_2 (ev_var rfl) (Evd.cast (ev_var rfl) (congrArg D.int en.symm)))) ⟨_, _, n.toNat, aok_in gb (bl_mono pb (by decide)) (click_bl _) p0 (by omega) (by omega) (by rw [clickI_len]; omega), pn, by omega, by omega, by omega, rfl, rfl⟩))) ⟨_, ?_, rfl, rfl⟩)) ?_
      · rw [ansM_len]
        omega
      have qd := bd_of pb (by decide) (by omega)
      with_reducible refine r_seq ?_
      refine r_if (et_not (et_test (ev_call (ea_1 (ev_var rfl)) ⟨_, pn, by omega, qd, rfl, rfl⟩))) (fun hb => ?_) fun hb => ?_
      · have hb : Vbhlae.quiet (Vbhlae.plain (ringM s 1)) = false := by simpa using hb
        refine r_ret (EvN.dd (EvN.cast (en_cat (en_lst (ea_1 ev_int) (show (1 : Nat) ≤ sizeLine by decide)).dd (ev_var rfl) ?_) (m := (0 :: freedA s n l).map D.int) rfl)) (k _ (x_o (st_freed_n hs qq z m hb)))
        rw [List.length_map]
        exact sl_of (by show 1 + _ ≤ _; omega)
      · have hb : Vbhlae.quiet (Vbhlae.plain (ringM s 1)) = true := by simpa using hb
        refine r_next ?_
        obtain ⟨u, hu⟩ : ∃ u, max (goU (Vbhlae.plain (ringM s 1)) l).length (Vbhlae.plain (ringM s 1)).length = u + 1 := ⟨max (goU (Vbhlae.plain (ringM s 1)) l).length (Vbhlae.plain (ringM s 1)).length - 1, by omega⟩
        refine r_ret (EvN.dd (EvN.cast (en_cat (en_cat (en_lst (ea_1 ev_int) (show (1 : Nat) ≤ sizeLine by decide)).dd (en_listT (ev_call (ea_2 (ev_var rfl) (ev_var rfl)) ⟨_, _, u, hu, by omega, pn, lok_quiet hb hu (by omega) (bl_mono pb (by decide)) gb (by decide), rfl, rfl⟩)).dd ?_).dd (ev_var rfl) ?_) (m := (1 :: (freedL s l).num :: ((freedL s l).den : Int) :: freedA s n l).map D.int) rfl)) (k _ (x_o (st_freed_q hs qq z m hb)))
        · show (1 : Nat) + 2 ≤ sizeLine
          decide
        · rw [List.length_map]
          exact sl_of (by show 3 + _ ≤ _; omega)
end
end Qa

set_option Elab.async false
set_option linter.all false
set_option maxRecDepth 100000
set_option maxHeartbeats 4000000
namespace Qa
open PySem PySem.Spec PyProof.Rows L2
open Vbhlae (at_ trim common chain smaller Band Aid present Q bit listRow qRow step Call inr)
section
variable {P : Program} {w : World} {K : PySem.W.Frag} {mg : Str → Option Value} {base : Heap}
theorem ob_item {CB : Addr} {bs : List (Option Band)} {i : Nat} {es : List D} (h : ((bs.map (obD CB)).map fun d => [d])[i]? = some es) : ∃ hi : i < bs.length, es = [obD CB bs[i]] := by
  have hi : i < bs.length := by
    have := (List.getElem?_eq_some_iff.mp h).1
    rwa [List.length_map, List.length_map] at this
  rw [List.getElem?_map, List.getElem?_map, List.getElem?_eq_getElem hi] at h
  exact ⟨hi, (Option.some.inj h).symm⟩
def aloneV : Option Band → Int
  | none => -1
  | some x => bit (Vbhlae.quiet x.low)
theorem hund_bd {r : List Int} (h : ∀ x ∈ r, x.natAbs ≤ 100) (hl : r.length ≤ 12) : Bd BB r := bd_of (hund h) (by decide) hl
def preAlone (CA CB : Addr) : List D → D → Prop := fun ds d => ∃ s : Aid, AidOk s ∧ ds = [aidD CA CB s] ∧ d = rowD (bit (Vbhlae.quiet s.leakLow) :: s.bands.map aloneV)
theorem sc_alone : FnScope ["aid", "found", "band"] ["aid"] (defScope s_alone) := ⟨rfl, rfl, rfl, by decide +kernel, rfl, by decide +kernel, by decide +kernel⟩
theorem ok_alone (T : Txt K mg) (S : SeerB P base) : FnOk P w K mg base CX0 45 T.alone.f T.alone.fd ["aid"] (SpF K (preAlone T.CA T.CB)) := by
  refine T.alone.F.ok sc_alone (fun vs H Q E h => ?_) (fun cdv A outer s H vs Q E hr h => ⟨_, (pss_cons (ps_set (i := 1) sc_alone.nd rfl (by first | exact Or.inl rfl | exact Or.inr rfl) (pe_lst (pa_cons (pe_callTy call_int1 rfl T.b_int (by decide +kernel) (pa_cons (pe_own T.is_quiet (ok_is_quiet T S) hr (pa_cons (pe_fldk K (pv 0)) pa_nil) pass0) pa_nil)) pa_nil)))
      (pss_cons (ps_for PassesOwn.never rfl (pi_listk K (pe_fldk K (pv 0))) (pg_name (i := 2) sc_alone.nd rfl (by first | exact Or.inl rfl | exact Or.inr rfl)) (pss_one (ps_expr (pe_bm PySem.F.plainAttrs_list PySem.F.slot_list_append PySem.F.type_list_append mt_append (pv 1) (pa_cons (pe_ifExp (pt_cmp (pc_isN (pv 2)) rfl) (pe_un un_neg pe_int) (pe_callTy call_int1 rfl T.b_int (by decide +kernel) (pa_cons (pe_own T.is_quiet (ok_is_quiet T S) hr (pa_cons (pe_fldk K (pv 2)) pa_nil) pass0) pa_nil))) pa_nil)))))
      (pss_one (ps_ret (pv 1))))), ?_⟩)
  · exact spf_len (fun ds d ⟨a, _, q, _⟩ => by rw [q] <;> rfl) h
  · obtain ⟨G, ds, d, hG, hR, ⟨s, hs, rfl, rfl⟩, k⟩ := h
    have l3 := hs.low3
    have b3 := hs.three
    refine Run.go 2 hG hR rfl ?_
    with_reducible refine r_seq ?_
    refine r_asgN (en_lst (ea_1 (ev_intb (ev_call (ea_1 (ev_ll T (ev_var rfl))) ⟨_, at_ne hs.low0, by omega, hund_bd hs.lowN (by omega), rfl, rfl⟩))) (show (1 : Nat) ≤ sizeLine by decide)) ?_
    with_reducible refine r_seq ?_
    refine r_for (ei_list (ev_bs T (ev_var rfl))) (fun i => [.fz (aidD T.CA T.CB s), .ow ((bit (Vbhlae.quiet s.leakLow) :: (s.bands.take i).map aloneV).map D.int), .no]) ⟨.inr rfl, .inr rfl, .inr rfl, trivial⟩ ?_ ?_
    · intro G1 i ds hi
      obtain ⟨hib, rfl⟩ := ob_item hi
      refine r_app (n := 1) (d := .int (aloneV s.bands[i])) rfl rfl ?_ ?_ (r_at ⟨.inr rfl, .inr ?_, .inl rfl, trivial⟩)
      · cases e : s.bands[i] with
        | none => exact ev_if (et_b (ev_isN (ev_var rfl))) (fun _ => ev_neg ev_int) (fun h => by cases h)
        | some b =>
          have bo := hs.bands b (by rw [← e]; exact List.getElem_mem hib)
          have := bo.low3
          exact ev_if (et_b (ev_isN (ev_var rfl))) (fun h => by cases h) (fun _ => ev_intb (ev_call (ea_1 (ev_bl' T (ev_var rfl))) ⟨_, at_ne bo.low0, by omega, hund_bd bo.lowN (by omega), rfl, rfl⟩))
      · rw [List.length_map, List.length_cons, List.length_map, List.length_take]
        exact Nat.lt_of_lt_of_le (show _ < 1000 by omega) (by decide)
      · rw [List.take_succ_eq_append_getElem hib, List.map_append, List.map_cons, List.map_cons (f := D.int), List.map_append]
        rfl
    · rw [List.length_map, List.length_map, List.take_length]
      exact r_freeze (n := 1) rfl rfl (r_ret (ev_var rfl) k)
theorem sc_row_asked : FnScope ["numbers"] ["numbers"] (defScope s_row_asked) := ⟨rfl, rfl, rfl, by decide +kernel, rfl, by decide +kernel, by decide +kernel⟩
theorem ok_row_asked (T : Txt K mg) (S : SeerB P base) : FnOk P w K mg base (L2.CX P w) 45 T.row_asked.f T.row_asked.fd ["numbers"] (SpX K T.CR fun ds r => ∃ (s : Aid) (l : List Int), l.length ≤ 220 ∧ ds = [rowD l] ∧ r = toX (step s (.row l)).2) := by
  refine T.row_asked.F.okX sc_row_asked (fun vs H Q E h => ?_) (fun cdv A outer s H vs Q E hr h => ⟨_, (pss_cons (ps_expr (pe_own T.want_row (ok_want_row T) hr (pa_cons (pv 0) (pa_cons pe_int (pa_cons (pe_gi T.c_MOST_TOLD) (pa_cons (pe_gi T.c_FAR_IN_ROWS) pa_nil)))) (px rfl rfl rfl rfl)))
      (pss_cons (ps_expr (pe_own T.want (ok_want T) hr (pa_cons (pe_cmpR op_ne (pe_ix (ix_listk K) (pv 0) pe_int (fun _ _ => rfl)) pe_int (nomark _)) (pa_cons (pe_gi T.c_NO_RING) pa_nil)) (px rfl rfl rfl rfl)))
      (pss_one (ps_ret (pe_op op_cat (pe_lst (pa_cons (pe_callTy call_int1 rfl T.b_int (by decide +kernel) (pa_cons (pe_own T.is_quiet (ok_is_quiet T S) hr (pa_cons (pv 0) pa_nil) pass0) pa_nil)) pa_nil)) (pe_own T.rows_told (ok_rows_told T) hr (pa_cons (pe_own T.told_steps (ok_told_steps T S) hr (pa_cons (pv 0) pa_nil) pass0) pa_nil) pass0)))))), ?_⟩)
  · exact spx_len (fun ds d ⟨a, _, _, q, _⟩ => by rw [q] <;> rfl) h
  · obtain ⟨G, ds, r, hG, hR, ⟨s, l, hl, rfl, rfl⟩, k, kE⟩ := h
    refine Run.go (G := G) 0 hG hR rfl ?_
    with_reducible refine r_seq ?_
    refine r_wrow T (by omega) (ev_var rfl) ev_int ev_int ev_int (fun q => kE _ (x_e (st_row_b q) (by decide))) fun q => ?_
    have ql := rowOk_len q
    have lb : bl 20 l := in_bl q (by decide)
    with_reducible refine r_seq ?_
    refine r_want T (ev_ne (ev_ixL (k := 0) (ev_var rfl) ev_int rfl (map_int_at (by omega))) ev_int) ev_int (fun hb => kE _ (x_e (st_row_e q (by simpa using hb)) (by decide))) fun hb => ?_
    have z : at_ l 0 ≠ 0 := by simpa using hb
    have sc := steps_count l
    have bd := bd_of lb (by decide) (by omega)
    have bs : ∀ x ∈ Vbhlae.steps l, x.length ≤ 12 := fun x hx => by
      have := (steps_pos z x hx).2
      omega
    have fl := flat_len (rs := Vbhlae.steps l) fun x hx => by
      have := bs x hx
      omega
    have : (Vbhlae.steps l).length * 10001 ≤ 13 * 10001 := Nat.mul_le_mul_right _ (by omega)
    refine r_ret (EvN.dd (EvN.cast (en_cat (en_lst (ea_1 (ev_intb (ev_call (ea_1 (ev_var rfl)) ⟨_, at_ne z, by omega, bd, rfl, rfl⟩))) (show (1 : Nat) ≤ sizeLine by decide)).dd (en_call (ea_1 (en_call (ea_1 (ev_var rfl)) ⟨_, ⟨z, by omega, bd⟩, rfl, rfl⟩).dd) ⟨Vbhlae.steps l, fun x hx => by have := bs x hx; omega, by omega, rfl, rfl⟩).dd ?_) (m := (bit (Vbhlae.quiet l) :: (Vbhlae.steps l).flatMap listRow).map D.int) rfl)) (k _ (x_o (st_row_o q z)))
    rw [List.length_map]
    exact sl_of (by show 1 + _ ≤ _; omega)
theorem turn_bl {r : List Int} {n : Nat} (h : i < n) (f : Nat → Int) : ((List.range n).map f)[i]? = some (f i) := by
  rw [List.getElem?_map, List.getElem?_range h]
  rfl
theorem sc_ends : FnScope ["aid", "row", "turned", "k", "a"] ["aid"] (defScope s_ends) := ⟨rfl, rfl, rfl, by decide +kernel, rfl, by decide +kernel, by decide +kernel⟩
theorem ok_ends (T : Txt K mg) (S : SeerB P base) : FnOk P w K mg base (L2.CX P w) 45 T.ends.f T.ends.fd ["aid"] (SpX K T.CR (preA T.CA T.CB .ends)) := by
  refine T.ends.F.okX sc_ends (fun vs H Q E h => ?_) (fun cdv A outer s H vs Q E hr h => ⟨_, (pss_cons (ps_set (i := 1) sc_ends.nd rfl (by first | exact Or.inl rfl | exact Or.inr rfl) (pe_own T.plain (ok_plain T S) hr (pa_cons (pe_meth0 (pv 0) T.cl_CA T.Aid_ring.m (ok_Aid_ring T S) (hr.mono (by decide)) T.Aid_ring.b .nil (px rfl rfl rfl rfl)) pa_nil) pass0))
      (pss_cons (ps_setLc (i := 2) (own := [("k", 3), ("a", 4)]) rfl sc_ends.nd rfl rfl (sw_true rfl rfl rfl (by decide +kernel)) (pi_enumk K T.b_enumerate (pa_cons (pv 1) pa_nil)) (blkOk_by (N := ["aid", "row", "turned", "k", "a"]) (sc := defScope (top 78)) (by decide +kernel)) (fun _ _ _ _ _ => by exact (pg_tupk K (n := 2) (pgs_cons (pg_name (i := 3) sc_ends.nd rfl (by first | exact Or.inl rfl | exact Or.inr rfl)) (pgs_cons (pg_name (i := 4) sc_ends.nd rfl (by first | exact Or.inl rfl | exact Or.inr rfl)) pgs_nil)))) (fun _ _ _ _ _ => by exact pts_nil) (fun _ _ _ _ _ => by exact (pe_ifExp (pt_cmpR op_eq (pe_op op_mod (pv 3) pe_int) pe_int (nomark _)) (pv 4) (pe_un un_neg (pv 4)))))
      (pss_one (ps_ret (pe_lst (pa_cons (pe_callB (cr_sumk K rfl) rfl T.b_sum (by decide +kernel) (pa_cons (pv 1) pa_nil)) (pa_cons (pe_callB (cr_sumk K rfl) rfl T.b_sum (by decide +kernel) (pa_cons (pv 2) pa_nil)) pa_nil))))))), ?_⟩)
  · exact spx_len (fun ds d ⟨a, _, q, _⟩ => by rw [q] <;> rfl) h
  · obtain ⟨G, ds, r, hG, hR, ⟨s, hs, rfl, rfl⟩, k, kE⟩ := h
    have rl := rg_len hs
    refine Run.go (G := G) 4 hG hR rfl ?_
    with_reducible refine r_seq ?_
    by_cases z : rz s
    · exact r_dead_asg (dead_call ((x_ring T hs (ev_var rfl) fun _ => kE _ (x_e (st_ends_e hs z) (by decide))).dead (ringX_e z)))
    · refine r_asg (ev_call (ea_1 ((x_ring T hs (ev_var rfl) fun h => absurd h z).ok (ringX_o z))) ⟨_, rg_tr z, by omega, rg_sm hs, rfl, rfl⟩) ?_
      have pl := plain_len (ringM s 1)
      have tl := trim_len_le (ringM s 1)
      with_reducible refine r_seq ?_
      refine r_asg (d := rowD (turnR (Vbhlae.plain (ringM s 1)))) (EvN.dd (en_lcAll (ei_enum (ea_1 (ev_var rfl))) (fun j hj => hj) ?_ _ ?_ ?_)) ?_
      · rw [numD_len, List.length_map]
        exact sl_of (by omega)
      · rw [numD_len, List.length_map, List.length_map]
        unfold turnR
        rw [List.length_map, List.length_range]
      · intro G1 i ds d hi hd
        obtain ⟨hir, rfl⟩ := numD_ints hi
        unfold turnR at hd
        rw [List.getElem?_map, List.getElem?_map, List.getElem?_range hir] at hd
        have hd : some (D.int (if i % 2 = 1 then -(at_ (Vbhlae.plain (ringM s 1)) i) else at_ (Vbhlae.plain (ringM s 1)) i)) = some d := hd
        cases hd
        have e2 : ((i : Int) % 2 = 0) ↔ ¬ i % 2 = 1 := by omega
        refine ev_if (et_b (ev_eq (ev_mod (ev_var rfl) ev_int (show (0 : Int) < 2 by decide)) ev_int)) (fun hb => ?_) fun hb => ?_
        · rw [if_neg (e2.mp (of_decide_eq_true hb))]
          exact ev_var rfl
        · rw [if_pos (by have := of_decide_eq_false hb; omega)]
          exact ev_neg (ev_var rfl)
      exact r_ret (EvN.dd (EvN.cast (en_lst (ea_2 (ev_sum (ev_var rfl)) (ev_sum (ev_var rfl))) (show (2 : Nat) ≤ sizeLine by decide)) (m := [(Vbhlae.plain (ringM s 1)).sum, (turnR (Vbhlae.plain (ringM s 1))).sum].map D.int) rfl)) (k _ (x_o (st_ends_o hs z)))
def preBt (CB : Addr) : List D → List D → Prop := fun ds l => ∃ o : Option Band, (∀ b, o = some b → BandOk b) ∧ ds = [obD CB o] ∧ l = (bandT o).map D.int
theorem sc_band_told : FnScope ["band"] ["band"] (defScope s_band_told) := ⟨rfl, rfl, rfl, by decide +kernel, rfl, by decide +kernel, by decide +kernel⟩
theorem ok_band_told (T : Txt K mg) : FnOk P w K mg base CX0 3 T.band_told.f T.band_told.fd ["band"] (SpN K (preBt T.CB)) := by
  refine T.band_told.F.ok sc_band_told (fun vs H Q E h => ?_) (fun cdv A outer s H vs Q E hr h => ⟨_, (pss_cons (ps_if (pt_cmp (pc_isN (pv 0)) rfl) (pss_one (ps_ret (pe_lst (pa_cons pe_int pa_nil)))) pss_nil)
      (pss_one (ps_ret (pe_op op_cat (pe_op op_cat (pe_lst (pa_cons pe_int pa_nil)) (pe_callTy (call_listk K) rfl T.b_list (by decide +kernel) (pa_cons (pe_fldk K (pv 0)) pa_nil))) (pe_own T.rows_told (ok_rows_told T) hr (pa_cons (pe_lst (pa_cons (pe_fldk K (pv 0)) (pa_cons (pe_fldk K (pv 0)) pa_nil))) pa_nil) pass0))))), ?_⟩)
  · exact spn_len (fun ds d ⟨a, _, q, _⟩ => by rw [q] <;> rfl) h
  · obtain ⟨G, ds, l, hG, hR, ⟨o, ho, rfl, rfl⟩, k⟩ := h
    refine Run.go 0 hG hR rfl ?_
    with_reducible refine r_seq ?_
    cases o with
    | none => exact r_if (et_b (ev_isN (ev_var rfl))) (fun _ => r_retN (EvN.cast (en_lst (ea_1 ev_int) (show (1 : Nat) ≤ sizeLine by decide)) rfl) k) fun h => by cases h
    | some b =>
      have bo := ho b rfl
      have ul := bo.up4
      have ll := bo.low3
      refine r_if (et_b (ev_isN (ev_var rfl))) (fun h => by cases h) fun _ => r_next ?_
      refine r_retN (EvN.cast (en_cat (en_cat (en_lst (ea_1 ev_int) (show (1 : Nat) ≤ sizeLine by decide)).dd (en_listT (ev_bg T (ev_var rfl))).dd (show (1 : Nat) + 2 ≤ sizeLine by decide)).dd (en_call (ea_1 (EvN.dd (en_lst (ea_2 (ev_bu T (ev_var rfl)) (ev_bl' T (ev_var rfl))) (show (2 : Nat) ≤ sizeLine by decide)))) ⟨[b.up, b.low], fun r hq => ?_, (show (2 : Nat) ≤ 90 by omega), rfl, rfl⟩).dd ?_) ?_) k
      rotate_left 2
      · rcases List.mem_cons.mp hq with e | e
        · subst e
          omega
        · rcases List.mem_cons.mp e with e | e
          · subst e
            omega
          · cases e
      · rw [List.length_map]
        refine sl_of ?_
        show 3 + ((b.up.length :: b.up : List Int) ++ ((b.low.length :: b.low : List Int) ++ [])).length ≤ _
        simp only [List.length_append, List.length_cons, List.length_nil]
        omega
      · show _ = ((1 : Int) :: ([b.gain.num, (b.gain.den : Int)] ++ (listRow b.up ++ listRow b.low))).map D.int
        have e : [b.up, b.low].flatMap listRow = listRow b.up ++ listRow b.low := by simp
        rw [e]
        rfl
theorem bandT_len {o : Option Band} (h : ∀ b, o = some b → BandOk b) : (bandT o).length ≤ 20 := by
  cases o with
  | none => decide
  | some b =>
    have bo := h b rfl
    have ul := bo.up4
    have ll := bo.low3
    show ((1 : Int) :: ([b.gain.num, (b.gain.den : Int)] ++ ((b.up.length :: b.up : List Int) ++ (b.low.length :: b.low : List Int)))).length ≤ 20
    simp only [List.length_append, List.length_cons, List.length_nil]
    omega
theorem flatT_len : ∀ {l : List (Option Band)}, (∀ b, some b ∈ l → BandOk b) → (l.flatMap bandT).length ≤ l.length * 20
  | [], _ => Nat.zero_le _
  | o :: l, h => by
    rw [List.flatMap_cons, List.length_append, List.length_cons, Nat.succ_mul]
    have h1 := flatT_len (l := l) fun b hb => h b (List.mem_cons_of_mem _ hb)
    have h2 := bandT_len (o := o) fun b e => h b (by rw [e]; exact List.mem_cons_self)
    omega
def preTw (CA CB : Addr) : List D → List D → Prop := fun ds l => ∃ s : Aid, AidOk s ∧ ds = [aidD CA CB s] ∧ l = (listRow s.leakUp ++ (listRow s.leakLow ++ s.bands.flatMap bandT)).map D.int
theorem sc_told_whole : FnScope ["aid", "found", "band"] ["aid"] (defScope s_told_whole) := ⟨rfl, rfl, rfl, by decide +kernel, rfl, by decide +kernel, by decide +kernel⟩
theorem ok_told_whole (T : Txt K mg) : FnOk P w K mg base CX0 4 T.told_whole.f T.told_whole.fd ["aid"] (SpN K (preTw T.CA T.CB)) := by
  refine T.told_whole.F.ok sc_told_whole (fun vs H Q E h => ?_) (fun cdv A outer s H vs Q E hr h => ⟨_, (pss_cons (ps_set (i := 1) sc_told_whole.nd rfl (by first | exact Or.inl rfl | exact Or.inr rfl) (pe_own T.rows_told (ok_rows_told T) hr (pa_cons (pe_lst (pa_cons (pe_fldk K (pv 0)) (pa_cons (pe_fldk K (pv 0)) pa_nil))) pa_nil) pass0))
      (pss_cons (ps_for PassesOwn.never rfl (pi_listk K (pe_fldk K (pv 0))) (pg_name (i := 2) sc_told_whole.nd rfl (by first | exact Or.inl rfl | exact Or.inr rfl)) (pss_one (ps_expr (pe_bm PySem.F.plainAttrs_list PySem.F.slot_list_extend PySem.F.type_list_extend mt_extend (pv 1) (pa_cons (pe_own T.band_told (ok_band_told T) hr (pa_cons (pv 2) pa_nil) pass0) pa_nil)))))
      (pss_one (ps_ret (pv 1))))), ?_⟩)
  · exact spn_len (fun ds d ⟨a, _, q, _⟩ => by rw [q] <;> rfl) h
  · obtain ⟨G, ds, l, hG, hR, ⟨s, hs, rfl, rfl⟩, k⟩ := h
    have ul := hs.up4
    have ll := hs.low3
    have b3 := hs.three
    refine Run.go 2 hG hR rfl ?_
    with_reducible refine r_seq ?_
    have e : [s.leakUp, s.leakLow].flatMap listRow = listRow s.leakUp ++ listRow s.leakLow := by simp
    refine r_asgN (EvN.cast (en_call (ea_1 (EvN.dd (en_lst (ea_2 (ev_lu T (ev_var rfl)) (ev_ll T (ev_var rfl))) (show (2 : Nat) ≤ sizeLine by decide)))) ⟨[s.leakUp, s.leakLow], fun r hr => ?_, (show (2 : Nat) ≤ 90 by omega), rfl, rfl⟩) (congrArg (List.map D.int) e)) ?_
    · rcases List.mem_cons.mp hr with e | e
      · subst e
        omega
      · rcases List.mem_cons.mp e with e | e
        · subst e
          omega
        · cases e
    with_reducible refine r_seq ?_
    refine r_for (ei_list (ev_bs T (ev_var rfl))) (fun i => [.fz (aidD T.CA T.CB s), .ow (((listRow s.leakUp ++ listRow s.leakLow) ++ (s.bands.take i).flatMap bandT).map D.int), .no]) ⟨.inr rfl, .inr ?_, .inr rfl, trivial⟩ ?_ ?_
    · rw [List.take_zero, List.flatMap_nil, List.append_nil]
    · intro G1 i ds hi
      obtain ⟨hib, rfl⟩ := ob_item hi
      have bo : ∀ b, s.bands[i] = some b → BandOk b := fun b e => hs.bands b (by rw [← e]; exact List.getElem_mem hib)
      have t1 := bandT_len bo
      have t2 := flatT_len (l := s.bands.take i) fun b hb => hs.bands b (List.mem_of_mem_take hb)
      rw [List.length_take] at t2
      refine r_ext (n := 1) rfl rfl (en_call (ea_1 (ev_var rfl)) ⟨s.bands[i], bo, rfl, rfl⟩).dd (sl_of ?_) (r_at ⟨.inr rfl, .inr ?_, .inl rfl, trivial⟩)
      · rw [List.length_map, List.length_map, List.length_append, List.length_append]
        show (s.leakUp.length + 1) + (s.leakLow.length + 1) + _ + _ ≤ _
        omega
      · rw [List.take_succ_eq_append_getElem hib, List.flatMap_append, ← List.append_assoc (listRow s.leakUp ++ listRow s.leakLow), List.map_append (f := D.int) (l₂ := [s.bands[i]].flatMap bandT)]
        show Ent.ow _ = Ent.ow _
        congr 2
        simp
    · rw [List.length_map, List.length_map, List.take_length, List.append_assoc]
      exact r_retO rfl k
end
end Qa

set_option Elab.async false
set_option linter.all false
set_option maxRecDepth 100000
set_option maxHeartbeats 1000000
namespace Qa
open PySem PySem.Spec PyProof.Rows L2
section
variable {K : PySem.W.Frag} {G0 H0 G H G1 H1 G2 H2 : Hp} {Γ Γ' : List Ent} {σ : L2.St} {ta tb tc te : TE} {d : D} {l m : List D} {i : Int} {v : V} {De : Ends}
/-! ### an exact value -/
def EvV (K : PySem.W.Frag) (G0 H0 : Hp) (Γ : List Ent) (te : TE) (v : V) : Prop := ∀ σ G H, Stt K G0 H0 Γ σ G H → ∀ Q : VK, (∀ G2 H2, Gh G H G2 H2 → Q v H2) → te σ H Q
theorem vv_var {n : Nat} (h : Γ[n]? = some (.ex v)) : EvV K G0 H0 Γ (tVar n) v := fun σ G H s Q q => by
  obtain ⟨o, e1, e2⟩ := s.env.get h
  have e2 : o = some v := e2
  subst e2
  exact ⟨v, e1, q G H (Gh.refl s.gh.gh)⟩
theorem EvV.dd (h : EvV K G0 H0 Γ te v) (r : Rp K G0 d v) : Evd K G0 H0 Γ te d := fun σ G H s Q q => h σ G H s Q fun G2 H2 g => q v G2 H2 g (Rp.mono (s.gh.gg.trans g.gg) _ _ r)
theorem vv_fld {C x dx : Addr} {f : Str} {fs : List (Str × V)} (ha : EvV K G0 H0 Γ ta (.ref x)) (hx : H0 x = some (.ins C dx fs)) (hc : Cls K C) (hn : NoAttr K C f) (hf : fs.lookup f = some v) : EvV K G0 H0 Γ (tFld K ta f) v := fun σ G H s Q q =>
  ha σ G H s _ fun G1 H1 g1 => ⟨x, C, dx, fs, v, rfl, (s.step g1).gh.hh _ _ hx, hc, hn, hf, q G1 H1 g1⟩
theorem vv_ix {x : Addr} {xs : List V} {k : Nat} (ha : EvV K G0 H0 Γ ta (.ref x)) (hx : H0 x = some (.lst xs)) (hb : Evd K G0 H0 Γ tb (.int i)) (hk : i = (k : Int)) (hv : xs[k]? = some v) : EvV K G0 H0 Γ (tOp (rIxL K) ta tb) v := fun σ G H s Q q =>
  ha σ G H s _ fun G1 H1 g1 => hb σ G1 H1 (s.step g1) _ fun y G2 H2 g2 r2 => ⟨x, xs, i, v, rfl, r2, .inl (.inl (((s.step g1).step g2).gh.hh _ _ hx)), atI_get hk hv, q G2 H2 (g1.trans g2)⟩
theorem vv_notN (ha : EvV K G0 H0 Γ ta v) : Evd K G0 H0 Γ (tNotN ta) (.bl (!decide (v = .non))) := fun σ G H s Q q => ha σ G H s _ fun G1 H1 g1 => q _ G1 H1 g1 rfl
theorem r_retV (h : EvV K G0 H0 Γ te v) (k : ∀ G H, Gh G0 H0 G H → De.rt v H) : Run K G0 H0 Γ (tRet te De) := fun σ G H s => h σ G H s _ fun G1 H1 g1 => k G1 H1 (s.step g1).gh
theorem r_asgV {n : Nat} (h : EvV K G0 H0 Γ te v) (k : Run K G0 H0 (Γ.set n (.ex v)) De.nx) : Run K G0 H0 Γ (tAsg te (gName n) De) := fun σ G H s =>
  h σ G H s _ fun G1 H1 g1 => k _ G1 H1 ⟨(s.step g1).gh, (s.step g1).env.set n rfl⟩
theorem r_dropV (h : EvV K G0 H0 Γ te v) (k : Run K G0 H0 Γ De.nx) : Run K G0 H0 Γ (tDrop te De) := fun σ G H s => h σ G H s _ fun G1 H1 g1 => k _ G1 H1 (s.step g1)
/-! ### writing -/
theorem EnvOk.any {H0' H' : Hp} : ∀ {Γ : List Ent} {σ : L2.St}, lone Γ = true → EnvOk K H0 G H Γ σ → EnvOk K H0' G H' Γ σ
  | [], _, _, h => h
  | e :: Γ, σ, hl, h => by
    obtain ⟨o, r, e1, e2, e3⟩ := h
    cases e with
    | no => exact ⟨o, r, e1, trivial, EnvOk.any hl e3⟩
    | fz d => exact ⟨o, r, e1, e2, EnvOk.any hl e3⟩
    | ow l => exact absurd (show false = true from hl) Bool.false_ne_true
    | ex v => exact ⟨o, r, e1, e2, EnvOk.any hl e3⟩
theorem same_upd {x : Addr} {o : HO} (g : Same G H) (h : G x = none) : Same G (upd H x o) := fun y u e => by
  rw [upd_ne (ne_of_none e h)]
  exact g y u e
/-- an attribute is written; the walk goes on from there -/
theorem r_fldW {C x dx : Addr} {f : Str} {fs : List (Str × V)} (hl : lone Γ = true) (ho : EvV K G0 H0 Γ ta (.ref x)) (hv : Evd K G0 H0 Γ te d) (hx : H0 x = some (.ins C dx fs)) (hG : G0 x = none) (hc : Cls K C) (hn : NoAttr K C f) (hz : fs.length < 1000)
    (k : ∀ y G1 H1, Gh G0 H0 G1 H1 → Rp K G1 d y → G1 x = none → H1 x = some (.ins C dx fs) → Run K G1 (upd H1 x (.ins C dx (putF f y fs))) Γ De.nx) : Run K G0 H0 Γ (sFld K ta te f De) := fun σ G H s =>
  hv σ G H s _ fun y G1 H1 g1 r1 => ho σ G1 H1 (s.step g1) _ fun G2 H2 g2 => by
    have s2 := (s.step g1).step g2
    have ex := s2.gh.hh _ _ hx
    have gx := s2.gh.fr x (by rw [hx]; exact fun z => nomatch z) hG
    exact ⟨x, C, dx, fs, rfl, ex, hc, hn, hz, k y G2 H2 s2.gh (Rp.mono g2.gg _ _ r1) gx ex σ G2 _ ⟨Gh.refl (same_upd s2.gh.gh gx), s2.env.any hl⟩⟩
/-- an element is written, of a list that the ghost does not have -/
theorem r_setW {x : Addr} {xs : List V} {k : Nat} (hl : lone Γ = true) (hv : EvV K G0 H0 Γ te v) (ho : EvV K G0 H0 Γ ta (.ref x)) (hi : Evd K G0 H0 Γ tb (.int i)) (hx : H0 x = some (.lst xs)) (hG : G0 x = none) (hk : i = (k : Int)) (hlt : k < xs.length)
    (kk : ∀ G1 H1, Gh G0 H0 G1 H1 → G1 x = none → H1 x = some (.lst xs) → Run K G1 (upd H1 x (.lst (xs.set k v))) Γ De.nx) : Run K G0 H0 Γ (tAsg te (gSub ta tb rSetL) De) := fun σ G H s =>
  hv σ G H s _ fun G1 H1 g1 => ho σ G1 H1 (s.step g1) _ fun G2 H2 g2 => hi σ G2 H2 ((s.step g1).step g2) _ fun y G3 H3 g3 r3 => by
    have s3 := ((s.step g1).step g2).step g3
    have ex := s3.gh.hh _ _ hx
    have gx := s3.gh.fr x (by rw [hx]; exact fun z => nomatch z) hG
    have r3 : y = .int i := r3
    refine ⟨x, xs, i, k, rfl, r3, ex, ?_, kk G3 H3 s3.gh gx ex σ G3 _ ⟨Gh.refl (same_upd s3.gh.gh gx), s3.env.any hl⟩⟩
    subst hk
    exact ixN_nat hlt
/-- how heaps go on where some objects may be written -/
structure Mv (W : Addr → Prop) (G0 H0 G H : Hp) : Prop where
  gg : Same G0 G
  kk : ∀ y o, ¬ W y → H0 y = some o → H y = some o
  gh : Same G H
  fr : ∀ y, H0 y ≠ none → G0 y = none → G y = none
  dm : ∀ y, H0 y ≠ none → H y ≠ none
theorem Gh.mv {W : Addr → Prop} (g : Gh G0 H0 G H) : Mv W G0 H0 G H := ⟨g.gg, fun y o _ e => g.hh _ _ e, g.gh, g.fr, fun y h => some_ne g.hh h⟩
theorem Mv.trans {W : Addr → Prop} (a : Mv W G0 H0 G1 H1) (b : Mv W G1 H1 G2 H2) : Mv W G0 H0 G2 H2 := ⟨a.gg.trans b.gg, fun y o w e => b.kk y o w (a.kk y o w e), b.gh, fun y h1 h2 => b.fr y (a.dm y h1) (a.fr y h1 h2), fun y h => b.dm y (a.dm y h)⟩
theorem Mv.wr {W : Addr → Prop} {x : Addr} {o : HO} (g : Same G H) (hG : G x = none) (hw : W x) : Mv W G H G (upd H x o) := ⟨Same.refl _, fun y u w e => by
    have ne : y ≠ x := fun q => w (by rw [q]; exact hw)
    rw [upd_ne ne]
    exact e, same_upd g hG, fun _ _ h => h, fun y h => by
    by_cases q : y = x
    · rw [q, upd_same]
      exact fun z => nomatch z
    · rwa [upd_ne q]⟩
theorem Mv.le {W W' : Addr → Prop} (a : Mv W G0 H0 G H) (h : ∀ y, W y → W' y) : Mv W' G0 H0 G H := ⟨a.gg, fun y o w e => a.kk y o (fun z => w (h y z)) e, a.gh, a.fr, a.dm⟩
/-! ### a body begins, the first value exact -/
theorem Run.goX {ds : List D} {x : V} {vs : List V} {N : List Str} {T : L2.St → Hp → Prop} (n : Nat) (hG : Same G H) (hr : RpL K G ds vs) (hN : N.length = ds.length + 1 + n) (h : Run K G H (.ex x :: (ds.map Ent.fz ++ List.replicate n Ent.no)) T) : T (L2.start N (x :: vs)) H := by
  unfold L2.start
  rw [List.length_cons, hr.len, hN, show ds.length + 1 + n - (ds.length + 1) = n by omega]
  exact h _ G H ⟨Gh.refl hG, some x, _, rfl, rfl, env_start hr n⟩
/-- .. the first four -/
theorem r_nilret (k : ∀ p G H, Gh G0 H0 G H → H0 p = none → G p = none → H p = some (.lst []) → De.rt (.ref p) H) : Run K G0 H0 Γ (tRet (tLst tNil) De) := r_retN (en_lst ea_nil (Nat.zero_le _)) fun p vs G H g h1 h2 h3 h4 => by
  have e : vs = [] := h4
  subst e
  exact k p G H g h1 h2 h3
end
end Qa

set_option Elab.async false
set_option linter.all false
set_option maxRecDepth 100000
set_option maxHeartbeats 4000000
namespace Qa
open PySem PySem.Spec PyProof.Rows L2
open Vbhlae (at_ trim common chain smaller Band Aid present Q bit listRow qRow step Call inr)
section
variable {P : Program} {w : World} {K : PySem.W.Frag} {mg : Str → Option Value} {base : Heap} {CA CB CD : Addr} {G0 H0 G H G1 H1 G2 H2 G' H' : Hp} {a lb : Addr} {os : List (Option Addr)} {s : Aid} {Γ : List Ent} {ta te : TE} {d : D} {l : List D} {De : Ends}
/-! ### an aid on the heap -/
abbrev bandN : List Str := ["gain", "upper", "lower"]
abbrev aidN : List Str := ["leak_upper", "leak_lower", "bands"]
def slot : Option Addr → V
  | none => .non
  | some b => .ref b
def BandH (K : PySem.W.Frag) (CB : Addr) (G H : Hp) (b : Addr) (x : Band) : Prop := ∃ dx vg vu vl, H b = some (.ins CB dx (bandN.zip [vg, vu, vl])) ∧ Rp K G (qqD x.gain) vg ∧ Rp K G (rowD x.up) vu ∧ Rp K G (rowD x.low) vl
def SlotH (K : PySem.W.Frag) (CB : Addr) (G H : Hp) : Option Addr → Option Band → Prop
  | none, none => True
  | some b, some x => BandH K CB G H b x
  | _, _ => False
/-- the objects that are written -/
def Wa (a lb : Addr) (os : List (Option Addr)) (y : Addr) : Prop := y = a ∨ y = lb ∨ some y ∈ os
instance (a lb : Addr) (os : List (Option Addr)) (y : Addr) : Decidable (Wa a lb os y) := inferInstanceAs (Decidable (_ ∨ _ ∨ _))
structure AidH (K : PySem.W.Frag) (CA CB : Addr) (G H : Hp) (a lb : Addr) (os : List (Option Addr)) (s : Aid) : Prop where
  gh : Same G H
  gw : ∀ y, Wa a lb os y → G y = none
  ia : ∃ dx vu vl, H a = some (.ins CA dx (aidN.zip [vu, vl, .ref lb])) ∧ Rp K G (rowD s.leakUp) vu ∧ Rp K G (rowD s.leakLow) vl
  ib : H lb = some (.lst (os.map slot))
  na : ∀ b, some b ∈ os → b ≠ a
  uq : ∀ (i j : Nat) (b : Addr), os[i]? = some (some b) → os[j]? = some (some b) → i = j
  len : os.length = s.bands.length
  bs : ∀ (i : Nat) (o : Option Addr) (x : Option Band), os[i]? = some o → s.bands[i]? = some x → SlotH K CB G H o x
  l3 : os.length = 3
theorem BandH.step {b : Addr} {x : Band} (h : BandH K CB G H b x) (g : Same G G') (e : ∀ o, H b = some o → H' b = some o) : BandH K CB G' H' b x := by
  obtain ⟨dx, vg, vu, vl, h1, h2, h3, h4⟩ := h
  exact ⟨dx, vg, vu, vl, e _ h1, Rp.mono g _ _ h2, Rp.mono g _ _ h3, Rp.mono g _ _ h4⟩
theorem SlotH.step {o : Option Addr} {x : Option Band} (h : SlotH K CB G H o x) (g : Same G G') (e : ∀ b, o = some b → ∀ u, H b = some u → H' b = some u) : SlotH K CB G' H' o x := by
  cases o with
  | none => cases x with
    | none => trivial
    | some x => exact h.elim
  | some b => cases x with
    | none => exact h.elim
    | some x => exact BandH.step h g (e b rfl)
theorem AidH.here (h : AidH K CA CB G H a lb os s) : ∀ y, Wa a lb os y → H y ≠ none := fun y hy => by
  rcases hy with e | e | e
  · obtain ⟨dx, vu, vl, h1, _⟩ := h.ia
    rw [e, h1]
    exact fun z => nomatch z
  · rw [e, h.ib]
    exact fun z => nomatch z
  · obtain ⟨i, hi⟩ := List.mem_iff_getElem?.mp e
    have hl : i < s.bands.length := by
      have := (List.getElem?_eq_some_iff.mp hi).1
      rwa [h.len] at this
    have t := h.bs i _ _ hi (List.getElem?_eq_getElem hl)
    cases q : s.bands[i] with
    | none =>
      rw [q] at t
      exact t.elim
    | some x =>
      rw [q] at t
      obtain ⟨dx, vg, vu, vl, h1, _⟩ := t
      rw [h1]
      exact fun z => nomatch z
theorem AidH.step (h : AidH K CA CB G H a lb os s) (g : Gh G H G' H') : AidH K CA CB G' H' a lb os s where
  gh := g.gh
  gw := fun y hy => g.fr y (h.here y hy) (h.gw y hy)
  ia := by
    obtain ⟨dx, vu, vl, h1, h2, h3⟩ := h.ia
    exact ⟨dx, vu, vl, g.hh _ _ h1, Rp.mono g.gg _ _ h2, Rp.mono g.gg _ _ h3⟩
  ib := g.hh _ _ h.ib
  na := h.na
  uq := h.uq
  len := h.len
  bs := fun i o x h1 h2 => (h.bs i o x h1 h2).step g.gg fun b _ u e => g.hh _ _ e
  l3 := h.l3
theorem RpL.of : ∀ {l : List D} {vs : List V}, l.length = vs.length → (∀ (i : Nat) (d : D) (v : V), l[i]? = some d → vs[i]? = some v → Rp K G d v) → RpL K G l vs
  | [], [], _, _ => rfl
  | [], v :: vs, h, _ => by cases h
  | d :: l, [], h, _ => by cases h
  | d :: l, v :: vs, h, k => ⟨v, vs, rfl, k 0 d v rfl rfl, RpL.of (by simpa using h) fun i d v h1 h2 => k (i + 1) d v (by simpa using h1) (by simpa using h2)⟩
def fullG (G H : Hp) (a lb : Addr) (os : List (Option Addr)) : Hp := fun y => if Wa a lb os y then H y else G y
def cutG (G : Hp) (a lb : Addr) (os : List (Option Addr)) : Hp := fun y => if Wa a lb os y then none else G y
theorem full_in {y : Addr} (h : Wa a lb os y) : fullG G H a lb os y = H y := if_pos h
theorem full_out {y : Addr} (h : ¬ Wa a lb os y) : fullG G H a lb os y = G y := if_neg h
theorem cut_in {y : Addr} (h : Wa a lb os y) : cutG G a lb os y = none := if_pos h
theorem cut_out {y : Addr} (h : ¬ Wa a lb os y) : cutG G a lb os y = G y := if_neg h
theorem AidH.sub (h : AidH K CA CB G H a lb os s) : Same G (fullG G H a lb os) := fun y u e => by
  have nw : ¬ Wa a lb os y := fun w => by
    rw [h.gw y w] at e
    cases e
  rwa [full_out nw]
theorem AidH.sup (h : AidH K CA CB G H a lb os s) : Same (fullG G H a lb os) H := fun y u e => by
  by_cases w : Wa a lb os y
  · rwa [full_in w] at e
  · rw [full_out w] at e
    exact h.gh y u e
theorem AidH.full (h : AidH K CA CB G H a lb os s) : Rp K (fullG G H a lb os) (aidD CA CB s) (.ref a) := by
  have sb := h.sub
  obtain ⟨dx, vu, vl, h1, h2, h3⟩ := h.ia
  refine ⟨a, dx, _, rfl, (full_in (.inl rfl)).trans h1, rfl, vu, _, rfl, Rp.mono sb _ _ h2, vl, _, rfl, Rp.mono sb _ _ h3, .ref lb, _, rfl, ⟨lb, _, rfl, (full_in (.inr (.inl rfl))).trans h.ib, RpL.of ?_ fun i d v e1 e2 => ?_⟩, rfl⟩
  · rw [List.length_map, List.length_map, h.len]
  · have hl : i < s.bands.length := by
      have := (List.getElem?_eq_some_iff.mp e1).1
      rwa [List.length_map] at this
    have hl2 : i < os.length := by rw [h.len]; exact hl
    rw [List.getElem?_map, List.getElem?_eq_getElem hl] at e1
    rw [List.getElem?_map, List.getElem?_eq_getElem hl2] at e2
    have t := h.bs i _ _ (List.getElem?_eq_getElem hl2) (List.getElem?_eq_getElem hl)
    have e1 : obD CB s.bands[i] = d := Option.some.inj e1
    have e2 : slot os[i] = v := Option.some.inj e2
    subst e1 e2
    have mem : os[i] ∈ os := List.getElem_mem hl2
    cases q : os[i] with
    | none =>
      rw [q] at t
      cases q2 : s.bands[i] with
      | none => rfl
      | some x =>
        rw [q2] at t
        exact t.elim
    | some b =>
      rw [q] at t mem
      cases q2 : s.bands[i] with
      | none =>
        rw [q2] at t
        exact t.elim
      | some x =>
        rw [q2] at t
        obtain ⟨dx, vg, vu, vl, k1, k2, k3, k4⟩ := t
        exact ⟨b, dx, _, rfl, (full_in (.inr (.inr mem))).trans k1, rfl, vg, _, rfl, Rp.mono sb _ _ k2, vu, _, rfl, Rp.mono sb _ _ k3, vl, _, rfl, Rp.mono sb _ _ k4, rfl⟩
/-- what is asked of an aid: its answer, in the ghost that lacks the aid -/
theorem AidH.cut {l : List Int} {v : V} (h : AidH K CA CB G H a lb os s) (g : Gh (fullG G H a lb os) H G' H') (r : Rp K G' (rowD l) v) : Gh G H (cutG G' a lb os) H' ∧ Rp K (cutG G' a lb os) (rowD l) v := by
  refine ⟨⟨fun y u e => ?_, g.hh, fun y u e => ?_, fun y h1 h2 => ?_⟩, ?_⟩
  · have nw : ¬ Wa a lb os y := fun w => by
      rw [h.gw y w] at e
      cases e
    rw [cut_out nw]
    exact g.gg y u (by rwa [full_out nw])
  · by_cases w : Wa a lb os y
    · rw [cut_in w] at e
      cases e
    · rw [cut_out w] at e
      exact g.gh y u e
  · by_cases w : Wa a lb os y
    · exact cut_in w
    · rw [cut_out w]
      exact g.fr y h1 (by rwa [full_out w])
  · obtain ⟨p, vs, e1, e2, e3⟩ := r
    have e4 := e3.ints
    have nw : ¬ Wa a lb os p := fun w => by
      have e5 := g.gg p _ ((full_in w).trans (Option.ne_none_iff_exists'.mp (h.here p w)).choose_spec)
      have e6 := (Option.ne_none_iff_exists'.mp (h.here p w)).choose_spec
      rw [e2] at e5
      have e7 : H p = some (.lst vs) := by rw [e6, ← Option.some.inj e5]
      rcases w with q | q | q
      · obtain ⟨dx, vu, vl, h1, _⟩ := h.ia
        rw [q, h1] at e7
        cases e7
      · rw [q, h.ib] at e7
        have e8 : os.map slot = vs := by
          cases e7
          rfl
        have l3 := h.l3
        cases os with
        | nil => cases l3
        | cons o os =>
          rw [e4] at e8
          cases l with
          | nil => cases e8
          | cons x l =>
            have e9 : slot o = .int x := (List.cons.inj e8).1
            cases o with
            | none => cases e9
            | some b => cases e9
      · obtain ⟨i, hi⟩ := List.mem_iff_getElem?.mp q
        have hl : i < s.bands.length := by
          have := (List.getElem?_eq_some_iff.mp hi).1
          rwa [h.len] at this
        have t := h.bs i _ _ hi (List.getElem?_eq_getElem hl)
        cases q2 : s.bands[i] with
        | none =>
          rw [q2] at t
          exact t.elim
        | some x =>
          rw [q2] at t
          obtain ⟨dx, vg, vu, vl, h1, _⟩ := t
          rw [h1] at e7
          cases e7
    exact ⟨p, vs, e1, (cut_out nw).trans e2, by rw [e4]; exact rpl_ints l⟩
/-! ### a list that is not in the ghost becomes an attribute -/
theorem r_fldWN {C x dx : Addr} {f : Str} {fs : List (Str × V)} (hl : lone Γ = true) (ho : EvV K G0 H0 Γ ta (.ref x)) (hv : EvN K G0 H0 Γ te l) (hx : H0 x = some (.ins C dx fs)) (hG : G0 x = none) (hc : Cls K C) (hn : NoAttr K C f) (hz : fs.length < 1000)
    (k : ∀ p vs G1 H1, Gh G0 H0 G1 H1 → H0 p = none → G1 p = none → H1 p = some (.lst vs) → RpL K G1 l vs → G1 x = none → H1 x = some (.ins C dx fs) → Run K G1 (upd H1 x (.ins C dx (putF f (.ref p) fs))) Γ De.nx) : Run K G0 H0 Γ (sFld K ta te f De) := fun σ G H s =>
  hv σ G H s _ fun p vs G1 H1 g1 a1 a2 a3 a4 => ho σ G1 H1 (s.step g1) _ fun G2 H2 g2 => by
    have s2 := (s.step g1).step g2
    have ex := s2.gh.hh _ _ hx
    have gx := s2.gh.fr x (by rw [hx]; exact fun z => nomatch z) hG
    have pn : H0 p = none := s.gh.hh.free a1
    exact ⟨x, C, dx, fs, rfl, ex, hc, hn, hz, k p vs G2 H2 s2.gh pn (g2.fr p (by rw [a3]; exact fun z => nomatch z) a2) (g2.hh _ _ a3) (RpL.mono g2.gg _ _ a4) gx ex σ G2 _ ⟨Gh.refl (same_upd s2.gh.gh gx), s2.env.any hl⟩⟩
theorem put2 (f g : Str) (v w : V) (h : (f : Str) ≠ g) : putF g w [(f, v)] = [(f, v), (g, w)] := by
  show (if f = g then _ else _) = _
  rw [if_neg h]
  rfl
theorem put3 (f g k : Str) (v w u : V) (h : f ≠ k) (h2 : g ≠ k) : putF k u [(f, v), (g, w)] = [(f, v), (g, w), (k, u)] := by
  show (if f = k then _ else (f, v) :: putF k u [(g, w)]) = _
  rw [if_neg h, put2 g k w u h2]
/-! ### a new aid -/
def spAi (K : PySem.W.Frag) (CA CB : Addr) : Sp := fun vs H Q _ => ∃ G x dx, vs = [.ref x] ∧ Same G H ∧ G x = none ∧ H x = some (.ins CA dx []) ∧
  ∀ G' H' lb, AidH K CA CB G' H' x lb [none, none, none] Vbhlae.start → Mv (fun y => y = x) G H G' H' → H lb = none → Q .non H'
theorem sc_Aid_init : FnScope ["self"] ["self"] (defScope s_Aid_init) := ⟨rfl, rfl, rfl, by decide +kernel, rfl, by decide +kernel, by decide +kernel⟩
theorem ok_Aid_init (T : Txt K mg) : FnOk P w K mg base CX0 1 T.Aid_init.f T.Aid_init.fd ["self"] (spAi K T.CA T.CB) := by
  refine T.Aid_init.F.ok sc_Aid_init (fun vs H Q E h => ?_) (fun cdv A outer s H vs Q E hr h => ⟨_, (pss_cons (ps_fld (pv 0) (pe_lst (pa_cons pe_int pa_nil)) rfl)
      (pss_cons (ps_fld (pv 0) (pe_lst (pa_cons pe_int pa_nil)) rfl)
      (pss_one (ps_fld (pv 0) (pe_op op_rep (pe_lst (pa_cons pe_non pa_nil)) (pe_gi T.c_MOST_BANDS)) rfl)))), ?_⟩)
  · obtain ⟨G, x, dx, rfl, _⟩ := h
    rfl
  · obtain ⟨G, x, dx, rfl, hG, gx, hx, k⟩ := h
    refine Run.goX (K := K) (G := G) (ds := []) (vs := []) (x := .ref x) 0 hG rfl rfl ?_
    with_reducible refine r_seq ?_
    refine r_fldW (d := rowD [0]) rfl (vv_var rfl) (en_lst (ea_1 ev_int) (show (1 : Nat) ≤ sizeLine by decide)).dd hx gx T.cl_CA T.n_leak_upper (show (0 : Nat) < 1000 by decide) fun vu G1 H1 g1 r1 gx1 hx1 => ?_
    with_reducible refine r_seq ?_
    refine r_fldW (d := rowD [1]) rfl (vv_var rfl) (en_lst (ea_1 ev_int) (show (1 : Nat) ≤ sizeLine by decide)).dd upd_same gx1 T.cl_CA T.n_leak_lower (show (1 : Nat) < 1000 by decide) fun vl G2 H2 g2 r2 gx2 hx2 => ?_
    have e2 : putF ("leak_lower" : Str) vl (putF ("leak_upper" : Str) vu []) = [(("leak_upper" : Str), vu), (("leak_lower" : Str), vl)] := put2 _ _ _ _ (by decide)
    rw [e2]
    refine r_fldWN (l := List.replicate 3 .non) rfl (vv_var rfl) (en_rep (en_lst (ea_1 ev_non) (show (1 : Nat) ≤ sizeLine by decide)).dd ev_int (show -(2 ^ 62) < (3 : Int) by decide) (show (3 : Int) ≤ sizeLine by decide)) (upd_same (o := .ins T.CA dx [(("leak_upper" : Str), vu), (("leak_lower" : Str), vl)])) gx2 T.cl_CA T.n_bands (show (2 : Nat) < 1000 by decide) fun p vs G3 H3 g3 pn gp hp rp gx3 hx3 => ?_
    rw [put3 _ _ _ _ _ _ (by decide) (by decide)]
    intro σ G4 H4 s4
    have m1 : Mv (fun y => y = x) G H G1 (upd H1 x (.ins T.CA dx (putF "leak_upper" vu []))) := g1.mv.trans (Mv.wr g1.gh gx1 rfl)
    have m2 : Mv (fun y => y = x) G H G2 (upd H2 x (.ins T.CA dx [(("leak_upper" : Str), vu), (("leak_lower" : Str), vl)])) := (m1.trans g2.mv).trans (Mv.wr g2.gh gx2 rfl)
    have m3 : Mv (fun y => y = x) G H G3 (upd H3 x (.ins T.CA dx [(("leak_upper" : Str), vu), (("leak_lower" : Str), vl), (("bands" : Str), .ref p)])) := (m2.trans g3.mv).trans (Mv.wr g3.gh gx3 rfl)
    have px : p ≠ x := fun q => by
      rw [q, upd_same] at pn
      cases pn
    have ve : vs = [.non, .non, .non] := by
      obtain ⟨v1, w1, e1, f1, q1⟩ := rp
      obtain ⟨v2, w2, e2, f2, q2⟩ := q1
      obtain ⟨v3, w3, e3, f3, q3⟩ := q2
      subst e1 e2 e3
      rw [show v1 = .non from f1, show v2 = .non from f2, show v3 = .non from f3, show w3 = [] from q3]
    subst ve
    have A3 : AidH K T.CA T.CB G3 (upd H3 x (.ins T.CA dx [(("leak_upper" : Str), vu), (("leak_lower" : Str), vl), (("bands" : Str), .ref p)])) x p [none, none, none] Vbhlae.start := {
      gh := m3.gh
      gw := fun y hy => by
        rcases hy with e | e | e
        · rw [e]
          exact gx3
        · rw [e]
          exact gp
        · simp at e
      ia := ⟨dx, vu, vl, upd_same, Rp.mono (g2.gg.trans g3.gg) _ _ r1, Rp.mono g3.gg _ _ r2⟩
      ib := by
        rw [upd_ne px]
        exact hp
      na := fun b hb => by simp at hb
      uq := fun i j b hb => by
        rcases i with _ | _ | _ | i <;> simp at hb
      len := rfl
      bs := fun i o x h1 h2 => by
        have h2 : (List.replicate 3 (none : Option Band))[i]? = some x := h2
        rcases i with _ | _ | _ | i
        · cases h1
          cases h2
          trivial
        · cases h1
          cases h2
          trivial
        · cases h1
          cases h2
          trivial
        · simp at h1
      l3 := rfl }
    refine k G4 H4 p (A3.step s4.gh) (m3.trans s4.gh.mv) ?_
    cases q : H p with
    | none => rfl
    | some o => exact absurd pn (m2.dm p (by rw [q]; exact fun z => nomatch z))
/-! ### a new band -/
def spBi (K : PySem.W.Frag) (CB : Addr) : Sp := fun vs H Q _ => ∃ G x dx g u l q up low, vs = [.ref x, g, u, l] ∧ Same G H ∧ G x = none ∧ H x = some (.ins CB dx []) ∧ Rp K G q g ∧ Rp K G (rowD up) u ∧ Rp K G (rowD low) l ∧
  ∀ G' H' g' u' l', Mv (fun y => y = x) G H G' H' → G' x = none → H' x = some (.ins CB dx (bandN.zip [g', u', l'])) → Rp K G' q g' → Rp K G' (rowD up) u' → Rp K G' (rowD low) l' → Q .non H'
theorem sc_Band_init : FnScope ["self", "gain", "upper", "lower"] ["self", "gain", "upper", "lower"] (defScope s_Band_init) := ⟨rfl, rfl, rfl, by decide +kernel, rfl, by decide +kernel, by decide +kernel⟩
theorem ok_Band_init (T : Txt K mg) : FnOk P w K mg base CX0 1 T.Band_init.f T.Band_init.fd ["self", "gain", "upper", "lower"] (spBi K T.CB) := by
  refine T.Band_init.F.ok sc_Band_init (fun vs H Q E h => ?_) (fun cdv A outer s H vs Q E hr h => ⟨_, (pss_cons (ps_fld (pv 0) (pv 1) rfl)
      (pss_cons (ps_fld (pv 0) (pe_callTy (call_listk K) rfl T.b_list (by decide +kernel) (pa_cons (pv 2) pa_nil)) rfl)
      (pss_one (ps_fld (pv 0) (pe_callTy (call_listk K) rfl T.b_list (by decide +kernel) (pa_cons (pv 3) pa_nil)) rfl)))), ?_⟩)
  · obtain ⟨G, x, dx, g, u, l, q, up, low, rfl, _⟩ := h
    rfl
  · obtain ⟨G, x, dx, g, u, l, q, up, low, rfl, hG, gx, hx, rg, ru, rl, k⟩ := h
    refine Run.goX (K := K) (G := G) (ds := [q, rowD up, rowD low]) (vs := [g, u, l]) (x := .ref x) 0 hG ⟨g, _, rfl, rg, u, _, rfl, ru, l, _, rfl, rl, rfl⟩ rfl ?_
    with_reducible refine r_seq ?_
    refine r_fldW (d := q) rfl (vv_var rfl) (ev_var rfl) hx gx T.cl_CB T.n_gain (show (0 : Nat) < 1000 by decide) fun y G1 H1 g1 r1 gx1 hx1 => ?_
    with_reducible refine r_seq ?_
    refine r_fldW (d := rowD up) rfl (vv_var rfl) (en_listL (ev_var rfl)).dd upd_same gx1 T.cl_CB T.n_upper (show (1 : Nat) < 1000 by decide) fun vu G2 H2 g2 r2 gx2 hx2 => ?_
    have e2 : putF ("upper" : Str) vu (putF ("gain" : Str) y []) = [(("gain" : Str), y), (("upper" : Str), vu)] := put2 _ _ _ _ (by decide)
    rw [e2]
    refine r_fldW (d := rowD low) rfl (vv_var rfl) (en_listL (ev_var rfl)).dd (upd_same (o := .ins T.CB dx [(("gain" : Str), y), (("upper" : Str), vu)])) gx2 T.cl_CB T.n_lower (show (2 : Nat) < 1000 by decide) fun vl G3 H3 g3 r3 gx3 hx3 => ?_
    rw [put3 _ _ _ _ _ _ (by decide) (by decide)]
    intro σ G4 H4 s4
    have m1 : Mv (fun y => y = x) G H G1 (upd H1 x (.ins T.CB dx (putF "gain" y []))) := g1.mv.trans (Mv.wr g1.gh gx1 rfl)
    have m2 : Mv (fun y => y = x) G H G2 (upd H2 x (.ins T.CB dx [(("gain" : Str), y), (("upper" : Str), vu)])) := (m1.trans g2.mv).trans (Mv.wr g2.gh gx2 rfl)
    have m3 : Mv (fun y => y = x) G H G3 (upd H3 x (.ins T.CB dx [(("gain" : Str), y), (("upper" : Str), vu), (("lower" : Str), vl)])) := (m2.trans g3.mv).trans (Mv.wr g3.gh gx3 rfl)
    have hx4 := s4.gh.hh _ _ upd_same
    exact k G4 H4 y vu vl (m3.trans s4.gh.mv) (s4.gh.fr x (by rw [upd_same]; exact fun z => nomatch z) gx3) hx4 (Rp.mono ((g2.gg.trans g3.gg).trans s4.gh.gg) _ _ r1) (Rp.mono (g3.gg.trans s4.gh.gg) _ _ r2) (Rp.mono s4.gh.gg _ _ r3)
end
end Qa

set_option Elab.async false
set_option linter.all false
set_option maxRecDepth 100000
set_option maxHeartbeats 1000000
namespace Qa
open PySem PySem.Spec PyProof.Rows L2
open Vbhlae (at_ trim common chain smaller Band Aid present Q bit listRow qRow step Call inr guarded setBand bandAt noBand)
/-! ### what the calls that change make of the aid -/
section
variable {s : Aid}
theorem eq_leak (u l : List Int) : step s (.leak u l) = guarded s [(-1, !(Vbhlae.isUp u && Vbhlae.isLow l))] fun _ => ({ s with leakUp := u, leakLow := l }, [0]) := rfl
theorem eq_band (i n d : Int) (u l : List Int) : step s (.band i n d u l) = guarded s [(-1, !(inr i 0 2 && (inr n (-1000) 1000 && (inr d 1 1000 && (Vbhlae.isUp u && Vbhlae.isLow l)))))] fun _ => (setBand s i.toNat (some ⟨Vbhlae.frac n d.toNat, u, l⟩), [0]) := rfl
theorem eq_gain (i n d : Int) : step s (.gain i n d) = guarded s [(-1, !(inr i 0 2 && (inr n (-1000) 1000 && inr d 1 1000))), (-3, (bandAt s i.toNat).isNone)] fun _ => (setBand s i.toNat ((bandAt s i.toNat).map fun b => { b with gain := Vbhlae.frac n d.toNat }), [0]) := rfl
theorem eq_mute (i : Int) : step s (.mute i) = guarded s [(-1, !inr i 0 2), (-3, (bandAt s i.toNat).isNone)] fun _ => (setBand s i.toNat none, [0]) := rfl
theorem eq_later (i k : Int) : step s (.later i k) = guarded s [(-1, !(inr i 0 2 && inr k 0 3)), (-3, (bandAt s i.toNat).isNone), (-6, decide ((Vbhlae.MOST : Int) < (((bandAt s i.toNat).map fun b => b.up.length).getD 0 : Nat) + k))] fun _ => (setBand s i.toNat ((bandAt s i.toNat).map fun b => { b with up := List.replicate k.toNat 0 ++ b.up }), [0]) := rfl
theorem eq_turn (i : Int) : step s (.turn i) = guarded s [(-1, !inr i 0 2), (-3, (bandAt s i.toNat).isNone)] fun _ => (setBand s i.toNat ((bandAt s i.toNat).map fun b => { b with up := b.up.map fun x => -x }), [0]) := rfl
theorem filt_eq (u l : List Int) : (Vbhlae.isUp u && Vbhlae.isLow l) = filtOk u l := by
  unfold filtOk
  rw [show rowOk u 1 4 100 = _ from rowOk_1 u 4 100, show rowOk l 1 3 100 = _ from rowOk_1 l 3 100]
  unfold Vbhlae.isUp Vbhlae.isLow Vbhlae.MOST
  rw [show decide (at_ l 0 ≠ 0) = !decide (at_ l 0 = 0) from decide_not]
  cases decide (1 ≤ l.length) <;> cases decide (l.length ≤ 3) <;> rfl
theorem band_of {i : Nat} {o : Option Band} (h : s.bands[i]? = some o) : bandAt s i = o := by
  unfold Vbhlae.bandAt
  rw [List.getD_eq_getElem?_getD, h]
  rfl
theorem stm_leak_b {u l : List Int} (q : filtOk u l = false) : step s (.leak u l) = (s, [-1]) := (eq_leak u l).trans (g_hit (by rw [filt_eq, q]; rfl))
theorem stm_leak_o {u l : List Int} (q : filtOk u l = true) : step s (.leak u l) = ({ s with leakUp := u, leakLow := l }, [0]) := (eq_leak u l).trans ((g_miss (by rw [filt_eq, q]; rfl)).trans g_none)
def gainB (n d : Int) : Bool := inr n (-1000) 1000 && inr d 1 1000
theorem pb_m {i n d : Int} {u l : List Int} : (inr i 0 2 && (inr n (-1000) 1000 && (inr d 1 1000 && (Vbhlae.isUp u && Vbhlae.isLow l)))) = (inr i 0 2 && (gainB n d && filtOk u l)) := by
  rw [filt_eq]
  unfold gainB
  cases inr i 0 2 <;> cases inr n (-1000) 1000 <;> rfl
theorem stm_band_b {i n d : Int} {u l : List Int} (q : (inr i 0 2 && (gainB n d && filtOk u l)) = false) : step s (.band i n d u l) = (s, [-1]) := (eq_band i n d u l).trans (g_hit (by rw [pb_m, q]; rfl))
theorem stm_band_o {i n d : Int} {u l : List Int} (q : (inr i 0 2 && (gainB n d && filtOk u l)) = true) : step s (.band i n d u l) = (setBand s i.toNat (some ⟨Vbhlae.frac n d.toNat, u, l⟩), [0]) := (eq_band i n d u l).trans ((g_miss (by rw [pb_m, q]; rfl)).trans g_none)
theorem nb_e {i : Int} (h : s.bands[i.toNat]? = some none) : (bandAt s i.toNat).isNone = true := by
  rw [band_of h]
  rfl
theorem nb_o {i : Int} {x : Band} (h : s.bands[i.toNat]? = some (some x)) : (bandAt s i.toNat).isNone = false := by
  rw [band_of h]
  rfl
theorem pg_m {i n d : Int} : (inr i 0 2 && (inr n (-1000) 1000 && inr d 1 1000)) = (inr i 0 2 && gainB n d) := rfl
theorem stm_gain_b {i n d : Int} (q : (inr i 0 2 && gainB n d) = false) : step s (.gain i n d) = (s, [-1]) := (eq_gain i n d).trans (g_hit (by rw [pg_m, q]; rfl))
theorem stm_gain_n {i n d : Int} (q : (inr i 0 2 && gainB n d) = true) (h : s.bands[i.toNat]? = some none) : step s (.gain i n d) = (s, [-3]) := (eq_gain i n d).trans ((g_miss (by rw [pg_m, q]; rfl)).trans (g_hit (nb_e h)))
theorem stm_gain_o {i n d : Int} {x : Band} (q : (inr i 0 2 && gainB n d) = true) (h : s.bands[i.toNat]? = some (some x)) : step s (.gain i n d) = (setBand s i.toNat (some { x with gain := Vbhlae.frac n d.toNat }), [0]) := by
  refine (eq_gain i n d).trans ((g_miss (by rw [pg_m, q]; rfl)).trans ((g_miss (nb_o h)).trans ?_))
  rw [g_none, band_of h]
  rfl
theorem stm_mute_b {i : Int} (q : inr i 0 2 = false) : step s (.mute i) = (s, [-1]) := (eq_mute i).trans (g_hit (by rw [q]; rfl))
theorem stm_mute_n {i : Int} (q : inr i 0 2 = true) (h : s.bands[i.toNat]? = some none) : step s (.mute i) = (s, [-3]) := (eq_mute i).trans ((g_miss (by rw [q]; rfl)).trans (g_hit (nb_e h)))
theorem stm_mute_o {i : Int} {x : Band} (q : inr i 0 2 = true) (h : s.bands[i.toNat]? = some (some x)) : step s (.mute i) = (setBand s i.toNat none, [0]) := (eq_mute i).trans ((g_miss (by rw [q]; rfl)).trans ((g_miss (nb_o h)).trans g_none))
theorem stm_later_b {i k : Int} (q : (inr i 0 2 && inr k 0 3) = false) : step s (.later i k) = (s, [-1]) := (eq_later i k).trans (g_hit (by rw [q]; rfl))
theorem stm_later_n {i k : Int} (q : (inr i 0 2 && inr k 0 3) = true) (h : s.bands[i.toNat]? = some none) : step s (.later i k) = (s, [-3]) := (eq_later i k).trans ((g_miss (by rw [q]; rfl)).trans (g_hit (nb_e h)))
theorem lat_m {i k : Int} {x : Band} (h : s.bands[i.toNat]? = some (some x)) : decide ((Vbhlae.MOST : Int) < (((bandAt s i.toNat).map fun b => b.up.length).getD 0 : Nat) + k) = decide ((4 : Int) < (x.up.length : Int) + k) := by
  rw [band_of h]
  rfl
theorem stm_later_f {i k : Int} {x : Band} (q : (inr i 0 2 && inr k 0 3) = true) (h : s.bands[i.toNat]? = some (some x)) (m : (4 : Int) < (x.up.length : Int) + k) : step s (.later i k) = (s, [-6]) :=
  (eq_later i k).trans ((g_miss (by rw [q]; rfl)).trans ((g_miss (nb_o h)).trans (g_hit ((lat_m h).trans (decide_eq_true m)))))
theorem stm_later_o {i k : Int} {x : Band} (q : (inr i 0 2 && inr k 0 3) = true) (h : s.bands[i.toNat]? = some (some x)) (m : ¬ (4 : Int) < (x.up.length : Int) + k) : step s (.later i k) = (setBand s i.toNat (some { x with up := List.replicate k.toNat 0 ++ x.up }), [0]) := by
  refine (eq_later i k).trans ((g_miss (by rw [q]; rfl)).trans ((g_miss (nb_o h)).trans ((g_miss ((lat_m h).trans (decide_eq_false m))).trans ?_)))
  rw [g_none, band_of h]
  rfl
theorem stm_turn_b {i : Int} (q : inr i 0 2 = false) : step s (.turn i) = (s, [-1]) := (eq_turn i).trans (g_hit (by rw [q]; rfl))
theorem stm_turn_n {i : Int} (q : inr i 0 2 = true) (h : s.bands[i.toNat]? = some none) : step s (.turn i) = (s, [-3]) := (eq_turn i).trans ((g_miss (by rw [q]; rfl)).trans (g_hit (nb_e h)))
theorem stm_turn_o {i : Int} {x : Band} (q : inr i 0 2 = true) (h : s.bands[i.toNat]? = some (some x)) : step s (.turn i) = (setBand s i.toNat (some { x with up := Vbhlae.times (-1) x.up }), [0]) := by
  refine (eq_turn i).trans ((g_miss (by rw [q]; rfl)).trans ((g_miss (nb_o h)).trans ?_))
  rw [g_none, band_of h, neg_times]
  rfl
/-! ### the aid stays in bounds -/
theorem hund_in {r : List Int} {lo hi : Int} (h : rowOk r lo hi 100 = true) : ∀ x ∈ r, x.natAbs ≤ 100 := fun x hx => by
  have := rowOk_mem h x hx
  omega
theorem filt_parts {u l : List Int} (q : filtOk u l = true) : (1 ≤ u.length ∧ u.length ≤ 4 ∧ ∀ x ∈ u, x.natAbs ≤ 100) ∧ (1 ≤ l.length ∧ l.length ≤ 3 ∧ (∀ x ∈ l, x.natAbs ≤ 100) ∧ at_ l 0 ≠ 0) := by
  unfold filtOk at q
  rw [Bool.and_eq_true, Bool.and_eq_true] at q
  obtain ⟨q1, q2, q3⟩ := q
  have l1 := rowOk_len q1
  have l2 := rowOk_len q2
  exact ⟨⟨by omega, by omega, hund_in q1⟩, by omega, by omega, hund_in q2, by simpa using q3⟩
theorem set_bands (h : AidOk s) {i : Nat} {o : Option Band} (ho : ∀ b, o = some b → BandOk b) : AidOk (setBand s i o) where
  up1 := h.up1
  up4 := h.up4
  upN := h.upN
  low1 := h.low1
  low3 := h.low3
  lowN := h.lowN
  low0 := h.low0
  three := by
    show (s.bands.set i o).length = 3
    rw [List.length_set, h.three]
  bands := fun b hb => by
    rcases List.mem_or_eq_of_mem_set (show some b ∈ s.bands.set i o from hb) with e | e
    · exact h.bands b e
    · exact ho b e.symm
end
/-! ### the heap after a write -/
section
variable {K : PySem.W.Frag} {CA CB : Addr} {G H G1 H1 : Hp} {a lb : Addr} {os : List (Option Addr)} {s : Aid}
theorem AidH.la (h : AidH K CA CB G H a lb os s) : lb ≠ a := fun q => by
  obtain ⟨dx, vu, vl, h1, _⟩ := h.ia
  have h2 := h.ib
  rw [q, h1] at h2
  cases h2
theorem AidH.lbb (h : AidH K CA CB G H a lb os s) {b : Addr} (hb : some b ∈ os) : b ≠ lb := fun q => by
  obtain ⟨i, hi⟩ := List.mem_iff_getElem?.mp hb
  have hl : i < s.bands.length := by
    have := (List.getElem?_eq_some_iff.mp hi).1
    rwa [h.len] at this
  have t := h.bs i _ _ hi (List.getElem?_eq_getElem hl)
  cases q2 : s.bands[i] with
  | none =>
    rw [q2] at t
    exact t.elim
  | some x =>
    rw [q2] at t
    obtain ⟨dx, vg, vu, vl, h1, _⟩ := t
    rw [q, h.ib] at h1
    cases h1
theorem AidH.wrA {dx : Addr} {vu vl : V} {u l : List Int} (h : AidH K CA CB G H a lb os s) (g : Gh G H G1 H1) (r1 : Rp K G1 (rowD u) vu) (r2 : Rp K G1 (rowD l) vl) : AidH K CA CB G1 (upd H1 a (.ins CA dx (aidN.zip [vu, vl, .ref lb]))) a lb os { s with leakUp := u, leakLow := l } := by
  have h1 := h.step g
  exact {
    gh := same_upd h1.gh (h1.gw a (.inl rfl))
    gw := h1.gw
    ia := ⟨dx, vu, vl, upd_same, r1, r2⟩
    ib := by
      rw [upd_ne h.la]
      exact h1.ib
    na := h1.na
    uq := h1.uq
    len := h1.len
    bs := fun i o x e1 e2 => (h1.bs i o x e1 e2).step (Same.refl _) fun b e u eu => by
      subst e
      rw [upd_ne (h1.na b (List.mem_of_getElem? e1))]
      exact eu
    l3 := h1.l3 }
theorem AidH.wrB {dx b : Addr} {i : Nat} {x : Band} {vg vu vl : V} (h : AidH K CA CB G H a lb os s) (g : Gh G H G1 H1) (hb : os[i]? = some (some b)) (r0 : Rp K G1 (qqD x.gain) vg) (r1 : Rp K G1 (rowD x.up) vu) (r2 : Rp K G1 (rowD x.low) vl) :
    AidH K CA CB G1 (upd H1 b (.ins CB dx (bandN.zip [vg, vu, vl]))) a lb os (setBand s i (some x)) := by
  have h1 := h.step g
  have mb : some b ∈ os := List.mem_of_getElem? hb
  exact {
    gh := same_upd h1.gh (h1.gw b (.inr (.inr mb)))
    gw := h1.gw
    ia := by
      rw [upd_ne (Ne.symm (h1.na b mb))]
      exact h1.ia
    ib := by
      rw [upd_ne (Ne.symm (h1.lbb mb))]
      exact h1.ib
    na := h1.na
    uq := h1.uq
    len := by
      show os.length = (s.bands.set i (some x)).length
      rw [List.length_set, h1.len]
    bs := fun j o y e1 e2 => by
      have e2 : (s.bands.set i (some x))[j]? = some y := e2
      by_cases ij : i = j
      · subst ij
        rw [hb] at e1
        rw [List.getElem?_set_self (by rw [← h1.len]; exact (List.getElem?_eq_some_iff.mp hb).1)] at e2
        cases e1
        cases e2
        exact ⟨dx, vg, vu, vl, upd_same, r0, r1, r2⟩
      · rw [List.getElem?_set_ne ij] at e2
        refine (h1.bs j o y e1 e2).step (Same.refl _) fun c e u eu => ?_
        subst e
        have cb : c ≠ b := fun q => ij (h1.uq i j b hb (by rw [e1, q]))
        rw [upd_ne cb]
        exact eu
    l3 := h1.l3 }
theorem AidH.wrL {i : Nat} {o : Option Addr} {x : Option Band} (h : AidH K CA CB G H a lb os s) (g : Gh G H G1 H1) (hs : SlotH K CB G1 H1 o x) (hi : i < 3) (hn : ∀ b, o = some b → b ≠ a ∧ b ≠ lb ∧ some b ∉ os ∧ G1 b = none) :
    AidH K CA CB G1 (upd H1 lb (.lst ((os.map slot).set i (slot o)))) a lb (os.set i o) (setBand s i x) := by
  have h1 := h.step g
  have ii : i < os.length := by rw [h.l3]; exact hi
  have mem : ∀ b, some b ∈ os.set i o → some b ∈ os ∨ o = some b := fun b hb => by
    rcases List.mem_or_eq_of_mem_set hb with e | e
    · exact .inl e
    · exact .inr e.symm
  exact {
    gh := same_upd h1.gh (h1.gw lb (.inr (.inl rfl)))
    gw := fun y hy => by
      rcases hy with e | e | e
      · exact h1.gw y (.inl e)
      · exact h1.gw y (.inr (.inl e))
      · rcases mem y e with e | e
        · exact h1.gw y (.inr (.inr e))
        · exact (hn y e).2.2.2
    ia := by
      rw [upd_ne (Ne.symm h1.la)]
      exact h1.ia
    ib := by
      rw [upd_same, List.map_set]
    na := fun b hb => by
      rcases mem b hb with e | e
      · exact h1.na b e
      · exact (hn b e).1
    uq := fun j k b e1 e2 => by
      by_cases ij : i = j
      · by_cases ik : i = k
        · rw [← ij, ← ik]
        · subst ij
          rw [List.getElem?_set_self ii] at e1
          rw [List.getElem?_set_ne ik] at e2
          exact absurd (List.mem_of_getElem? e2) (hn b (Option.some.inj e1)).2.2.1
      · by_cases ik : i = k
        · subst ik
          rw [List.getElem?_set_self ii] at e2
          rw [List.getElem?_set_ne ij] at e1
          exact absurd (List.mem_of_getElem? e1) (hn b (Option.some.inj e2)).2.2.1
        · rw [List.getElem?_set_ne ij] at e1
          rw [List.getElem?_set_ne ik] at e2
          exact h1.uq j k b e1 e2
    len := by
      show (os.set i o).length = (s.bands.set i x).length
      rw [List.length_set, List.length_set, h1.len]
    bs := fun j o' y e1 e2 => by
      have e2 : (s.bands.set i x)[j]? = some y := e2
      by_cases ij : i = j
      · subst ij
        rw [List.getElem?_set_self ii] at e1
        rw [List.getElem?_set_self (by rw [← h1.len]; exact ii)] at e2
        cases e1
        cases e2
        exact hs.step (Same.refl _) fun b e u eu => by
          rw [upd_ne (hn b e).2.1]
          exact eu
      · rw [List.getElem?_set_ne ij] at e1
        rw [List.getElem?_set_ne ij] at e2
        exact (h1.bs j o' y e1 e2).step (Same.refl _) fun c e u eu => by
          subst e
          rw [upd_ne (h1.lbb (List.mem_of_getElem? e1))]
          exact eu
    l3 := by rw [List.length_set, h1.l3] }
end
end Qa

set_option Elab.async false
set_option linter.all false
set_option maxRecDepth 100000
set_option maxHeartbeats 4000000
namespace Qa
open PySem PySem.Spec PyProof.Rows L2
open Vbhlae (at_ trim common chain smaller Band Aid present Q bit listRow qRow step Call inr guarded setBand bandAt noBand)
section
variable {P : Program} {w : World} {K : PySem.W.Frag} {mg : Str → Option Value} {base : Heap} {G0 H0 G H G1 H1 : Hp} {a lb : Addr} {os : List (Option Addr)} {s : Aid} {Γ : List Ent} {ta te : TE} {d : D} {l : List D} {De : Ends}
theorem r_cond {CR : Addr} {E : XK} {pre : List D → Except Int D → Prop} {tr : TA} {ds : List D} {b : Bool} {c : Int} (ha : EvA K G0 H0 Γ tr ds) (hp : pre ds (if b = true then .ok .non else .error c)) (hE : b = false → Er CR E H0 c) (k : b = true → Run K G0 H0 Γ De.nx) :
    Run K G0 H0 Γ (tDrop (tCall (SpX K CR pre) [] E tr) De) := by
  refine r_dropX (ex_call ha hp fun c' e => ?_) fun d e => ?_
  · cases b with
    | true => cases e
    | false =>
      cases e
      exact hE rfl
  · cases b with
    | true => exact k rfl
    | false => cases e
theorem free_same {G : Hp} : Same (fun _ => none) G := fun y u e => by cases e
/-! ### the band at a number -/
def spBat (CA CR : Addr) : Sp := fun vs H Q E => ∃ (a dx lb : Addr) (vu vl : V) (os : List (Option Addr)) (k : Nat) (o : Option Addr), vs = [.ref a, .int (k : Int)] ∧ H a = some (.ins CA dx (aidN.zip [vu, vl, .ref lb])) ∧ H lb = some (.lst (os.map slot)) ∧ os[k]? = some o ∧
  (o = none → Er CR E H (-3)) ∧ (∀ b, o = some b → ∀ H', Same H H' → Q (.ref b) H')
theorem look_bs {vu vl : V} {lb : Addr} : (aidN.zip [vu, vl, .ref lb]).lookup ("bands" : Str) = some (.ref lb) := zip_look (k := 2) (j := 0) ix_bs rfl
theorem put_same (f : Str) (v x : V) (r : List (Str × V)) : putF f v ((f, x) :: r) = (f, v) :: r := if_pos rfl
theorem put_skip {f g : Str} (h : g ≠ f) (v x : V) (r : List (Str × V)) : putF f v ((g, x) :: r) = (g, x) :: putF f v r := if_neg h
theorem put_a0 (y u l b : V) : putF ("leak_upper" : Str) y (aidN.zip [u, l, b]) = aidN.zip [y, l, b] := put_same _ _ _ _
theorem put_a1 (y u l b : V) : putF ("leak_lower" : Str) y (aidN.zip [u, l, b]) = aidN.zip [u, y, b] := (put_skip (by decide) _ _ _).trans (congrArg (List.cons (("leak_upper" : Str), u)) (put_same _ _ _ _))
theorem put_b0 (y u l b : V) : putF ("gain" : Str) y (bandN.zip [u, l, b]) = bandN.zip [y, l, b] := put_same _ _ _ _
theorem put_b1 (y u l b : V) : putF ("upper" : Str) y (bandN.zip [u, l, b]) = bandN.zip [u, y, b] := (put_skip (by decide) _ _ _).trans (congrArg (List.cons (("gain" : Str), u)) (put_same _ _ _ _))
theorem look_up {vg vu vl : V} : (bandN.zip [vg, vu, vl]).lookup ("upper" : Str) = some vu := zip_look (k := 1) (j := 0) ix_u rfl
theorem sc_Aid_band_at : FnScope ["self", "i"] ["self", "i"] (defScope s_Aid_band_at) := ⟨rfl, rfl, rfl, by decide +kernel, rfl, by decide +kernel, by decide +kernel⟩
theorem ok_Aid_band_at (T : Txt K mg) : FnOk P w K mg base (L2.CX P w) 4 T.Aid_band_at.f T.Aid_band_at.fd ["self", "i"] (spBat T.CA T.CR) := by
  refine T.Aid_band_at.F.okX sc_Aid_band_at (fun vs H Q E h => ?_) (fun cdv A outer s H vs Q E hr h => ⟨_, (pss_cons (ps_expr (pe_own T.want (ok_want T) hr (pa_cons (pe_cmp (pc_notN (pe_ix (ix_listk K) (pe_fldk K (pv 0)) (pv 1) (fun _ _ => rfl))) rfl) (pa_cons (pe_gi T.c_NO_BAND) pa_nil)) (px rfl rfl rfl rfl)))
      (pss_one (ps_ret (pe_ix (ix_listk K) (pe_fldk K (pv 0)) (pv 1) (fun _ _ => rfl))))), ?_⟩)
  · obtain ⟨a, dx, lb, vu, vl, os, k, o, rfl, _⟩ := h
    rfl
  · obtain ⟨a, dx, lb, vu, vl, os, k, o, rfl, ha, hlb, ho, kE, kk⟩ := h
    refine Run.goX (K := K) (G := fun _ => none) (ds := [.int (k : Int)]) (vs := [.int (k : Int)]) (x := .ref a) 0 free_same (rpl_ints [(k : Int)]) rfl ?_
    have hs : (os.map slot)[k]? = some (slot o) := by rw [List.getElem?_map, ho]; rfl
    have rd : EvV K (fun _ => none) H [.ex (.ref a), .fz (.int (k : Int))] (tOp (rIxL K) (tFld K (tVar 0) "bands") (tVar 1)) (slot o) := vv_ix (vv_fld (vv_var rfl) ha T.cl_CA T.n_bands look_bs) hlb (ev_var rfl) rfl hs
    with_reducible refine r_seq ?_
    refine r_want T (vv_notN rd) ev_int (fun q => kE ?_) fun q => ?_
    · cases o with
      | none => rfl
      | some b => cases q
    · cases o with
      | none => cases q
      | some b => exact r_retV rd fun G H g => kk b rfl H g.hh
theorem no_batz {vs : List V} : (aidN.zip vs).lookup ("band_at" : Str) = none := zip_none no_bat
/-- the call, by an aid on the heap -/
theorem vv_band (T : Txt K mg) {tb : TE} {E : XK} {k : Nat} {b : Addr} (h : AidH K T.CA T.CB G0 H0 a lb os s) (ha : EvV K G0 H0 Γ ta (.ref a)) (hb : Evd K G0 H0 Γ tb (.int (k : Int))) (ho : os[k]? = some (some b)) : EvV K G0 H0 Γ (tMeth T.CA "band_at" (spBat T.CA T.CR) [] E ta (tCons tb tNil)) (.ref b) := fun σ G H s Q q =>
  ha σ G H s _ fun G1 H1 g1 => by
    obtain ⟨dx, vu, vl, h1, _⟩ := h.ia
    refine ⟨a, dx, _, rfl, (s.step g1).gh.hh _ _ h1, no_batz, hb σ G1 H1 (s.step g1) _ fun v G2 H2 g2 r2 => ?_⟩
    have s2 := (s.step g1).step g2
    have r2 : v = .int (k : Int) := r2
    subst r2
    exact ⟨a, dx, lb, vu, vl, os, k, some b, rfl, s2.gh.hh _ _ h1, s2.gh.hh _ _ h.ib, ho, (fun z => by cases z), fun b' e H' sm => by
      cases e
      exact q G2 H' ((g1.trans g2).trans ⟨Same.refl _, sm, s2.gh.gh.trans sm, fun _ _ z => z⟩)⟩
theorem dead_band (T : Txt K mg) {tb : TE} {E : XK} {k : Nat} (h : AidH K T.CA T.CB G0 H0 a lb os s) (ha : EvV K G0 H0 Γ ta (.ref a)) (hb : Evd K G0 H0 Γ tb (.int (k : Int))) (ho : os[k]? = some none) (hE : Er T.CR E H0 (-3)) : Dead K G0 H0 Γ (tMeth T.CA "band_at" (spBat T.CA T.CR) [] E ta (tCons tb tNil)) := fun σ G H s Q =>
  ha σ G H s _ fun G1 H1 g1 => by
    obtain ⟨dx, vu, vl, h1, _⟩ := h.ia
    refine ⟨a, dx, _, rfl, (s.step g1).gh.hh _ _ h1, no_batz, hb σ G1 H1 (s.step g1) _ fun v G2 H2 g2 r2 => ?_⟩
    have s2 := (s.step g1).step g2
    have r2 : v = .int (k : Int) := r2
    subst r2
    exact ⟨a, dx, lb, vu, vl, os, k, none, rfl, s2.gh.hh _ _ h1, s2.gh.hh _ _ h.ib, ho, fun _ => hE.later s2.gh.hh, fun b e => nomatch e⟩
/-! ### wishes -/
def preWn : List D → Except Int D → Prop := fun ds r => ∃ n : Int, ds = [.int n] ∧ r = if inr n 0 2 = true then .ok .non else .error (-1)
theorem sc_want_number : FnScope ["i"] ["i"] (defScope s_want_number) := ⟨rfl, rfl, rfl, by decide +kernel, rfl, by decide +kernel, by decide +kernel⟩
theorem ok_want_number (T : Txt K mg) : FnOk P w K mg base (L2.CX P w) 5 T.want_number.f T.want_number.fd ["i"] (SpX K T.CR preWn) := by
  refine T.want_number.F.okX sc_want_number (fun vs H Q E h => ?_) (fun cdv A outer s H vs Q E hr h => ⟨_, (pss_one (ps_expr (pe_own T.want_within (ok_want_within T) hr (pa_cons (pv 0) (pa_cons pe_int (pa_cons (pe_op op_sub (pe_gi T.c_MOST_BANDS) pe_int) pa_nil))) (px rfl rfl rfl rfl)))), ?_⟩)
  · exact spx_len (fun ds d ⟨a, q, _⟩ => by rw [q] <;> rfl) h
  · obtain ⟨G, ds, r, hG, hR, ⟨n, rfl, rfl⟩, k, kE⟩ := h
    refine Run.go (G := G) 0 hG hR rfl ?_
    refine r_within (hi := 2) T (ev_var rfl) ev_int (Evd.cast (ev_sub ev_int ev_int) rfl) (fun hb => kE _ (if_neg (by rw [hb]; exact Bool.false_ne_true))) fun hb => ?_
    intro σ G1 H1 s1
    exact k .non (if_pos hb) .non G1 H1 s1.gh rfl
def preWg : List D → Except Int D → Prop := fun ds r => ∃ n m : Int, ds = [.int n, .int m] ∧ r = if gainB n m = true then .ok .non else .error (-1)
theorem sc_want_gain : FnScope ["n", "d"] ["n", "d"] (defScope s_want_gain) := ⟨rfl, rfl, rfl, by decide +kernel, rfl, by decide +kernel, by decide +kernel⟩
theorem ok_want_gain (T : Txt K mg) : FnOk P w K mg base (L2.CX P w) 5 T.want_gain.f T.want_gain.fd ["n", "d"] (SpX K T.CR preWg) := by
  refine T.want_gain.F.okX sc_want_gain (fun vs H Q E h => ?_) (fun cdv A outer s H vs Q E hr h => ⟨_, (pss_cons (ps_expr (pe_own T.want_within (ok_want_within T) hr (pa_cons (pv 0) (pa_cons (pe_un un_neg (pe_gi T.c_MOST_GAIN)) (pa_cons (pe_gi T.c_MOST_GAIN) pa_nil))) (px rfl rfl rfl rfl)))
      (pss_one (ps_expr (pe_own T.want_within (ok_want_within T) hr (pa_cons (pv 1) (pa_cons pe_int (pa_cons (pe_gi T.c_MOST_GAIN) pa_nil))) (px rfl rfl rfl rfl))))), ?_⟩)
  · exact spx_len (fun ds d ⟨a, b, q, _⟩ => by rw [q] <;> rfl) h
  · obtain ⟨G, ds, r, hG, hR, ⟨n, m, rfl, rfl⟩, k, kE⟩ := h
    refine Run.go (G := G) 0 hG hR rfl ?_
    have bad : gainB n m = false → Er T.CR E H (-1) := fun hb => kE _ (if_neg (by rw [hb]; exact Bool.false_ne_true))
    with_reducible refine r_seq ?_
    refine r_within T (ev_var rfl) (ev_neg ev_int) ev_int (fun hb => bad (by unfold gainB; rw [hb]; rfl)) fun q1 => ?_
    refine r_within T (ev_var rfl) ev_int ev_int (fun hb => bad (by unfold gainB; rw [q1, hb]; rfl)) fun q2 => ?_
    intro σ G1 H1 s1
    exact k .non (if_pos (by unfold gainB; rw [q1, q2]; rfl)) .non G1 H1 s1.gh rfl
/-! ### what changes the aid -/
def SpM (K : PySem.W.Frag) (CA CB CR : Addr) (pre : List D → Aid → Aid × List Int → Prop) : Sp := fun vs H Q E => ∃ (G : Hp) (a lb : Addr) (os : List (Option Addr)) (s : Aid) (ws : List V) (ds : List D) (r : Aid × List Int), vs = .ref a :: ws ∧ AidH K CA CB G H a lb os s ∧ RpL K G ds ws ∧ pre ds s r ∧
  (∀ l, toX r.2 = .ok (rowD l) → ∀ v G' H' os', AidH K CA CB G' H' a lb os' r.1 → Mv (Wa a lb os) G H G' H' → (∀ b, some b ∈ os' → some b ∈ os ∨ H b = none) → Rp K G' (rowD l) v → Q v H') ∧
  (∀ c, toX r.2 = .error c → Er CR E H c)
theorem spm_len {CA CB CR : Addr} {n : Nat} {pre : List D → Aid → Aid × List Int → Prop} {vs : List V} {H : Hp} {Q : VK} {E : XK} (hp : ∀ ds s r, pre ds s r → ds.length = n) (h : SpM K CA CB CR pre vs H Q E) : vs.length = n + 1 := by
  obtain ⟨G, a, lb, os, s, ws, ds, r, e, _, hR, hpre, _⟩ := h
  rw [e, List.length_cons, hR.len, hp _ _ _ hpre]
theorem M_e {r : Aid × List Int} {c : Int} (e : r = (s, [c])) (hc : c ≠ 0) : toX r.2 = .error c := by
  rw [e]
  exact toX_e hc
def preLeak : List D → Aid → Aid × List Int → Prop := fun ds s r => ∃ u l : List Int, u.length ≤ 1000000 ∧ l.length ≤ 1000000 ∧ ds = [rowD u, rowD l] ∧ r = step s (.leak u l)
theorem sc_leak : FnScope ["aid", "upper", "lower"] ["aid", "upper", "lower"] (defScope s_leak) := ⟨rfl, rfl, rfl, by decide +kernel, rfl, by decide +kernel, by decide +kernel⟩
theorem ok_leak (T : Txt K mg) : FnOk P w K mg base (L2.CX P w) 6 T.leak.f T.leak.fd ["aid", "upper", "lower"] (SpM K T.CA T.CB T.CR preLeak) := by
  refine T.leak.F.okX sc_leak (fun vs H Q E h => ?_) (fun cdv A outer s H vs Q E hr h => ⟨_, (pss_cons (ps_expr (pe_own T.want_filter (ok_want_filter T) hr (pa_cons (pv 1) (pa_cons (pv 2) pa_nil)) (px rfl rfl rfl rfl)))
      (pss_cons (ps_fld (pv 0) (pe_callTy (call_listk K) rfl T.b_list (by decide +kernel) (pa_cons (pv 1) pa_nil)) rfl)
      (pss_cons (ps_fld (pv 0) (pe_callTy (call_listk K) rfl T.b_list (by decide +kernel) (pa_cons (pv 2) pa_nil)) rfl)
      (pss_one (ps_ret (pe_lst pa_nil)))))), ?_⟩)
  · exact spm_len (fun ds s r ⟨a, b, _, _, q, _⟩ => by rw [q] <;> rfl) h
  · obtain ⟨G, a, lb, os, s, ws, ds, r, rfl, A, hR, ⟨u, l, h1, h2, rfl, rfl⟩, k, kE⟩ := h
    refine Run.goX (K := K) (G := G) 0 A.gh hR rfl ?_
    with_reducible refine r_seq ?_
    refine r_wfil T h1 h2 (ev_var rfl) (ev_var rfl) (fun q => kE _ (M_e (stm_leak_b q) (by decide))) fun q => ?_
    obtain ⟨dx, vu, vl, i1, i2, i3⟩ := A.ia
    have wa : Wa a lb os a := .inl rfl
    with_reducible refine r_seq ?_
    refine r_fldW (d := rowD u) rfl (vv_var rfl) (en_listL (ev_var rfl)).dd i1 (A.gw a wa) T.cl_CA T.n_leak_upper (show (3 : Nat) < 1000 by decide) fun yu G1 H1 g1 r1 gx1 hx1 => ?_
    rw [put_a0]
    have A1 := A.wrA (dx := dx) g1 r1 (Rp.mono g1.gg _ _ i3)
    have m1 : Mv (Wa a lb os) G H G1 (upd H1 a (.ins T.CA dx (aidN.zip [yu, vl, .ref lb]))) := g1.mv.trans (Mv.wr g1.gh gx1 wa)
    with_reducible refine r_seq ?_
    refine r_fldW (d := rowD l) rfl (vv_var rfl) (en_listL (ev_var rfl)).dd upd_same gx1 T.cl_CA T.n_leak_lower (show (3 : Nat) < 1000 by decide) fun yl G2 H2 g2 r2 gx2 hx2 => ?_
    rw [put_a1]
    have A2 := A1.wrA (dx := dx) g2 (Rp.mono g2.gg _ _ r1) r2
    have m2 : Mv (Wa a lb os) G H G2 (upd H2 a (.ins T.CA dx (aidN.zip [yu, yl, .ref lb]))) := (m1.trans g2.mv).trans (Mv.wr g2.gh gx2 wa)
    refine r_ret (en_lst ea_nil (Nat.zero_le _)).dd fun v G3 H3 g3 r3 => ?_
    have e := stm_leak_o (s := s) q
    exact k [] (by rw [e]; rfl) v G3 H3 os (by rw [e]; exact A2.step g3) (m2.trans g3.mv) (fun b hb => .inl hb) r3
def preTurn : List D → Aid → Aid × List Int → Prop := fun ds s r => ∃ i : Int, AidOk s ∧ ds = [.int i] ∧ r = step s (.turn i)
theorem in3 {i : Int} (h : inr i 0 2 = true) : ((i.toNat : Nat) : Int) = i ∧ i.toNat < 3 := by
  have := (inr_iff _ _ _).mp h
  omega
theorem AidH.at3 {CA CB : Addr} (A : AidH K CA CB G H a lb os s) {i : Nat} (h : i < 3) : ∃ o x, os[i]? = some o ∧ s.bands[i]? = some x ∧ SlotH K CB G H o x := by
  have h1 : i < os.length := by rw [A.l3]; exact h
  have h2 : i < s.bands.length := by rw [← A.len]; exact h1
  exact ⟨_, _, List.getElem?_eq_getElem h1, List.getElem?_eq_getElem h2, A.bs i _ _ (List.getElem?_eq_getElem h1) (List.getElem?_eq_getElem h2)⟩
theorem sc_turn : FnScope ["aid", "i", "band"] ["aid", "i"] (defScope s_turn) := ⟨rfl, rfl, rfl, by decide +kernel, rfl, by decide +kernel, by decide +kernel⟩
theorem ok_turn (T : Txt K mg) : FnOk P w K mg base (L2.CX P w) 6 T.turn.f T.turn.fd ["aid", "i"] (SpM K T.CA T.CB T.CR preTurn) := by
  refine T.turn.F.okX sc_turn (fun vs H Q E h => ?_) (fun cdv A outer s H vs Q E hr h => ⟨_, (pss_cons (ps_expr (pe_own T.want_number (ok_want_number T) hr (pa_cons (pv 1) pa_nil) (px rfl rfl rfl rfl)))
      (pss_cons (ps_set (i := 2) sc_turn.nd rfl (by first | exact Or.inl rfl | exact Or.inr rfl) (pe_meth (pv 0) T.cl_CA T.Aid_band_at.m (ok_Aid_band_at T) (hr.mono (by decide)) T.Aid_band_at.b .nil (px rfl rfl rfl rfl) (pa_cons (pv 1) pa_nil)))
      (pss_cons (ps_fld (pv 2) (pe_own T.scaled (ok_scaled T) hr (pa_cons (pe_fldk K (pv 2)) (pa_cons (pe_un un_neg pe_int) pa_nil)) pass0) rfl)
      (pss_one (ps_ret (pe_lst pa_nil)))))), ?_⟩)
  · exact spm_len (fun ds s r ⟨a, _, q, _⟩ => by rw [q] <;> rfl) h
  · obtain ⟨G, a, lb, os, s, ws, ds, r, rfl, A, hR, ⟨i, hs, rfl, rfl⟩, k, kE⟩ := h
    refine Run.goX (K := K) (G := G) 1 A.gh hR rfl ?_
    with_reducible refine r_seq ?_
    refine r_cond (b := inr i 0 2) (ea_1 (ev_var rfl)) ⟨i, rfl, rfl⟩ (fun q => kE _ (M_e (stm_turn_b q) (by decide))) fun q => ?_
    obtain ⟨ei, i3⟩ := in3 q
    obtain ⟨o, x, ho, hx, hsl⟩ := A.at3 i3
    with_reducible refine r_seq ?_
    cases o with
    | none =>
      cases x with
      | some x => exact hsl.elim
      | none => exact r_dead_asg (dead_band T A (vv_var rfl) (Evd.cast (ev_var rfl) (congrArg D.int ei.symm)) ho (kE _ (M_e (stm_turn_n q hx) (by decide))))
    | some b =>
      cases x with
      | none => exact hsl.elim
      | some x =>
        obtain ⟨dx, vg, vu, vl, b1, b2, b3, b4⟩ := hsl
        have bo := hs.bands x (List.mem_of_getElem? hx)
        have wb : Wa a lb os b := .inr (.inr (List.mem_of_getElem? ho))
        refine r_asgV (vv_band T A (vv_var rfl) (Evd.cast (ev_var rfl) (congrArg D.int ei.symm)) ho) ?_
        have bl4 := bo.up4
        with_reducible refine r_seq ?_
        refine r_fldW (d := rowD (Vbhlae.times (-1) x.up)) rfl (vv_var rfl) (en_call (ea_2 ((vv_fld (vv_var rfl) b1 T.cl_CB T.n_upper look_up).dd b3) (ev_neg ev_int)) ⟨x.up, -1, by omega, hundL bo.upN, sm_neg1, rfl, rfl⟩).dd b1 (A.gw b wb) T.cl_CB T.n_upper (show (3 : Nat) < 1000 by decide) fun y G1 H1 g1 r1 gx1 hx1 => ?_
        rw [put_b1]
        have A1 := A.wrB (x := { x with up := Vbhlae.times (-1) x.up }) (dx := dx) g1 ho (Rp.mono g1.gg _ _ b2) r1 (Rp.mono g1.gg _ _ b4)
        have m1 : Mv (Wa a lb os) G H G1 (upd H1 b (.ins T.CB dx (bandN.zip [vg, y, vl]))) := g1.mv.trans (Mv.wr g1.gh gx1 wb)
        refine r_ret (en_lst ea_nil (Nat.zero_le _)).dd fun v G3 H3 g3 r3 => ?_
        have e := stm_turn_o (s := s) q hx
        exact k [] (by rw [e]; rfl) v G3 H3 os (by rw [e]; exact A1.step g3) (m1.trans g3.mv) (fun b hb => .inl hb) r3
def preMute : List D → Aid → Aid × List Int → Prop := fun ds s r => ∃ i : Int, ds = [.int i] ∧ r = step s (.mute i)
theorem sc_mute : FnScope ["aid", "i"] ["aid", "i"] (defScope s_mute) := ⟨rfl, rfl, rfl, by decide +kernel, rfl, by decide +kernel, by decide +kernel⟩
theorem ok_mute (T : Txt K mg) : FnOk P w K mg base (L2.CX P w) 6 T.mute.f T.mute.fd ["aid", "i"] (SpM K T.CA T.CB T.CR preMute) := by
  refine T.mute.F.okX sc_mute (fun vs H Q E h => ?_) (fun cdv A outer s H vs Q E hr h => ⟨_, (pss_cons (ps_expr (pe_own T.want_number (ok_want_number T) hr (pa_cons (pv 1) pa_nil) (px rfl rfl rfl rfl)))
      (pss_cons (ps_expr (pe_meth (pv 0) T.cl_CA T.Aid_band_at.m (ok_Aid_band_at T) (hr.mono (by decide)) T.Aid_band_at.b .nil (px rfl rfl rfl rfl) (pa_cons (pv 1) pa_nil)))
      (pss_cons (ps_asg pe_non (pg_sub (pe_fldk K (pv 0)) (pv 1) set_list))
      (pss_one (ps_ret (pe_lst pa_nil)))))), ?_⟩)
  · exact spm_len (fun ds s r ⟨a, q, _⟩ => by rw [q] <;> rfl) h
  · obtain ⟨G, a, lb, os, s, ws, ds, r, rfl, A, hR, ⟨i, rfl, rfl⟩, k, kE⟩ := h
    refine Run.goX (K := K) (G := G) 0 A.gh hR rfl ?_
    with_reducible refine r_seq ?_
    refine r_cond (b := inr i 0 2) (ea_1 (ev_var rfl)) ⟨i, rfl, rfl⟩ (fun q => kE _ (M_e (stm_mute_b q) (by decide))) fun q => ?_
    obtain ⟨ei, i3⟩ := in3 q
    obtain ⟨o, x, ho, hx, hsl⟩ := A.at3 i3
    with_reducible refine r_seq ?_
    cases o with
    | none =>
      cases x with
      | some x => exact hsl.elim
      | none => exact fun σ G1 H1 s1 => dead_band T A (vv_var rfl) (Evd.cast (ev_var rfl) (congrArg D.int ei.symm)) ho (kE _ (M_e (stm_mute_n q hx) (by decide))) σ G1 H1 s1 _
    | some b =>
      cases x with
      | none => exact hsl.elim
      | some x =>
        refine r_dropV (vv_band T A (vv_var rfl) (Evd.cast (ev_var rfl) (congrArg D.int ei.symm)) ho) ?_
        have wl : Wa a lb os lb := .inr (.inl rfl)
        obtain ⟨dx, vu, vl, i1, i2⟩ := A.ia
        with_reducible refine r_seq ?_
        refine r_setW (v := .non) rfl (fun σ G1 H1 s1 Q q => q G1 H1 (Gh.refl s1.gh.gh)) (vv_fld (vv_var rfl) i1 T.cl_CA T.n_bands look_bs) (ev_var rfl) A.ib (A.gw lb wl) ei.symm (by rw [List.length_map, A.l3]; exact i3) fun G1 H1 g1 gx1 hx1 => ?_
        have A1 := A.wrL (o := none) (x := none) g1 trivial i3 (fun b e => nomatch e)
        have m1 : Mv (Wa a lb os) G H G1 (upd H1 lb (.lst ((os.map slot).set i.toNat (slot none)))) := g1.mv.trans (Mv.wr g1.gh gx1 wl)
        refine r_ret (en_lst ea_nil (Nat.zero_le _)).dd fun v G3 H3 g3 r3 => ?_
        have e := stm_mute_o (s := s) q hx
        refine k [] (by rw [e]; rfl) v G3 H3 (os.set i.toNat none) (by rw [e]; exact A1.step g3) (m1.trans g3.mv) (fun b hb => .inl ?_) r3
        rcases List.mem_or_eq_of_mem_set hb with z | z
        · exact z
        · cases z
theorem gain_parts {n m : Int} (h : gainB n m = true) : -1000 ≤ n ∧ n ≤ 1000 ∧ 1 ≤ m ∧ m ≤ 1000 := by
  unfold gainB at h
  rw [Bool.and_eq_true, inr_iff, inr_iff] at h
  omega
theorem qq_frac {n m : Int} (h : gainB n m = true) : qqD (Vbhlae.frac n m.toNat) = qD ((n : Rat) / (m : Rat)) := by
  rw [frac_pos (gain_parts h).2.2.1]
  rfl
def preGain : List D → Aid → Aid × List Int → Prop := fun ds s r => ∃ i n m : Int, ds = [.int i, .int n, .int m] ∧ r = step s (.gain i n m)
theorem sc_put_gain : FnScope ["aid", "i", "n", "d", "band"] ["aid", "i", "n", "d"] (defScope s_put_gain) := ⟨rfl, rfl, rfl, by decide +kernel, rfl, by decide +kernel, by decide +kernel⟩
theorem ok_put_gain (T : Txt K mg) (S : SeerB P base) : FnOk P w K mg base (L2.CX P w) 41 T.put_gain.f T.put_gain.fd ["aid", "i", "n", "d"] (SpM K T.CA T.CB T.CR preGain) := by
  refine T.put_gain.F.okX sc_put_gain (fun vs H Q E h => ?_) (fun cdv A outer s H vs Q E hr h => ⟨_, (pss_cons (ps_expr (pe_own T.want_number (ok_want_number T) hr (pa_cons (pv 1) pa_nil) (px rfl rfl rfl rfl)))
      (pss_cons (ps_expr (pe_own T.want_gain (ok_want_gain T) hr (pa_cons (pv 2) (pa_cons (pv 3) pa_nil)) (px rfl rfl rfl rfl)))
      (pss_cons (ps_set (i := 4) sc_put_gain.nd rfl (by first | exact Or.inl rfl | exact Or.inr rfl) (pe_meth (pv 0) T.cl_CA T.Aid_band_at.m (ok_Aid_band_at T) (hr.mono (by decide)) T.Aid_band_at.b .nil (px rfl rfl rfl rfl) (pa_cons (pv 1) pa_nil)))
      (pss_cons (ps_fld (pv 4) (pe_own T.fraction (ok_fraction T S) hr (pa_cons (pv 2) (pa_cons (pv 3) pa_nil)) pass0) rfl)
      (pss_one (ps_ret (pe_lst pa_nil))))))), ?_⟩)
  · exact spm_len (fun ds s r ⟨a, _, _, q, _⟩ => by rw [q] <;> rfl) h
  · obtain ⟨G, a, lb, os, s, ws, ds, r, rfl, A, hR, ⟨i, n, m, rfl, rfl⟩, k, kE⟩ := h
    refine Run.goX (K := K) (G := G) 1 A.gh hR rfl ?_
    with_reducible refine r_seq ?_
    refine r_cond (b := inr i 0 2) (ea_1 (ev_var rfl)) ⟨i, rfl, rfl⟩ (fun q => kE _ (M_e (stm_gain_b (by rw [q]; rfl)) (by decide))) fun q1 => ?_
    with_reducible refine r_seq ?_
    refine r_cond (b := gainB n m) (ea_2 (ev_var rfl) (ev_var rfl)) ⟨n, m, rfl, rfl⟩ (fun q => kE _ (M_e (stm_gain_b (by rw [q1, q]; rfl)) (by decide))) fun q2 => ?_
    have q : (inr i 0 2 && gainB n m) = true := by rw [q1, q2]; rfl
    obtain ⟨ei, i3⟩ := in3 q1
    obtain ⟨o, x, ho, hx, hsl⟩ := A.at3 i3
    have gp := gain_parts q2
    with_reducible refine r_seq ?_
    cases o with
    | none =>
      cases x with
      | some x => exact hsl.elim
      | none => exact r_dead_asg (dead_band T A (vv_var rfl) (Evd.cast (ev_var rfl) (congrArg D.int ei.symm)) ho (kE _ (M_e (stm_gain_n q hx) (by decide))))
    | some b =>
      cases x with
      | none => exact hsl.elim
      | some x =>
        obtain ⟨dx, vg, vu, vl, b1, b2, b3, b4⟩ := hsl
        have wb : Wa a lb os b := .inr (.inr (List.mem_of_getElem? ho))
        refine r_asgV (vv_band T A (vv_var rfl) (Evd.cast (ev_var rfl) (congrArg D.int ei.symm)) ho) ?_
        with_reducible refine r_seq ?_
        refine r_fldW (d := qqD (Vbhlae.frac n m.toNat)) rfl (vv_var rfl) (Evd.cast (ev_call (ea_2 (ev_var rfl) (ev_var rfl)) ⟨n, m, by omega, rfl, rfl⟩) (qq_frac q2).symm) b1 (A.gw b wb) T.cl_CB T.n_gain (show (3 : Nat) < 1000 by decide) fun y G1 H1 g1 r1 gx1 hx1 => ?_
        rw [put_b0]
        have A1 := A.wrB (x := { x with gain := Vbhlae.frac n m.toNat }) (dx := dx) g1 ho r1 (Rp.mono g1.gg _ _ b3) (Rp.mono g1.gg _ _ b4)
        have m1 : Mv (Wa a lb os) G H G1 (upd H1 b (.ins T.CB dx (bandN.zip [y, vu, vl]))) := g1.mv.trans (Mv.wr g1.gh gx1 wb)
        refine r_ret (en_lst ea_nil (Nat.zero_le _)).dd fun v G3 H3 g3 r3 => ?_
        have e := stm_gain_o (s := s) q hx
        exact k [] (by rw [e]; rfl) v G3 H3 os (by rw [e]; exact A1.step g3) (m1.trans g3.mv) (fun b hb => .inl hb) r3
def preLater : List D → Aid → Aid × List Int → Prop := fun ds s r => ∃ i k : Int, AidOk s ∧ ds = [.int i, .int k] ∧ r = step s (.later i k)
theorem map_rep (n : Nat) : List.replicate n (D.int 0) = (List.replicate n (0 : Int)).map D.int := by rw [List.map_replicate]
theorem sc_later : FnScope ["aid", "i", "k", "band"] ["aid", "i", "k"] (defScope s_later) := ⟨rfl, rfl, rfl, by decide +kernel, rfl, by decide +kernel, by decide +kernel⟩
theorem ok_later (T : Txt K mg) : FnOk P w K mg base (L2.CX P w) 6 T.later.f T.later.fd ["aid", "i", "k"] (SpM K T.CA T.CB T.CR preLater) := by
  refine T.later.F.okX sc_later (fun vs H Q E h => ?_) (fun cdv A outer s H vs Q E hr h => ⟨_, (pss_cons (ps_expr (pe_own T.want_number (ok_want_number T) hr (pa_cons (pv 1) pa_nil) (px rfl rfl rfl rfl)))
      (pss_cons (ps_expr (pe_own T.want_within (ok_want_within T) hr (pa_cons (pv 2) (pa_cons pe_int (pa_cons (pe_gi T.c_MOST_LATER) pa_nil))) (px rfl rfl rfl rfl)))
      (pss_cons (ps_set (i := 3) sc_later.nd rfl (by first | exact Or.inl rfl | exact Or.inr rfl) (pe_meth (pv 0) T.cl_CA T.Aid_band_at.m (ok_Aid_band_at T) (hr.mono (by decide)) T.Aid_band_at.b .nil (px rfl rfl rfl rfl) (pa_cons (pv 1) pa_nil)))
      (pss_cons (ps_expr (pe_own T.want (ok_want T) hr (pa_cons (pe_cmpR op_le (pe_op op_add (pe_callB (call_lenk K) rfl T.b_len PySem.boot_len (pa_cons (pe_fldk K (pv 3)) pa_nil)) (pv 2)) (pe_gi T.c_MOST_UPPER) (nomark _)) (pa_cons (pe_gi T.c_MISFIT) pa_nil)) (px rfl rfl rfl rfl)))
      (pss_cons (ps_fld (pv 3) (pe_op op_cat (pe_op op_rep (pe_lst (pa_cons pe_int pa_nil)) (pv 2)) (pe_fldk K (pv 3))) rfl)
      (pss_one (ps_ret (pe_lst pa_nil)))))))), ?_⟩)
  · exact spm_len (fun ds s r ⟨a, _, _, q, _⟩ => by rw [q] <;> rfl) h
  · obtain ⟨G, a, lb, os, s, ws, ds, r, rfl, A, hR, ⟨i, n, hs, rfl, rfl⟩, k, kE⟩ := h
    refine Run.goX (K := K) (G := G) 1 A.gh hR rfl ?_
    with_reducible refine r_seq ?_
    refine r_cond (b := inr i 0 2) (ea_1 (ev_var rfl)) ⟨i, rfl, rfl⟩ (fun q => kE _ (M_e (stm_later_b (by rw [q]; rfl)) (by decide))) fun q1 => ?_
    with_reducible refine r_seq ?_
    refine r_within T (ev_var rfl) ev_int ev_int (fun q => kE _ (M_e (stm_later_b (by rw [q1, q]; rfl)) (by decide))) fun q2 => ?_
    have q : (inr i 0 2 && inr n 0 3) = true := by rw [q1, q2]; rfl
    obtain ⟨ei, i3⟩ := in3 q1
    obtain ⟨o, x, ho, hx, hsl⟩ := A.at3 i3
    have np := (inr_iff _ _ _).mp q2
    with_reducible refine r_seq ?_
    cases o with
    | none =>
      cases x with
      | some x => exact hsl.elim
      | none => exact r_dead_asg (dead_band T A (vv_var rfl) (Evd.cast (ev_var rfl) (congrArg D.int ei.symm)) ho (kE _ (M_e (stm_later_n q hx) (by decide))))
    | some b =>
      cases x with
      | none => exact hsl.elim
      | some x =>
        obtain ⟨dx, vg, vu, vl, b1, b2, b3, b4⟩ := hsl
        have bo := hs.bands x (List.mem_of_getElem? hx)
        have wb : Wa a lb os b := .inr (.inr (List.mem_of_getElem? ho))
        have bl4 := bo.up4
        refine r_asgV (vv_band T A (vv_var rfl) (Evd.cast (ev_var rfl) (congrArg D.int ei.symm)) ho) ?_
        with_reducible refine r_seq ?_
        refine r_want T (ev_le (ev_add (ev_len ((vv_fld (vv_var rfl) b1 T.cl_CB T.n_upper look_up).dd b3)) (ev_var rfl)) ev_int) ev_int (fun q3 => ?_) fun q3 => ?_
        · rw [List.length_map] at q3
          have := of_decide_eq_false q3
          exact kE _ (M_e (stm_later_f q hx (by omega)) (by decide))
        rw [List.length_map] at q3
        have q3 := of_decide_eq_true q3
        with_reducible refine r_seq ?_
        have nb1 : -(2 ^ 62) < n := by omega
        have nb2 : n ≤ (sizeLine : Int) := by
          have : (3 : Int) ≤ (sizeLine : Int) := by decide
          omega
        refine r_fldW (d := rowD (List.replicate n.toNat 0 ++ x.up)) rfl (vv_var rfl) (EvN.dd (EvN.cast (en_cat (en_rep (en_lst (ea_1 ev_int) (show (1 : Nat) ≤ sizeLine by decide)).dd (ev_var rfl) nb1 nb2).dd ((vv_fld (vv_var rfl) b1 T.cl_CB T.n_upper look_up).dd b3) ?_) ?_)) b1 (A.gw b wb) T.cl_CB T.n_upper (show (3 : Nat) < 1000 by decide) fun y G1 H1 g1 r1 gx1 hx1 => ?_
        · rw [List.length_replicate, List.length_map]
          exact sl_of (by omega)
        · rw [map_rep, ← List.map_append]
        rw [put_b1]
        have A1 := A.wrB (x := { x with up := List.replicate n.toNat 0 ++ x.up }) (dx := dx) g1 ho (Rp.mono g1.gg _ _ b2) r1 (Rp.mono g1.gg _ _ b4)
        have m1 : Mv (Wa a lb os) G H G1 (upd H1 b (.ins T.CB dx (bandN.zip [vg, y, vl]))) := g1.mv.trans (Mv.wr g1.gh gx1 wb)
        refine r_ret (en_lst ea_nil (Nat.zero_le _)).dd fun v G3 H3 g3 r3 => ?_
        have e := stm_later_o (s := s) q hx (by omega)
        exact k [] (by rw [e]; rfl) v G3 H3 os (by rw [e]; exact A1.step g3) (m1.trans g3.mv) (fun b hb => .inl hb) r3
theorem pt_make {C : Addr} {sp : Sp} {E : XK} {tr : TA} {ds : List D} {σ : L2.St} {Q : VK} (ha : EvA K G0 H0 Γ tr ds) (s : Stt K G0 H0 Γ σ G1 H1)
    (k : ∀ vs G2 H2, Gh G1 H1 G2 H2 → RpL K G2 ds vs → ∀ x dx, H2 x = none → H2 dx = none → dx ≠ x → sp (.ref x :: (vs ++ [])) (upd (upd H2 dx (.own x)) x (.ins C dx [])) (fun v H3 => v = .non ∧ Q (.ref x) H3) E) : tMake C sp [] E tr σ H1 Q := ha σ G1 H1 s _ k
def preBand : List D → Aid → Aid × List Int → Prop := fun ds s r => ∃ (i n m : Int) (u l : List Int), u.length ≤ 1000000 ∧ l.length ≤ 1000000 ∧ ds = [.int i, .int n, .int m, rowD u, rowD l] ∧ r = step s (.band i n m u l)
theorem sc_put_band : FnScope ["aid", "i", "n", "d", "upper", "lower"] ["aid", "i", "n", "d", "upper", "lower"] (defScope s_put_band) := ⟨rfl, rfl, rfl, by decide +kernel, rfl, by decide +kernel, by decide +kernel⟩
theorem ok_put_band (T : Txt K mg) (S : SeerB P base) : FnOk P w K mg base (L2.CX P w) 41 T.put_band.f T.put_band.fd ["aid", "i", "n", "d", "upper", "lower"] (SpM K T.CA T.CB T.CR preBand) := by
  refine T.put_band.F.okX sc_put_band (fun vs H Q E h => ?_) (fun cdv A outer s H vs Q E hr h => ⟨_, (pss_cons (ps_expr (pe_own T.want_number (ok_want_number T) hr (pa_cons (pv 1) pa_nil) (px rfl rfl rfl rfl)))
      (pss_cons (ps_expr (pe_own T.want_gain (ok_want_gain T) hr (pa_cons (pv 2) (pa_cons (pv 3) pa_nil)) (px rfl rfl rfl rfl)))
      (pss_cons (ps_expr (pe_own T.want_filter (ok_want_filter T) hr (pa_cons (pv 4) (pa_cons (pv 5) pa_nil)) (px rfl rfl rfl rfl)))
      (pss_cons (ps_asg (pe_make T.mk_Band (ok_Band_init T) (hr.mono (by decide)) rfl T.g_Band T.Band_init.b .nil pass0 (pa_cons (pe_own T.fraction (ok_fraction T S) hr (pa_cons (pv 2) (pa_cons (pv 3) pa_nil)) pass0) (pa_cons (pv 4) (pa_cons (pv 5) pa_nil)))) (pg_sub (pe_fldk K (pv 0)) (pv 1) set_list))
      (pss_one (ps_ret (pe_lst pa_nil))))))), ?_⟩)
  · exact spm_len (fun ds s r ⟨a, _, _, _, _, _, _, q, _⟩ => by rw [q] <;> rfl) h
  · obtain ⟨G, a, lb, os, s, ws, ds, r, rfl, A, hR, ⟨i, n, m, u, l, h1, h2, rfl, rfl⟩, k, kE⟩ := h
    refine Run.goX (K := K) (G := G) 0 A.gh hR rfl ?_
    with_reducible refine r_seq ?_
    refine r_cond (b := inr i 0 2) (ea_1 (ev_var rfl)) ⟨i, rfl, rfl⟩ (fun q => kE _ (M_e (stm_band_b (by rw [q]; rfl)) (by decide))) fun q1 => ?_
    with_reducible refine r_seq ?_
    refine r_cond (b := gainB n m) (ea_2 (ev_var rfl) (ev_var rfl)) ⟨n, m, rfl, rfl⟩ (fun q => kE _ (M_e (stm_band_b (by rw [q1, q]; rfl)) (by decide))) fun q2 => ?_
    with_reducible refine r_seq ?_
    refine r_wfil T h1 h2 (ev_var rfl) (ev_var rfl) (fun q => kE _ (M_e (stm_band_b (by rw [q1, q2, q]; rfl)) (by decide))) fun q3 => ?_
    have q : (inr i 0 2 && (gainB n m && filtOk u l)) = true := by rw [q1, q2, q3]; rfl
    obtain ⟨ei, i3⟩ := in3 q1
    have gp := gain_parts q2
    have wl : Wa a lb os lb := .inr (.inl rfl)
    obtain ⟨dx, vu, vl, i1, i2⟩ := A.ia
    with_reducible refine r_seq ?_
    intro σ G1 H1 s1
    refine pt_make (ea_cons (Evd.cast (ev_call (ea_2 (ev_var rfl) (ev_var rfl)) ⟨n, m, by omega, rfl, rfl⟩) (qq_frac q2).symm) (ea_2 (ev_var rfl) (ev_var rfl))) s1 fun vs G2 H2 g2 r2 => ?_
    obtain ⟨yg, w1, rfl, rg, yu, w2, rfl, ru, yl, w3, rfl, rl, rfl⟩ := r2
    have s2 := s1.step g2
    intro x dxb hxn hdn hne
    have A2 := A.step s2.gh
    have gxn : G2 x = none := s2.gh.gh.free hxn
    have gdn : G2 dxb = none := s2.gh.gh.free hdn
    have sm : Same H2 (upd (upd H2 dxb (.own x)) x (.ins T.CB dxb [])) := fun y o e => by
      rw [upd_ne (ne_of_none e hxn), upd_ne (ne_of_none e hdn)]
      exact e
    refine ⟨G2, x, dxb, yg, yu, yl, _, u, l, rfl, s2.gh.gh.trans sm, gxn, upd_same, rg, ru, rl, fun G3 H3 yg' yu' yl' mv gx3 hx3 rg' ru' rl' => ⟨rfl, ?_⟩⟩
    have s2H : Same H2 H3 := fun y o e => mv.kk y o (ne_of_none e hxn) (sm y o e)
    have g3 : Gh G2 H2 G3 H3 := ⟨mv.gg, s2H, mv.gh, fun y e1 e2 => mv.fr y (some_ne sm e1) e2⟩
    have s3 := s2.step g3
    refine vv_fld (vv_var rfl) i1 T.cl_CA T.n_bands look_bs σ G3 H3 s3 _ fun G4 H4 g4 => ?_
    refine ev_var rfl σ G4 H4 (s3.step g4) _ fun y G5 H5 g5 r5 => ?_
    have s5 := (s3.step g4).step g5
    have r5 : y = .int i := r5
    have gl5 : G5 lb = none := s5.gh.fr lb (A.here lb wl) (A.gw lb wl)
    refine ⟨lb, os.map slot, i, i.toNat, rfl, r5, s5.gh.hh _ _ A.ib, ?_, ?_⟩
    · have t := ixN_nat (n := (os.map slot).length) (k := i.toNat) (by rw [List.length_map, A.l3]; exact i3)
      rwa [ei] at t
    have g35 := g4.trans g5
    have hx5 := g35.hh _ _ hx3
    have xo : ∀ y, Wa a lb os y → x ≠ y := fun y wy e => A2.here y wy (e ▸ hxn)
    have A5 := A.wrL (o := some x) (x := some ⟨Vbhlae.frac n m.toNat, u, l⟩) (i := i.toNat) s5.gh ⟨dxb, yg', yu', yl', hx5, Rp.mono g35.gg _ _ rg', Rp.mono g35.gg _ _ ru', Rp.mono g35.gg _ _ rl'⟩ i3 fun b e => by
      cases e
      exact ⟨xo a (.inl rfl), xo lb wl, fun z => xo x (.inr (.inr z)) rfl, g35.fr x (by rw [hx3]; exact fun z => nomatch z) gx3⟩
    have m5 : Mv (Wa a lb os) G H G5 (upd H5 lb (.lst ((os.map slot).set i.toNat (slot (some x))))) := s5.gh.mv.trans (Mv.wr s5.gh.gh gl5 wl)
    refine r_ret (K := K) (G0 := G5) (H0 := upd H5 lb (.lst ((os.map slot).set i.toNat (slot (some x))))) (en_lst ea_nil (Nat.zero_le _)).dd (fun v G6 H6 g6 r6 => ?_) σ G5 _ ⟨Gh.refl (same_upd s5.gh.gh gl5), s5.env.any rfl⟩
    have e := stm_band_o (s := s) q
    refine k [] (by rw [e]; rfl) v G6 H6 (os.set i.toNat (some x)) (by rw [e]; exact A5.step g6) (m5.trans g6.mv) (fun b hb => ?_) r6
    rcases List.mem_or_eq_of_mem_set hb with z | z
    · exact .inl z
    · cases z
      exact .inr (s2.gh.hh.free hxn)
end
end Qa

set_option Elab.async false
set_option linter.all false
set_option maxRecDepth 100000
set_option maxHeartbeats 1000000
namespace Qa
open PySem PySem.Spec PyProof.Rows L2
open Vbhlae (at_ trim common chain smaller Band Aid present Q bit listRow qRow step Call inr guarded setBand bandAt noBand)
def numC : Call → Int
  | .leak .. => 0
  | .band .. => 1
  | .gain .. => 2
  | .mute .. => 3
  | .ring => 4
  | .quiet => 5
  | .steps => 6
  | .check .. => 7
  | .loud => 8
  | .play .. => 9
  | .freed .. => 10
  | .volume .. => 11
  | .alone => 12
  | .row .. => 13
  | .ends => 14
  | .later .. => 15
  | .turn .. => 16
  | .told => 17
  | .click .. => 18
  | .quietAt .. => 19
def nsC : Call → List Int
  | .band i n d _ _ => [i, n, d]
  | .gain i n d => [i, n, d]
  | .mute i => [i]
  | .freed n _ => [n]
  | .volume d m => [d, m]
  | .later i k => [i, k]
  | .turn i => [i]
  | .click n => [n]
  | .quietAt n d => [n, d]
  | _ => []
def rwC : Call → List (List Int)
  | .leak u l => [u, l]
  | .band _ _ _ u l => [u, l]
  | .check l => [l]
  | .play l => [l]
  | .freed _ l => [l]
  | .row l => [l]
  | _ => []
/-- what is in bounds -/
def okC (c : Call) : Prop := ∀ r ∈ rwC c, r.length ≤ 220 ∧ bl 60 r
theorem call_of {r : List (List Int)} {c : Call} (h : VbhlaeNeutral.callOf r = some c) : r = (numC c :: nsC c) :: rwC c := by
  unfold VbhlaeNeutral.callOf at h
  split at h <;> first | (cases h; rfl) | cases h
/-! ### the aid stays in bounds -/
section
variable {s : Aid}
theorem gain_ok {n m : Int} (h : gainB n m = true) : GainOk (Vbhlae.frac n m.toNat) := by
  unfold gainB at h
  rw [Bool.and_eq_true, inr_iff, inr_iff] at h
  have e := frac_pos (n := n) (d := m) (by omega)
  obtain ⟨v1, v2⟩ := q_size (x := (n : Rat) / (m : Rat)) (N := n) (M := m) (by omega) rfl
  rw [e]
  refine ⟨?_, ?_, ?_⟩
  · show oq (mkRat ((n : Rat) / (m : Rat)).num ((n : Rat) / (m : Rat)).den) = _
    rw [Rat.mkRat_self]
  · show ((n : Rat) / (m : Rat)).num.natAbs ≤ 1000
    omega
  · show ((n : Rat) / (m : Rat)).den ≤ 1000
    omega
theorem gd_1 {l : List (Int × Bool)} {k : Unit → Aid × List Int} (h : (k ()).1 = s) : (guarded s l k).1 = s := by
  unfold Vbhlae.guarded
  split
  · rfl
  · exact h
theorem gd_ok {l : List (Int × Bool)} {k : Unit → Aid × List Int} (hs : AidOk s) (h : AidOk (k ()).1) : AidOk (guarded s l k).1 := by
  unfold Vbhlae.guarded
  split
  · exact hs
  · exact h
def Shape (s : Aid) (r : Aid × List Int) : Prop := (∃ t, r.2 = 0 :: t) ∨ ∃ k : Int, k ≠ 0 ∧ r = (s, [k])
theorem gshape {l : List (Int × Bool)} {k : Unit → Aid × List Int} (h : (l.all fun x => x.1 != 0) = true) (hk : ∃ t, (k ()).2 = 0 :: t) : Shape s (guarded s l k) := by
  unfold Vbhlae.guarded
  split
  · next x e =>
    have := List.all_eq_true.mp h x (List.mem_of_find?_eq_some e)
    exact .inr ⟨x.1, by simpa using this, rfl⟩
  · exact .inl hk
theorem step_shape (s : Aid) (c : Call) : Shape s (step s c) := by
  cases c with
  | leak u l => exact gshape rfl ⟨_, rfl⟩
  | band i n d u l => exact gshape rfl ⟨_, rfl⟩
  | gain i n d => exact gshape rfl ⟨_, rfl⟩
  | mute i => exact gshape rfl ⟨_, rfl⟩
  | ring => exact gshape rfl ⟨_, rfl⟩
  | quiet => exact gshape rfl ⟨_, rfl⟩
  | steps => exact gshape rfl ⟨_, rfl⟩
  | check l =>
    refine gshape rfl ?_
    split
    · exact ⟨_, rfl⟩
    · exact ⟨_, rfl⟩
  | loud => exact gshape rfl ⟨_, rfl⟩
  | play l => exact gshape rfl ⟨_, rfl⟩
  | freed n l => exact gshape rfl ⟨_, rfl⟩
  | volume d m =>
    refine gshape rfl ?_
    show ∃ t, (match Vbhlae.volume s d.toNat m.toNat with
      | none => [0, 0]
      | some v => [0, 1, (v : Int)]) = 0 :: t
    split
    · exact ⟨_, rfl⟩
    · exact ⟨_, rfl⟩
  | alone => exact .inl ⟨_, rfl⟩
  | row l => exact gshape rfl ⟨_, rfl⟩
  | ends => exact gshape rfl ⟨_, rfl⟩
  | later i k => exact gshape rfl ⟨_, rfl⟩
  | turn i => exact gshape rfl ⟨_, rfl⟩
  | told => exact .inl ⟨_, rfl⟩
  | click n => exact gshape rfl ⟨_, rfl⟩
  | quietAt n d => exact gshape rfl ⟨_, rfl⟩
theorem at3 (hs : AidOk s) {i : Int} (h : inr i 0 2 = true) : ∃ x, s.bands[i.toNat]? = some x := by
  have := (inr_iff _ _ _).mp h
  have t := hs.three
  exact ⟨_, List.getElem?_eq_getElem (show i.toNat < s.bands.length by omega)⟩
theorem step_ok (hs : AidOk s) (c : Call) : AidOk (step s c).1 := by
  cases c with
  | leak u l =>
    cases q : filtOk u l with
    | false => rw [stm_leak_b q]; exact hs
    | true =>
      rw [stm_leak_o q]
      obtain ⟨⟨a1, a2, a3⟩, b1, b2, b3, b4⟩ := filt_parts q
      exact { up1 := a1, up4 := a2, upN := a3, low1 := b1, low3 := b2, lowN := b3, low0 := b4, three := hs.three, bands := hs.bands }
  | band i n d u l =>
    cases q : (inr i 0 2 && (gainB n d && filtOk u l)) with
    | false => rw [stm_band_b q]; exact hs
    | true =>
      rw [stm_band_o q]
      rw [Bool.and_eq_true, Bool.and_eq_true] at q
      obtain ⟨⟨a1, a2, a3⟩, b1, b2, b3, b4⟩ := filt_parts q.2.2
      refine set_bands hs fun b e => ?_
      cases e
      exact ⟨gain_ok q.2.1, a1, a2, a3, b1, b2, b3, b4⟩
  | gain i n d =>
    cases q : (inr i 0 2 && gainB n d) with
    | false => rw [stm_gain_b q]; exact hs
    | true =>
      have q' := q
      rw [Bool.and_eq_true] at q'
      obtain ⟨x, hx⟩ := at3 hs q'.1
      cases x with
      | none => rw [stm_gain_n q hx]; exact hs
      | some x =>
        rw [stm_gain_o q hx]
        have bo := hs.bands x (List.mem_of_getElem? hx)
        refine set_bands hs fun b e => ?_
        cases e
        exact { bo with gain := gain_ok q'.2 }
  | mute i =>
    cases q : inr i 0 2 with
    | false => rw [stm_mute_b q]; exact hs
    | true =>
      obtain ⟨x, hx⟩ := at3 hs q
      cases x with
      | none => rw [stm_mute_n q hx]; exact hs
      | some x =>
        rw [stm_mute_o q hx]
        exact set_bands hs fun b e => nomatch e
  | ring => rw [show (step s .ring).1 = s from gd_1 rfl]; exact hs
  | quiet => rw [show (step s .quiet).1 = s from gd_1 rfl]; exact hs
  | steps => rw [show (step s .steps).1 = s from gd_1 rfl]; exact hs
  | check l =>
    refine gd_ok hs ?_
    split
    · exact hs
    · exact hs
  | loud => rw [show (step s .loud).1 = s from gd_1 rfl]; exact hs
  | play l => rw [show (step s (.play l)).1 = s from gd_1 rfl]; exact hs
  | freed n l => rw [show (step s (.freed n l)).1 = s from gd_1 rfl]; exact hs
  | volume d m => rw [show (step s (.volume d m)).1 = s from gd_1 rfl]; exact hs
  | alone => exact hs
  | row l => rw [show (step s (.row l)).1 = s from gd_1 rfl]; exact hs
  | ends => rw [show (step s .ends).1 = s from gd_1 rfl]; exact hs
  | later i k =>
    cases q : (inr i 0 2 && inr k 0 3) with
    | false => rw [stm_later_b q]; exact hs
    | true =>
      have q' := q
      rw [Bool.and_eq_true, inr_iff k] at q'
      obtain ⟨x, hx⟩ := at3 hs q'.1
      cases x with
      | none => rw [stm_later_n q hx]; exact hs
      | some x =>
        by_cases m : (4 : Int) < (x.up.length : Int) + k
        · rw [stm_later_f q hx m]
          exact hs
        · rw [stm_later_o q hx m]
          have bo := hs.bands x (List.mem_of_getElem? hx)
          refine set_bands hs fun b e => ?_
          cases e
          have u1 := bo.up1
          refine { bo with up1 := ?_, up4 := ?_, upN := fun y hy => ?_ }
          · show 1 ≤ (List.replicate k.toNat 0 ++ x.up).length
            rw [List.length_append]
            omega
          · show (List.replicate k.toNat 0 ++ x.up).length ≤ 4
            rw [List.length_append, List.length_replicate]
            omega
          · rcases List.mem_append.mp hy with z | z
            · rw [(List.mem_replicate.mp z).2]
              decide
            · exact bo.upN y z
  | turn i =>
    cases q : inr i 0 2 with
    | false => rw [stm_turn_b q]; exact hs
    | true =>
      obtain ⟨x, hx⟩ := at3 hs q
      cases x with
      | none => rw [stm_turn_n q hx]; exact hs
      | some x =>
        rw [stm_turn_o q hx]
        have bo := hs.bands x (List.mem_of_getElem? hx)
        refine set_bands hs fun b e => ?_
        cases e
        refine { bo with up1 := ?_, up4 := ?_, upN := fun y hy => ?_ }
        · show 1 ≤ (Vbhlae.times (-1) x.up).length
          rw [times_len]
          exact bo.up1
        · show (Vbhlae.times (-1) x.up).length ≤ 4
          rw [times_len]
          exact bo.up4
        · have hy : y ∈ Vbhlae.times (-1) x.up := hy
          rw [neg_times] at hy
          obtain ⟨z, hz, rfl⟩ := List.mem_map.mp hy
          rw [Int.natAbs_neg]
          exact bo.upN z hz
  | told => exact hs
  | click n => rw [show (step s (.click n)).1 = s from gd_1 rfl]; exact hs
  | quietAt n d => rw [show (step s (.quietAt n d)).1 = s from gd_1 rfl]; exact hs
theorem start_ok : AidOk Vbhlae.start where
  up1 := by decide
  up4 := by decide
  upN := fun x hx => by
    cases hx with
    | head => decide
    | tail _ h => cases h
  low1 := by decide
  low3 := by decide
  lowN := fun x hx => by
    cases hx with
    | head => decide
    | tail _ h => cases h
  low0 := by decide
  three := rfl
  bands := fun b hb => by
    have := (List.mem_replicate.mp (show some b ∈ List.replicate 3 none from hb)).2
    cases this
end
end Qa

set_option Elab.async false
set_option linter.all false
set_option maxRecDepth 100000
set_option maxHeartbeats 4000000
namespace Qa
open PySem PySem.Spec PyProof.Rows L2
open Vbhlae (at_ trim common chain smaller Band Aid present Q bit listRow qRow step Call inr guarded setBand bandAt noBand)
section
variable {P : Program} {w : World} {K : PySem.W.Frag} {mg : Str → Option Value} {base : Heap} {G0 H0 G H G1 H1 : Hp} {a lb : Addr} {os : List (Option Addr)} {s : Aid} {Γ : List Ent} {ta te : TE} {d : D} {l : List D} {De : Ends} {CA CB CR : Addr} {E : XK}
theorem toX_row {A : List Int} {d : D} (h : toX A = .ok d) : d = rowD A.tail := by
  unfold toX at h
  split at h
  · cases h
    rfl
  · cases h
/-! ### calls with the aid -/
theorem r_retM {tr : TA} {ds : List D} {pre : List D → Aid → Aid × List Int → Prop} {r : Aid × List Int} (A : AidH K CA CB G0 H0 a lb os s) (ha : EvV K G0 H0 Γ ta (.ref a)) (hr : EvA K G0 H0 Γ tr ds) (hp : pre ds s r)
    (k : ∀ l, toX r.2 = .ok (rowD l) → ∀ v G' H' os', AidH K CA CB G' H' a lb os' r.1 → Mv (Wa a lb os) G0 H0 G' H' → (∀ b, some b ∈ os' → some b ∈ os ∨ H0 b = none) → Rp K G' (rowD l) v → De.rt v H')
    (kE : ∀ c, toX r.2 = .error c → Er CR E H0 c) : Run K G0 H0 Γ (tRet (tCall (SpM K CA CB CR pre) [] E (tCons ta tr)) De) := fun σ G H st =>
  ha σ G H st _ fun G1 H1 g1 => hr σ G1 H1 (st.step g1) _ fun ws G2 H2 g2 r2 => by
    have s2 := (st.step g1).step g2
    show SpM K CA CB CR pre ((V.ref a :: ws) ++ []) H2 De.rt E
    rw [List.append_nil]
    exact ⟨G2, a, lb, os, s, ws, ds, r, rfl, A.step s2.gh, r2, hp, fun l e v G' H' os' A' mv nw r' => k l e v G' H' os' A' (s2.gh.mv.trans mv) (fun b hb => (nw b hb).imp id fun z => s2.gh.hh.free z) r', fun c e => (kE c e).later s2.gh.hh⟩
theorem r_retA {tr : TA} {ds : List D} {pre : List D → Except Int D → Prop} {X : List Int} (A : AidH K CA CB G0 H0 a lb os s) (ha : EvV K G0 H0 Γ ta (.ref a)) (hr : EvA K G0 H0 Γ tr ds) (hp : pre (aidD CA CB s :: ds) (toX X))
    (k : ∀ l, toX X = .ok (rowD l) → ∀ v G' H', Gh G0 H0 G' H' → Rp K G' (rowD l) v → De.rt v H')
    (kE : ∀ c, toX X = .error c → Er CR E H0 c) : Run K G0 H0 Γ (tRet (tCall (SpX K CR pre) [] E (tCons ta tr)) De) := fun σ G H st =>
  ha σ G H st _ fun G1 H1 g1 => hr σ G1 H1 (st.step g1) _ fun ws G2 H2 g2 r2 => by
    have s2 := (st.step g1).step g2
    have A2 := A.step s2.gh
    show SpX K CR pre ((V.ref a :: ws) ++ []) H2 De.rt E
    rw [List.append_nil]
    refine ⟨fullG G2 H2 a lb os, aidD CA CB s :: ds, toX X, A2.sup, ⟨.ref a, ws, rfl, A2.full, RpL.mono A2.sub _ _ r2⟩, hp, fun d e v G' H' g' r' => ?_, fun c e => (kE c e).later s2.gh.hh⟩
    have ed := toX_row e
    subst ed
    obtain ⟨c1, c2⟩ := A2.cut g' r'
    exact k _ e v _ H' (s2.gh.trans c1) c2
/-! ### which call -/
def chg (c : Call) : Bool := decide (numC c < 4) || (decide (numC c = 15) || decide (numC c = 16))
def preChg : List D → Aid → Aid × List Int → Prop := fun ds s r => ∃ c : Call, AidOk s ∧ okC c ∧ chg c = true ∧ ds = [.int (numC c), rowD (nsC c), rowsD (rwC c)] ∧ r = step s c
theorem ok_l {r : List Int} {c : Call} (h : okC c) (hr : r ∈ rwC c) : r.length ≤ 1000000 := by
  have := (h r hr).1
  omega
theorem sc_changed : FnScope ["aid", "call", "n", "rows"] ["aid", "call", "n", "rows"] (defScope s_changed) := ⟨rfl, rfl, rfl, by decide +kernel, rfl, by decide +kernel, by decide +kernel⟩
theorem ok_changed (T : Txt K mg) (S : SeerB P base) : FnOk P w K mg base (L2.CX P w) 42 T.changed.f T.changed.fd ["aid", "call", "n", "rows"] (SpM K T.CA T.CB T.CR preChg) := by
  refine T.changed.F.okX sc_changed (fun vs H Q E h => ?_) (fun cdv A outer s H vs Q E hr h => ⟨_, (pss_cons (ps_if (pt_cmpR op_eq (pv 1) pe_int (nomark _)) (pss_one (ps_ret (pe_own T.leak (ok_leak T) hr (pa_cons (pv 0) (pa_cons (pe_ix (ix_listk K) (pv 3) pe_int (fun _ _ => rfl)) (pa_cons (pe_ix (ix_listk K) (pv 3) pe_int (fun _ _ => rfl)) pa_nil))) (px rfl rfl rfl rfl)))) pss_nil)
      (pss_cons (ps_if (pt_cmpR op_eq (pv 1) pe_int (nomark _)) (pss_one (ps_ret (pe_own T.put_band (ok_put_band T S) hr (pa_cons (pv 0) (pa_cons (pe_ix (ix_listk K) (pv 2) pe_int (fun _ _ => rfl)) (pa_cons (pe_ix (ix_listk K) (pv 2) pe_int (fun _ _ => rfl)) (pa_cons (pe_ix (ix_listk K) (pv 2) pe_int (fun _ _ => rfl)) (pa_cons (pe_ix (ix_listk K) (pv 3) pe_int (fun _ _ => rfl)) (pa_cons (pe_ix (ix_listk K) (pv 3) pe_int (fun _ _ => rfl)) pa_nil)))))) (px rfl rfl rfl rfl)))) pss_nil)
      (pss_cons (ps_if (pt_cmpR op_eq (pv 1) pe_int (nomark _)) (pss_one (ps_ret (pe_own T.put_gain (ok_put_gain T S) hr (pa_cons (pv 0) (pa_cons (pe_ix (ix_listk K) (pv 2) pe_int (fun _ _ => rfl)) (pa_cons (pe_ix (ix_listk K) (pv 2) pe_int (fun _ _ => rfl)) (pa_cons (pe_ix (ix_listk K) (pv 2) pe_int (fun _ _ => rfl)) pa_nil)))) (px rfl rfl rfl rfl)))) pss_nil)
      (pss_cons (ps_if (pt_cmpR op_eq (pv 1) pe_int (nomark _)) (pss_one (ps_ret (pe_own T.mute (ok_mute T) hr (pa_cons (pv 0) (pa_cons (pe_ix (ix_listk K) (pv 2) pe_int (fun _ _ => rfl)) pa_nil)) (px rfl rfl rfl rfl)))) pss_nil)
      (pss_cons (ps_if (pt_cmpR op_eq (pv 1) pe_int (nomark _)) (pss_one (ps_ret (pe_own T.later (ok_later T) hr (pa_cons (pv 0) (pa_cons (pe_ix (ix_listk K) (pv 2) pe_int (fun _ _ => rfl)) (pa_cons (pe_ix (ix_listk K) (pv 2) pe_int (fun _ _ => rfl)) pa_nil))) (px rfl rfl rfl rfl)))) pss_nil)
      (pss_one (ps_ret (pe_own T.turn (ok_turn T) hr (pa_cons (pv 0) (pa_cons (pe_ix (ix_listk K) (pv 2) pe_int (fun _ _ => rfl)) pa_nil)) (px rfl rfl rfl rfl))))))))), ?_⟩)
  · exact spm_len (fun ds s r ⟨a, _, _, _, q, _⟩ => by rw [q] <;> rfl) h
  · obtain ⟨G, a, lb, os, s, ws, ds, r, rfl, A, hR, ⟨c, hs, hc, hb, rfl, rfl⟩, k, kE⟩ := h
    refine Run.goX (K := K) (G := G) 0 A.gh hR rfl ?_
    have no : ∀ {b : Bool}, b = false → b = true → False := fun h1 h2 => by
      rw [h1] at h2
      cases h2
    cases c with
    | leak u l =>
      have h1 := ok_l hc (r := u) List.mem_cons_self
      have h2 := ok_l hc (r := l) (List.mem_cons_of_mem _ List.mem_cons_self)
      with_reducible refine r_seq ?_
      refine r_if (et_b (ev_eq (i := 0) (j := 0) (ev_var rfl) ev_int)) (fun _ => ?_) fun h => by cases h
      exact r_retM A (vv_var rfl) (ea_2 (ev_ixL (k := 0) (d := rowD u) (ev_var rfl) ev_int rfl rfl) (ev_ixL (k := 1) (d := rowD l) (ev_var rfl) ev_int rfl rfl)) ⟨u, l, h1, h2, rfl, rfl⟩ k kE
    | band i n m u l =>
      have h1 := ok_l hc (r := u) List.mem_cons_self
      have h2 := ok_l hc (r := l) (List.mem_cons_of_mem _ List.mem_cons_self)
      with_reducible refine r_seq ?_
      refine r_if (et_b (ev_eq (i := 1) (j := 0) (ev_var rfl) ev_int)) (fun h => by cases h) fun _ => r_next ?_
      with_reducible refine r_seq ?_
      refine r_if (et_b (ev_eq (i := 1) (j := 1) (ev_var rfl) ev_int)) (fun _ => ?_) fun h => by cases h
      exact r_retM A (vv_var rfl) (ea_cons (ev_ixL (k := 0) (d := .int i) (ev_var rfl) ev_int rfl rfl) (ea_cons (ev_ixL (k := 1) (d := .int n) (ev_var rfl) ev_int rfl rfl) (ea_cons (ev_ixL (k := 2) (d := .int m) (ev_var rfl) ev_int rfl rfl) (ea_2 (ev_ixL (k := 0) (d := rowD u) (ev_var rfl) ev_int rfl rfl) (ev_ixL (k := 1) (d := rowD l) (ev_var rfl) ev_int rfl rfl))))) ⟨i, n, m, u, l, h1, h2, rfl, rfl⟩ k kE
    | gain i n m =>
      with_reducible refine r_seq ?_
      refine r_if (et_b (ev_eq (i := 2) (j := 0) (ev_var rfl) ev_int)) (fun h => by cases h) fun _ => r_next ?_
      with_reducible refine r_seq ?_
      refine r_if (et_b (ev_eq (i := 2) (j := 1) (ev_var rfl) ev_int)) (fun h => by cases h) fun _ => r_next ?_
      with_reducible refine r_seq ?_
      refine r_if (et_b (ev_eq (i := 2) (j := 2) (ev_var rfl) ev_int)) (fun _ => ?_) fun h => by cases h
      exact r_retM A (vv_var rfl) (ea_cons (ev_ixL (k := 0) (d := .int i) (ev_var rfl) ev_int rfl rfl) (ea_2 (ev_ixL (k := 1) (d := .int n) (ev_var rfl) ev_int rfl rfl) (ev_ixL (k := 2) (d := .int m) (ev_var rfl) ev_int rfl rfl))) ⟨i, n, m, rfl, rfl⟩ k kE
    | mute i =>
      with_reducible refine r_seq ?_
      refine r_if (et_b (ev_eq (i := 3) (j := 0) (ev_var rfl) ev_int)) (fun h => by cases h) fun _ => r_next ?_
      with_reducible refine r_seq ?_
      refine r_if (et_b (ev_eq (i := 3) (j := 1) (ev_var rfl) ev_int)) (fun h => by cases h) fun _ => r_next ?_
      with_reducible refine r_seq ?_
      refine r_if (et_b (ev_eq (i := 3) (j := 2) (ev_var rfl) ev_int)) (fun h => by cases h) fun _ => r_next ?_
      with_reducible refine r_seq ?_
      refine r_if (et_b (ev_eq (i := 3) (j := 3) (ev_var rfl) ev_int)) (fun _ => ?_) fun h => by cases h
      exact r_retM A (vv_var rfl) (ea_1 (ev_ixL (k := 0) (d := .int i) (ev_var rfl) ev_int rfl rfl)) ⟨i, rfl, rfl⟩ k kE
    | later i n =>
      with_reducible refine r_seq ?_
      refine r_if (et_b (ev_eq (i := 15) (j := 0) (ev_var rfl) ev_int)) (fun h => by cases h) fun _ => r_next ?_
      with_reducible refine r_seq ?_
      refine r_if (et_b (ev_eq (i := 15) (j := 1) (ev_var rfl) ev_int)) (fun h => by cases h) fun _ => r_next ?_
      with_reducible refine r_seq ?_
      refine r_if (et_b (ev_eq (i := 15) (j := 2) (ev_var rfl) ev_int)) (fun h => by cases h) fun _ => r_next ?_
      with_reducible refine r_seq ?_
      refine r_if (et_b (ev_eq (i := 15) (j := 3) (ev_var rfl) ev_int)) (fun h => by cases h) fun _ => r_next ?_
      with_reducible refine r_seq ?_
      refine r_if (et_b (ev_eq (i := 15) (j := 15) (ev_var rfl) ev_int)) (fun _ => ?_) fun h => by cases h
      exact r_retM A (vv_var rfl) (ea_2 (ev_ixL (k := 0) (d := .int i) (ev_var rfl) ev_int rfl rfl) (ev_ixL (k := 1) (d := .int n) (ev_var rfl) ev_int rfl rfl)) ⟨i, n, hs, rfl, rfl⟩ k kE
    | turn i =>
      with_reducible refine r_seq ?_
      refine r_if (et_b (ev_eq (i := 16) (j := 0) (ev_var rfl) ev_int)) (fun h => by cases h) fun _ => r_next ?_
      with_reducible refine r_seq ?_
      refine r_if (et_b (ev_eq (i := 16) (j := 1) (ev_var rfl) ev_int)) (fun h => by cases h) fun _ => r_next ?_
      with_reducible refine r_seq ?_
      refine r_if (et_b (ev_eq (i := 16) (j := 2) (ev_var rfl) ev_int)) (fun h => by cases h) fun _ => r_next ?_
      with_reducible refine r_seq ?_
      refine r_if (et_b (ev_eq (i := 16) (j := 3) (ev_var rfl) ev_int)) (fun h => by cases h) fun _ => r_next ?_
      with_reducible refine r_seq ?_
      refine r_if (et_b (ev_eq (i := 16) (j := 15) (ev_var rfl) ev_int)) (fun h => by cases h) fun _ => r_next ?_
      exact r_retM A (vv_var rfl) (ea_1 (ev_ixL (k := 0) (d := .int i) (ev_var rfl) ev_int rfl rfl)) ⟨i, hs, rfl, rfl⟩ k kE
    | ring => exact (no rfl hb).elim
    | quiet => exact (no rfl hb).elim
    | steps => exact (no rfl hb).elim
    | check l => exact (no rfl hb).elim
    | loud => exact (no rfl hb).elim
    | play l => exact (no rfl hb).elim
    | freed n l => exact (no rfl hb).elim
    | volume d m => exact (no rfl hb).elim
    | alone => exact (no rfl hb).elim
    | row l => exact (no rfl hb).elim
    | ends => exact (no rfl hb).elim
    | told => exact (no rfl hb).elim
    | click n => exact (no rfl hb).elim
    | quietAt n d => exact (no rfl hb).elim
end
end Qa

set_option Elab.async false
set_option linter.all false
set_option maxRecDepth 100000
set_option maxHeartbeats 4000000
namespace Qa
open PySem PySem.Spec PyProof.Rows L2
open Vbhlae (at_ trim common chain smaller Band Aid present Q bit listRow qRow step Call inr guarded setBand bandAt noBand)
section
variable {P : Program} {w : World} {K : PySem.W.Frag} {mg : Str → Option Value} {base : Heap} {G0 H0 G H G1 H1 : Hp} {a lb : Addr} {os : List (Option Addr)} {s : Aid} {Γ : List Ent} {ta te : TE} {d : D} {l : List D} {De : Ends}
def rgC (c : Call) : Bool := decide (4 ≤ numC c) && decide (numC c < 10)
def otC (c : Call) : Bool := !(chg c || rgC c)
theorem no_b {b : Bool} (h1 : b = false) (h2 : b = true) : False := by
  rw [h1] at h2
  cases h2
def preRgC (CA CB : Addr) : List D → Except Int D → Prop := fun ds r => ∃ (s : Aid) (c : Call), AidOk s ∧ okC c ∧ rgC c = true ∧ ds = [aidD CA CB s, .int (numC c), rowsD (rwC c)] ∧ r = toX (step s c).2
theorem sc_of_ring : FnScope ["aid", "call", "rows"] ["aid", "call", "rows"] (defScope s_of_ring) := ⟨rfl, rfl, rfl, by decide +kernel, rfl, by decide +kernel, by decide +kernel⟩
theorem ok_of_ring (T : Txt K mg) (S : SeerB P base) : FnOk P w K mg base (L2.CX P w) 47 T.of_ring.f T.of_ring.fd ["aid", "call", "rows"] (SpX K T.CR (preRgC T.CA T.CB)) := by
  refine T.of_ring.F.okX sc_of_ring (fun vs H Q E h => ?_) (fun cdv A outer s H vs Q E hr h => ⟨_, (pss_cons (ps_if (pt_cmpR op_eq (pv 1) pe_int (nomark _)) (pss_one (ps_ret (pe_own T.ring (ok_ring T S) hr (pa_cons (pv 0) pa_nil) (px rfl rfl rfl rfl)))) pss_nil)
      (pss_cons (ps_if (pt_cmpR op_eq (pv 1) pe_int (nomark _)) (pss_one (ps_ret (pe_own T.quiet (ok_quiet T S) hr (pa_cons (pv 0) pa_nil) (px rfl rfl rfl rfl)))) pss_nil)
      (pss_cons (ps_if (pt_cmpR op_eq (pv 1) pe_int (nomark _)) (pss_one (ps_ret (pe_own T.steps (ok_steps T S) hr (pa_cons (pv 0) pa_nil) (px rfl rfl rfl rfl)))) pss_nil)
      (pss_cons (ps_if (pt_cmpR op_eq (pv 1) pe_int (nomark _)) (pss_one (ps_ret (pe_own T.check (ok_check T S) hr (pa_cons (pv 0) (pa_cons (pe_ix (ix_listk K) (pv 2) pe_int (fun _ _ => rfl)) pa_nil)) (px rfl rfl rfl rfl)))) pss_nil)
      (pss_cons (ps_if (pt_cmpR op_eq (pv 1) pe_int (nomark _)) (pss_one (ps_ret (pe_own T.loud (ok_loud T S) hr (pa_cons (pv 0) pa_nil) (px rfl rfl rfl rfl)))) pss_nil)
      (pss_one (ps_ret (pe_own T.play (ok_play T S) hr (pa_cons (pv 0) (pa_cons (pe_ix (ix_listk K) (pv 2) pe_int (fun _ _ => rfl)) pa_nil)) (px rfl rfl rfl rfl))))))))), ?_⟩)
  · exact spx_len (fun ds d ⟨a, _, _, _, _, q, _⟩ => by rw [q] <;> rfl) h
  · obtain ⟨G, ds, r, hG, hR, ⟨s, c, hs, hc, hb, rfl, rfl⟩, k, kE⟩ := h
    refine Run.go (G := G) 0 hG hR rfl ?_
    have no : ∀ {b : Bool}, b = false → b = true → False := no_b
    cases c with
    | leak u l => exact (no rfl hb).elim
    | band i n d u l => exact (no rfl hb).elim
    | gain i n d => exact (no rfl hb).elim
    | mute i => exact (no rfl hb).elim
    | ring =>
      with_reducible refine r_seq ?_
      refine r_if (et_b (ev_eq (i := 4) (j := 4) (ev_var rfl) ev_int)) (fun _ => ?_) fun h => by cases h
      exact r_retX (ex_call (ea_1 (ev_var rfl)) ⟨s, hs, rfl, rfl⟩ kE) (fun d v G H e g r => k d e v G H g r)
    | quiet =>
      with_reducible refine r_seq ?_
      refine r_if (et_b (ev_eq (i := 5) (j := 4) (ev_var rfl) ev_int)) (fun h => by cases h) fun _ => r_next ?_
      with_reducible refine r_seq ?_
      refine r_if (et_b (ev_eq (i := 5) (j := 5) (ev_var rfl) ev_int)) (fun _ => ?_) fun h => by cases h
      exact r_retX (ex_call (ea_1 (ev_var rfl)) ⟨s, hs, rfl, rfl⟩ kE) (fun d v G H e g r => k d e v G H g r)
    | steps =>
      with_reducible refine r_seq ?_
      refine r_if (et_b (ev_eq (i := 6) (j := 4) (ev_var rfl) ev_int)) (fun h => by cases h) fun _ => r_next ?_
      with_reducible refine r_seq ?_
      refine r_if (et_b (ev_eq (i := 6) (j := 5) (ev_var rfl) ev_int)) (fun h => by cases h) fun _ => r_next ?_
      with_reducible refine r_seq ?_
      refine r_if (et_b (ev_eq (i := 6) (j := 6) (ev_var rfl) ev_int)) (fun _ => ?_) fun h => by cases h
      exact r_retX (ex_call (ea_1 (ev_var rfl)) ⟨s, hs, rfl, rfl⟩ kE) (fun d v G H e g r => k d e v G H g r)
    | check l =>
      with_reducible refine r_seq ?_
      refine r_if (et_b (ev_eq (i := 7) (j := 4) (ev_var rfl) ev_int)) (fun h => by cases h) fun _ => r_next ?_
      with_reducible refine r_seq ?_
      refine r_if (et_b (ev_eq (i := 7) (j := 5) (ev_var rfl) ev_int)) (fun h => by cases h) fun _ => r_next ?_
      with_reducible refine r_seq ?_
      refine r_if (et_b (ev_eq (i := 7) (j := 6) (ev_var rfl) ev_int)) (fun h => by cases h) fun _ => r_next ?_
      with_reducible refine r_seq ?_
      refine r_if (et_b (ev_eq (i := 7) (j := 7) (ev_var rfl) ev_int)) (fun _ => ?_) fun h => by cases h
      have hl := hc l List.mem_cons_self
      exact r_retX (ex_call (ea_2 (ev_var rfl) (ev_ixL (k := 0) (d := rowD l) (ev_var rfl) ev_int rfl rfl)) ⟨s, l, hs, hl.1, hl.2, rfl, rfl⟩ kE) (fun d v G H e g r => k d e v G H g r)
    | loud =>
      with_reducible refine r_seq ?_
      refine r_if (et_b (ev_eq (i := 8) (j := 4) (ev_var rfl) ev_int)) (fun h => by cases h) fun _ => r_next ?_
      with_reducible refine r_seq ?_
      refine r_if (et_b (ev_eq (i := 8) (j := 5) (ev_var rfl) ev_int)) (fun h => by cases h) fun _ => r_next ?_
      with_reducible refine r_seq ?_
      refine r_if (et_b (ev_eq (i := 8) (j := 6) (ev_var rfl) ev_int)) (fun h => by cases h) fun _ => r_next ?_
      with_reducible refine r_seq ?_
      refine r_if (et_b (ev_eq (i := 8) (j := 7) (ev_var rfl) ev_int)) (fun h => by cases h) fun _ => r_next ?_
      with_reducible refine r_seq ?_
      refine r_if (et_b (ev_eq (i := 8) (j := 8) (ev_var rfl) ev_int)) (fun _ => ?_) fun h => by cases h
      exact r_retX (ex_call (ea_1 (ev_var rfl)) ⟨s, hs, rfl, rfl⟩ kE) (fun d v G H e g r => k d e v G H g r)
    | play l =>
      with_reducible refine r_seq ?_
      refine r_if (et_b (ev_eq (i := 9) (j := 4) (ev_var rfl) ev_int)) (fun h => by cases h) fun _ => r_next ?_
      with_reducible refine r_seq ?_
      refine r_if (et_b (ev_eq (i := 9) (j := 5) (ev_var rfl) ev_int)) (fun h => by cases h) fun _ => r_next ?_
      with_reducible refine r_seq ?_
      refine r_if (et_b (ev_eq (i := 9) (j := 6) (ev_var rfl) ev_int)) (fun h => by cases h) fun _ => r_next ?_
      with_reducible refine r_seq ?_
      refine r_if (et_b (ev_eq (i := 9) (j := 7) (ev_var rfl) ev_int)) (fun h => by cases h) fun _ => r_next ?_
      with_reducible refine r_seq ?_
      refine r_if (et_b (ev_eq (i := 9) (j := 8) (ev_var rfl) ev_int)) (fun h => by cases h) fun _ => r_next ?_
      have hl := hc l List.mem_cons_self
      exact r_retX (ex_call (ea_2 (ev_var rfl) (ev_ixL (k := 0) (d := rowD l) (ev_var rfl) ev_int rfl rfl)) ⟨s, l, hs, hl.1, hl.2, rfl, rfl⟩ kE) (fun d v G H e g r => k d e v G H g r)
    | freed n l => exact (no rfl hb).elim
    | volume d m => exact (no rfl hb).elim
    | alone => exact (no rfl hb).elim
    | row l => exact (no rfl hb).elim
    | ends => exact (no rfl hb).elim
    | later i k' => exact (no rfl hb).elim
    | turn i => exact (no rfl hb).elim
    | told => exact (no rfl hb).elim
    | click n => exact (no rfl hb).elim
    | quietAt n d => exact (no rfl hb).elim
theorem st_alone' : (step s .alone).2 = 0 :: bit (Vbhlae.quiet s.leakLow) :: s.bands.map aloneV := by
  rw [st_alone]
  congr 2
def preOtC (CA CB : Addr) : List D → Except Int D → Prop := fun ds r => ∃ (s : Aid) (c : Call), AidOk s ∧ okC c ∧ otC c = true ∧ ds = [aidD CA CB s, .int (numC c), rowD (nsC c), rowsD (rwC c)] ∧ r = toX (step s c).2
theorem sc_of_others : FnScope ["aid", "call", "n", "rows"] ["aid", "call", "n", "rows"] (defScope s_of_others) := ⟨rfl, rfl, rfl, by decide +kernel, rfl, by decide +kernel, by decide +kernel⟩
theorem ok_of_others (T : Txt K mg) (S : SeerB P base) : FnOk P w K mg base (L2.CX P w) 47 T.of_others.f T.of_others.fd ["aid", "call", "n", "rows"] (SpX K T.CR (preOtC T.CA T.CB)) := by
  refine T.of_others.F.okX sc_of_others (fun vs H Q E h => ?_) (fun cdv A outer s H vs Q E hr h => ⟨_, (pss_cons (ps_if (pt_cmpR op_eq (pv 1) pe_int (nomark _)) (pss_one (ps_ret (pe_own T.freed (ok_freed T S) hr (pa_cons (pv 0) (pa_cons (pe_ix (ix_listk K) (pv 2) pe_int (fun _ _ => rfl)) (pa_cons (pe_ix (ix_listk K) (pv 3) pe_int (fun _ _ => rfl)) pa_nil))) (px rfl rfl rfl rfl)))) pss_nil)
      (pss_cons (ps_if (pt_cmpR op_eq (pv 1) pe_int (nomark _)) (pss_one (ps_ret (pe_own T.volume (ok_volume T S) hr (pa_cons (pv 0) (pa_cons (pe_ix (ix_listk K) (pv 2) pe_int (fun _ _ => rfl)) (pa_cons (pe_ix (ix_listk K) (pv 2) pe_int (fun _ _ => rfl)) pa_nil))) (px rfl rfl rfl rfl)))) pss_nil)
      (pss_cons (ps_if (pt_cmpR op_eq (pv 1) pe_int (nomark _)) (pss_one (ps_ret (pe_own T.alone (ok_alone T S) hr (pa_cons (pv 0) pa_nil) pass0))) pss_nil)
      (pss_cons (ps_if (pt_cmpR op_eq (pv 1) pe_int (nomark _)) (pss_one (ps_ret (pe_own T.row_asked (ok_row_asked T S) hr (pa_cons (pe_ix (ix_listk K) (pv 3) pe_int (fun _ _ => rfl)) pa_nil) (px rfl rfl rfl rfl)))) pss_nil)
      (pss_cons (ps_if (pt_cmpR op_eq (pv 1) pe_int (nomark _)) (pss_one (ps_ret (pe_own T.ends (ok_ends T S) hr (pa_cons (pv 0) pa_nil) (px rfl rfl rfl rfl)))) pss_nil)
      (pss_cons (ps_if (pt_cmpR op_eq (pv 1) pe_int (nomark _)) (pss_one (ps_ret (pe_own T.told_whole (ok_told_whole T) hr (pa_cons (pv 0) pa_nil) pass0))) pss_nil)
      (pss_cons (ps_if (pt_cmpR op_eq (pv 1) pe_int (nomark _)) (pss_one (ps_ret (pe_own T.click (ok_click T S) hr (pa_cons (pv 0) (pa_cons (pe_ix (ix_listk K) (pv 2) pe_int (fun _ _ => rfl)) pa_nil)) (px rfl rfl rfl rfl)))) pss_nil)
      (pss_one (ps_ret (pe_own T.quiet_at (ok_quiet_at T S) hr (pa_cons (pv 0) (pa_cons (pe_ix (ix_listk K) (pv 2) pe_int (fun _ _ => rfl)) (pa_cons (pe_ix (ix_listk K) (pv 2) pe_int (fun _ _ => rfl)) pa_nil))) (px rfl rfl rfl rfl))))))))))), ?_⟩)
  · exact spx_len (fun ds d ⟨a, _, _, _, _, q, _⟩ => by rw [q] <;> rfl) h
  · obtain ⟨G, ds, r, hG, hR, ⟨s, c, hs, hc, hb, rfl, rfl⟩, k, kE⟩ := h
    refine Run.go (G := G) 0 hG hR rfl ?_
    have no : ∀ {b : Bool}, b = false → b = true → False := no_b
    cases c with
    | leak u l => exact (no rfl hb).elim
    | band i n d u l => exact (no rfl hb).elim
    | gain i n d => exact (no rfl hb).elim
    | mute i => exact (no rfl hb).elim
    | ring => exact (no rfl hb).elim
    | quiet => exact (no rfl hb).elim
    | steps => exact (no rfl hb).elim
    | check l => exact (no rfl hb).elim
    | loud => exact (no rfl hb).elim
    | play l => exact (no rfl hb).elim
    | freed n l =>
      with_reducible refine r_seq ?_
      refine r_if (et_b (ev_eq (i := 10) (j := 10) (ev_var rfl) ev_int)) (fun _ => ?_) fun h => by cases h
      have hl := hc l List.mem_cons_self
      exact r_retX (ex_call (ea_cons (ev_var rfl) (ea_2 (ev_ixL (k := 0) (d := .int n) (ev_var rfl) ev_int rfl rfl) (ev_ixL (k := 0) (d := rowD l) (ev_var rfl) ev_int rfl rfl))) ⟨s, n, l, hs, hl.1, rfl, rfl⟩ kE) (fun d v G H e g r => k d e v G H g r)
    | volume d m =>
      with_reducible refine r_seq ?_
      refine r_if (et_b (ev_eq (i := 11) (j := 10) (ev_var rfl) ev_int)) (fun h => by cases h) fun _ => r_next ?_
      with_reducible refine r_seq ?_
      refine r_if (et_b (ev_eq (i := 11) (j := 11) (ev_var rfl) ev_int)) (fun _ => ?_) fun h => by cases h
      exact r_retX (ex_call (ea_cons (ev_var rfl) (ea_2 (ev_ixL (k := 0) (d := .int d) (ev_var rfl) ev_int rfl rfl) (ev_ixL (k := 1) (d := .int m) (ev_var rfl) ev_int rfl rfl))) ⟨s, d, m, hs, rfl, rfl⟩ kE) (fun d v G H e g r => k d e v G H g r)
    | alone =>
      with_reducible refine r_seq ?_
      refine r_if (et_b (ev_eq (i := 12) (j := 10) (ev_var rfl) ev_int)) (fun h => by cases h) fun _ => r_next ?_
      with_reducible refine r_seq ?_
      refine r_if (et_b (ev_eq (i := 12) (j := 11) (ev_var rfl) ev_int)) (fun h => by cases h) fun _ => r_next ?_
      with_reducible refine r_seq ?_
      refine r_if (et_b (ev_eq (i := 12) (j := 12) (ev_var rfl) ev_int)) (fun _ => ?_) fun h => by cases h
      exact r_ret (ev_call (ea_1 (ev_var rfl)) ⟨s, hs, rfl, rfl⟩) (k _ (x_o st_alone'))
    | row l =>
      with_reducible refine r_seq ?_
      refine r_if (et_b (ev_eq (i := 13) (j := 10) (ev_var rfl) ev_int)) (fun h => by cases h) fun _ => r_next ?_
      with_reducible refine r_seq ?_
      refine r_if (et_b (ev_eq (i := 13) (j := 11) (ev_var rfl) ev_int)) (fun h => by cases h) fun _ => r_next ?_
      with_reducible refine r_seq ?_
      refine r_if (et_b (ev_eq (i := 13) (j := 12) (ev_var rfl) ev_int)) (fun h => by cases h) fun _ => r_next ?_
      with_reducible refine r_seq ?_
      refine r_if (et_b (ev_eq (i := 13) (j := 13) (ev_var rfl) ev_int)) (fun _ => ?_) fun h => by cases h
      have hl := hc l List.mem_cons_self
      exact r_retX (ex_call (ea_1 (ev_ixL (k := 0) (d := rowD l) (ev_var rfl) ev_int rfl rfl)) ⟨s, l, hl.1, rfl, rfl⟩ kE) (fun d v G H e g r => k d e v G H g r)
    | ends =>
      with_reducible refine r_seq ?_
      refine r_if (et_b (ev_eq (i := 14) (j := 10) (ev_var rfl) ev_int)) (fun h => by cases h) fun _ => r_next ?_
      with_reducible refine r_seq ?_
      refine r_if (et_b (ev_eq (i := 14) (j := 11) (ev_var rfl) ev_int)) (fun h => by cases h) fun _ => r_next ?_
      with_reducible refine r_seq ?_
      refine r_if (et_b (ev_eq (i := 14) (j := 12) (ev_var rfl) ev_int)) (fun h => by cases h) fun _ => r_next ?_
      with_reducible refine r_seq ?_
      refine r_if (et_b (ev_eq (i := 14) (j := 13) (ev_var rfl) ev_int)) (fun h => by cases h) fun _ => r_next ?_
      with_reducible refine r_seq ?_
      refine r_if (et_b (ev_eq (i := 14) (j := 14) (ev_var rfl) ev_int)) (fun _ => ?_) fun h => by cases h
      exact r_retX (ex_call (ea_1 (ev_var rfl)) ⟨s, hs, rfl, rfl⟩ kE) (fun d v G H e g r => k d e v G H g r)
    | later i k' => exact (no rfl hb).elim
    | turn i => exact (no rfl hb).elim
    | told =>
      with_reducible refine r_seq ?_
      refine r_if (et_b (ev_eq (i := 17) (j := 10) (ev_var rfl) ev_int)) (fun h => by cases h) fun _ => r_next ?_
      with_reducible refine r_seq ?_
      refine r_if (et_b (ev_eq (i := 17) (j := 11) (ev_var rfl) ev_int)) (fun h => by cases h) fun _ => r_next ?_
      with_reducible refine r_seq ?_
      refine r_if (et_b (ev_eq (i := 17) (j := 12) (ev_var rfl) ev_int)) (fun h => by cases h) fun _ => r_next ?_
      with_reducible refine r_seq ?_
      refine r_if (et_b (ev_eq (i := 17) (j := 13) (ev_var rfl) ev_int)) (fun h => by cases h) fun _ => r_next ?_
      with_reducible refine r_seq ?_
      refine r_if (et_b (ev_eq (i := 17) (j := 14) (ev_var rfl) ev_int)) (fun h => by cases h) fun _ => r_next ?_
      with_reducible refine r_seq ?_
      refine r_if (et_b (ev_eq (i := 17) (j := 17) (ev_var rfl) ev_int)) (fun _ => ?_) fun h => by cases h
      exact r_ret (en_call (ea_1 (ev_var rfl)) ⟨s, hs, rfl, rfl⟩).dd (k _ (x_o st_told))
    | click n =>
      with_reducible refine r_seq ?_
      refine r_if (et_b (ev_eq (i := 18) (j := 10) (ev_var rfl) ev_int)) (fun h => by cases h) fun _ => r_next ?_
      with_reducible refine r_seq ?_
      refine r_if (et_b (ev_eq (i := 18) (j := 11) (ev_var rfl) ev_int)) (fun h => by cases h) fun _ => r_next ?_
      with_reducible refine r_seq ?_
      refine r_if (et_b (ev_eq (i := 18) (j := 12) (ev_var rfl) ev_int)) (fun h => by cases h) fun _ => r_next ?_
      with_reducible refine r_seq ?_
      refine r_if (et_b (ev_eq (i := 18) (j := 13) (ev_var rfl) ev_int)) (fun h => by cases h) fun _ => r_next ?_
      with_reducible refine r_seq ?_
      refine r_if (et_b (ev_eq (i := 18) (j := 14) (ev_var rfl) ev_int)) (fun h => by cases h) fun _ => r_next ?_
      with_reducible refine r_seq ?_
      refine r_if (et_b (ev_eq (i := 18) (j := 17) (ev_var rfl) ev_int)) (fun h => by cases h) fun _ => r_next ?_
      with_reducible refine r_seq ?_
      refine r_if (et_b (ev_eq (i := 18) (j := 18) (ev_var rfl) ev_int)) (fun _ => ?_) fun h => by cases h
      exact r_retX (ex_call (ea_2 (ev_var rfl) (ev_ixL (k := 0) (d := .int n) (ev_var rfl) ev_int rfl rfl)) ⟨s, n, hs, rfl, rfl⟩ kE) (fun d v G H e g r => k d e v G H g r)
    | quietAt n d =>
      with_reducible refine r_seq ?_
      refine r_if (et_b (ev_eq (i := 19) (j := 10) (ev_var rfl) ev_int)) (fun h => by cases h) fun _ => r_next ?_
      with_reducible refine r_seq ?_
      refine r_if (et_b (ev_eq (i := 19) (j := 11) (ev_var rfl) ev_int)) (fun h => by cases h) fun _ => r_next ?_
      with_reducible refine r_seq ?_
      refine r_if (et_b (ev_eq (i := 19) (j := 12) (ev_var rfl) ev_int)) (fun h => by cases h) fun _ => r_next ?_
      with_reducible refine r_seq ?_
      refine r_if (et_b (ev_eq (i := 19) (j := 13) (ev_var rfl) ev_int)) (fun h => by cases h) fun _ => r_next ?_
      with_reducible refine r_seq ?_
      refine r_if (et_b (ev_eq (i := 19) (j := 14) (ev_var rfl) ev_int)) (fun h => by cases h) fun _ => r_next ?_
      with_reducible refine r_seq ?_
      refine r_if (et_b (ev_eq (i := 19) (j := 17) (ev_var rfl) ev_int)) (fun h => by cases h) fun _ => r_next ?_
      with_reducible refine r_seq ?_
      refine r_if (et_b (ev_eq (i := 19) (j := 18) (ev_var rfl) ev_int)) (fun h => by cases h) fun _ => r_next ?_
      exact r_retX (ex_call (ea_cons (ev_var rfl) (ea_2 (ev_ixL (k := 0) (d := .int n) (ev_var rfl) ev_int rfl rfl) (ev_ixL (k := 1) (d := .int d) (ev_var rfl) ev_int rfl rfl))) ⟨s, n, d, hs, rfl, rfl⟩ kE) (fun d v G H e g r => k d e v G H g r)
/-! ### the desk -/
theorem ix_aid : ixS ["aid"] "aid" 0 = some (0 + 0) := by decide +kernel
theorem look_aid {a : Addr} : ((["aid"] : List Str).zip [V.ref a]).lookup ("aid" : Str) = some (.ref a) := zip_look (k := 0) (j := 0) ix_aid rfl
def spDi (K : PySem.W.Frag) (CA CB CD : Addr) : Sp := fun vs H Q _ => ∃ G x dx, vs = [.ref x] ∧ Same G H ∧ G x = none ∧ H x = some (.ins CD dx []) ∧
  ∀ G' H' a lb, AidH K CA CB G' H' a lb [none, none, none] Vbhlae.start → G' x = some (.ins CD dx ((["aid"] : List Str).zip [.ref a])) → Same G G' → (∀ y o, y ≠ x → H y = some o → H' y = some o) → (∀ y, y ≠ x → H y ≠ none → G y = none → G' y = none) → H a = none → H lb = none → Q .non H'
theorem sc_Desk_init : FnScope ["self"] ["self"] (defScope s_Desk_init) := ⟨rfl, rfl, rfl, by decide +kernel, rfl, by decide +kernel, by decide +kernel⟩
theorem ok_Desk_init (T : Txt K mg) : FnOk P w K mg base CX0 3 T.Desk_init.f T.Desk_init.fd ["self"] (spDi K T.CA T.CB T.CD) := by
  refine T.Desk_init.F.ok sc_Desk_init (fun vs H Q E h => ?_) (fun cdv A outer s H vs Q E hr h => ⟨_, (pss_one (ps_fld (pv 0) (pe_make0 T.mk_Aid (ok_Aid_init T) (hr.mono (by decide)) rfl T.g_Aid T.Aid_init.b .nil pass0) rfl)), ?_⟩)
  · obtain ⟨G, x, dx, rfl, _⟩ := h
    rfl
  · obtain ⟨G, x, dx, rfl, hG, gx, hx, k⟩ := h
    refine Run.goX (K := K) (G := G) (ds := []) (vs := []) (x := .ref x) 0 hG rfl rfl ?_
    intro σ G1 H1 s1
    refine pt_make ea_nil s1 fun vs G2 H2 g2 r2 => ?_
    have r2 : vs = [] := r2
    subst r2
    intro y dy hyn hdn hne
    have s2 := s1.step g2
    have sm : Same H2 (upd (upd H2 dy (.own y)) y (.ins T.CA dy [])) := fun z o e => by
      rw [upd_ne (ne_of_none e hyn), upd_ne (ne_of_none e hdn)]
      exact e
    refine ⟨G2, y, dy, rfl, s2.gh.gh.trans sm, s2.gh.gh.free hyn, upd_same, fun G3 H3 lb A mv hl => ⟨rfl, ?_⟩⟩
    have s2H : Same H2 H3 := fun z o e => mv.kk z o (ne_of_none e hyn) (sm z o e)
    have g3 : Gh G2 H2 G3 H3 := ⟨mv.gg, s2H, mv.gh, fun z e1 e2 => mv.fr z (some_ne sm e1) e2⟩
    have s3 := s2.step g3
    refine vv_var rfl σ G3 H3 s3 _ fun G4 H4 g4 => ?_
    have s4 := s3.step g4
    have x4 := s4.gh.hh _ _ hx
    have gx4 : G4 x = none := s4.gh.fr x (by rw [hx]; exact fun z => nomatch z) gx
    refine ⟨x, T.CD, dx, [], rfl, x4, T.cl_CD, T.n_aid, (show (0 : Nat) < 1000 by decide), ?_⟩
    have A4 := A.step g4
    have hyH : H y = none := s2.gh.hh.free hyn
    have hlH : H lb = none := by
      cases q : H lb with
      | none => rfl
      | some o => exact absurd hl (some_ne (s2.gh.hh.trans sm) (by rw [q]; exact fun z => nomatch z))
    have xy : x ≠ y := ne_of_none hx hyH
    have xl : x ≠ lb := ne_of_none hx hlH
    have nw : ¬ Wa y lb [none, none, none] x := fun q => by
      rcases q with e | e | e
      · exact xy e
      · exact xl e
      · simp at e
    have sg : Same G4 (upd G4 x (.ins T.CD dx [("aid", .ref y)])) := same_new gx4
    have sh : Same (upd G4 x (.ins T.CD dx [("aid", .ref y)])) (upd H4 x (.ins T.CD dx [("aid", .ref y)])) := fun z o e => by
      by_cases q : z = x
      · rw [q, upd_same] at e
        rw [q, upd_same]
        exact e
      · rw [upd_ne q] at e
        rw [upd_ne q]
        exact s4.gh.gh z o e
    have A5 : AidH K T.CA T.CB (upd G4 x (.ins T.CD dx [("aid", .ref y)])) (upd H4 x (.ins T.CD dx [("aid", .ref y)])) y lb [none, none, none] Vbhlae.start := {
      gh := sh
      gw := fun z hz => by
        have ne : z ≠ x := fun q => nw (q ▸ hz)
        rw [upd_ne ne]
        exact A4.gw z hz
      ia := by
        obtain ⟨dx', vu, vl, h1, h2, h3⟩ := A4.ia
        refine ⟨dx', vu, vl, ?_, Rp.mono sg _ _ h2, Rp.mono sg _ _ h3⟩
        rw [upd_ne (Ne.symm xy)]
        exact h1
      ib := by
        rw [upd_ne (Ne.symm xl)]
        exact A4.ib
      na := A4.na
      uq := A4.uq
      len := A4.len
      bs := fun i o z h1 h2 => (A4.bs i o z h1 h2).step sg fun b e => by
        have : some b ∈ [none, none, none] := e ▸ List.mem_of_getElem? h1
        simp at this
      l3 := rfl }
    refine k _ _ y lb A5 upd_same (s4.gh.gg.trans sg) (fun z o w e => ?_) (fun z w h1 h2 => ?_) hyH hlH
    · rw [upd_ne w]
      exact s4.gh.hh z o e
    · rw [upd_ne w]
      exact s4.gh.fr z h1 h2
end
end Qa

set_option Elab.async false
set_option linter.all false
set_option maxRecDepth 100000
set_option maxHeartbeats 4000000
namespace Qa
open PySem PySem.Spec PyProof.Rows L2
open Vbhlae (at_ trim common chain smaller Band Aid present Q bit listRow qRow step Call inr guarded setBand bandAt noBand)
/-- o.m(e, ..) within a try -/
def tMethX (C : Addr) (m : Str) (sp : Sp) (E : L2.St → XK) (ta : TE) (t : TA) : TE := fun σ H Q => ta σ H fun x H1 => ∃ a dx fs, x = .ref a ∧ H1 a = some (.ins C dx fs) ∧ fs.lookup m = none ∧ t σ H1 fun vs H2 => sp (x :: vs) H2 Q (E σ)
theorem pe_methX {X : Cx} {CX : CXT} {k : Nat} {f C : Addr} {fd : FuncData} {ps : List Str} {sp : Sp} {E : L2.St → XK} {m : Str} {pos apos : Pos} {e o : Expr} {es : List Expr} {ta : TE} {t : TA} {pl : Sem Bool} (he : PE X o ta) (c : Cls X.K C) (hm : Meth X.K C m f)
    (F : FnOk X.prog X.w X.K X.mg X.base CX k f fd ps sp) (hr : Room k X.A) (hb : Binds X.K fd ps []) (hx : ∀ σ, PassesAt CX X σ (E σ)) (ha : PA X (e :: es) t)
    (hst : starEach (e :: es) X.env = (false, eval e X.env) :: starEach es X.env := by rfl) (hpl : (backTo pos (starEach es X.env)).any (·.1) = false := by rfl)
    (ht : eval (.Call (.Attribute o m apos) (e :: es) [] pos) X.env = (do
      let ov ← eval o X.env
      standAt apos.atName
      let (f, first) ← holding [ov] (getMethod ov m pl)
      callWith pos f first (backTo pos (starEach (e :: es) X.env)) (backToKw pos (keywordEach [] X.env))) := by rfl) :
    PE X (.Call (.Attribute o m apos) (e :: es) [] pos) (tMethX C m sp E ta t) := by
  refine ⟨fun pins s σ H Q I h => ?_⟩
  refine PySem.W.methodCall_KW (pl := pl) (thn (he.run pins s σ H _ I h) fun u s1 ⟨x, H1, I1, rx, a, dx, fs, ex, ea, l, q⟩ => ?_) ht
  subst ex
  obtain rfl : u = Value.ref a := rx
  refine getmeth_ok I1 ea c hm l ?_
  refine PySem.W.callWith_K (first := [.ref a]) (h₀ := X.base) I.ok.mod.kin hm.kp (thn (ha.run pos pins s1 σ H1 _ I1 q) fun us s2 ⟨vs, H2, I2, r, q2⟩ => ⟨I2.kIn, ?_⟩) hst hpl
  exact run_fnS (us := .ref a :: us) (vs := .ref a :: vs) F hr hb (hx σ) I2 (.cons rfl r) q2
section
variable {P : Program} {w : World} {K : PySem.W.Frag} {mg : Str → Option Value} {base : Heap} {G0 H0 G H G1 H1 : Hp} {a lb : Addr} {os : List (Option Addr)} {s : Aid} {Γ : List Ent} {ta te : TE} {d : D} {l : List D} {De : Ends}
theorem step_same {c : Call} (h : chg c = false) : (step s c).1 = s := by
  cases c with
  | leak u l => cases h
  | band i n d u l => cases h
  | gain i n d => cases h
  | mute i => cases h
  | ring => exact gd_1 rfl
  | quiet => exact gd_1 rfl
  | steps => exact gd_1 rfl
  | check l =>
    refine gd_1 ?_
    split
    · rfl
    · rfl
  | loud => exact gd_1 rfl
  | play l => exact gd_1 rfl
  | freed n l => exact gd_1 rfl
  | volume d m => exact gd_1 rfl
  | alone => rfl
  | row l => exact gd_1 rfl
  | ends => exact gd_1 rfl
  | later i k => cases h
  | turn i => cases h
  | told => rfl
  | click n => exact gd_1 rfl
  | quietAt n d => exact gd_1 rfl
theorem pt_retop {rr : R2} {tb : TE} {σ : L2.St} (h : ta σ H (fun x H1 => tb σ H1 fun y H2 => rr x y H2 De.rt)) : tRet (tOp rr ta tb) De σ H := h
theorem pt_ev {σ : L2.St} {Q : VK} (h : Evd K G0 H0 Γ te d) (s : Stt K G0 H0 Γ σ G1 H1) (k : ∀ v G2 H2, Gh G1 H1 G2 H2 → Rp K G2 d v → Q v H2) : te σ H1 Q := h σ G1 H1 s Q k
theorem pt_vv {σ : L2.St} {Q : VK} {v : V} (h : EvV K G0 H0 Γ te v) (s : Stt K G0 H0 Γ σ G1 H1) (k : ∀ G2 H2, Gh G1 H1 G2 H2 → Q v H2) : te σ H1 Q := h σ G1 H1 s Q k
theorem pt_ea {tr : TA} {σ : L2.St} {Q : List V → Hp → Prop} (h : EvA K G0 H0 Γ tr l) (s : Stt K G0 H0 Γ σ G1 H1) (k : ∀ vs G2 H2, Gh G1 H1 G2 H2 → RpL K G2 l vs → Q vs H2) : tr σ H1 Q := h σ G1 H1 s Q k
def SpT (K : PySem.W.Frag) (CA CB CD CR : Addr) : Sp := fun vs H Q E => ∃ (G : Hp) (dk dx a lb : Addr) (os : List (Option Addr)) (s : Aid) (ws : List V) (c : Call), vs = .ref dk :: ws ∧ AidH K CA CB G H a lb os s ∧ AidOk s ∧ okC c ∧ G dk = some (.ins CD dx ((["aid"] : List Str).zip [.ref a])) ∧
  RpL K G [.int (numC c), rowD (nsC c), rowsD (rwC c)] ws ∧
  (∀ l, toX (step s c).2 = .ok (rowD l) → ∀ v G' H' os', AidH K CA CB G' H' a lb os' (step s c).1 → Mv (Wa a lb os) G H G' H' → (∀ b, some b ∈ os' → some b ∈ os ∨ H b = none) → Rp K G' (rowD l) v → Q v H') ∧
  (∀ k, toX (step s c).2 = .error k → Er CR E H k)
theorem sc_Desk_told_by : FnScope ["self", "call", "n", "rows"] ["self", "call", "n", "rows"] (defScope s_Desk_told_by) := ⟨rfl, rfl, rfl, by decide +kernel, rfl, by decide +kernel, by decide +kernel⟩
theorem ok_Desk_told_by (T : Txt K mg) (S : SeerB P base) : FnOk P w K mg base (L2.CX P w) 48 T.Desk_told_by.f T.Desk_told_by.fd ["self", "call", "n", "rows"] (SpT K T.CA T.CB T.CD T.CR) := by
  refine T.Desk_told_by.F.okX sc_Desk_told_by (fun vs H Q E h => ?_) (fun cdv A outer s H vs Q E hr h => ⟨_, (pss_cons (ps_if (PW.pt (pw_or (pt_cmpR op_lt (pv 1) pe_int (nomark _)) (pw_or (pt_cmpR op_eq (pv 1) pe_int (nomark _)) (pw_or1 (pt_cmpR op_eq (pv 1) pe_int (nomark _)))))) (pss_one (ps_ret (pe_own T.changed (ok_changed T S) hr (pa_cons (pe_fldk K (pv 0)) (pa_cons (pv 1) (pa_cons (pv 2) (pa_cons (pv 3) pa_nil)))) (px rfl rfl rfl rfl)))) pss_nil)
      (pss_cons (ps_if (pt_cmpR op_lt (pv 1) pe_int (nomark _)) (pss_one (ps_ret (pe_own T.of_ring (ok_of_ring T S) hr (pa_cons (pe_fldk K (pv 0)) (pa_cons (pv 1) (pa_cons (pv 3) pa_nil))) (px rfl rfl rfl rfl)))) pss_nil)
      (pss_one (ps_ret (pe_own T.of_others (ok_of_others T S) hr (pa_cons (pe_fldk K (pv 0)) (pa_cons (pv 1) (pa_cons (pv 2) (pa_cons (pv 3) pa_nil)))) (px rfl rfl rfl rfl)))))), ?_⟩)
  · obtain ⟨G, dk, dx, a, lb, os, s, ws, c, rfl, _, _, _, _, hR, _⟩ := h
    rw [List.length_cons, hR.len]
    rfl
  · obtain ⟨G, dk, dx, a, lb, os, s, ws, c, rfl, A, hs, hc, hdk, hR, k, kE⟩ := h
    refine Run.goX (K := K) (G := G) 0 A.gh hR rfl ?_
    have fa : EvV K G H [.ex (.ref dk), .fz (.int (numC c)), .fz (rowD (nsC c)), .fz (rowsD (rwC c))] (tFld K (tVar 0) "aid") (.ref a) := vv_fld (vv_var rfl) (A.gh _ _ hdk) T.cl_CD T.n_aid look_aid
    with_reducible refine r_seq ?_
    refine r_if (b := chg c) (et_or (et_b (ev_lt (ev_var rfl) ev_int)) fun _ => et_or (et_b (ev_eq (ev_var rfl) ev_int)) fun _ => et_b (ev_eq (ev_var rfl) ev_int)) (fun hb => ?_) fun hb => ?_
    · exact r_retM A fa (ea_cons (ev_var rfl) (ea_2 (ev_var rfl) (ev_var rfl))) ⟨c, hs, hc, hb, rfl, rfl⟩ k kE
    · refine r_next ?_
      have k2 : ∀ l, toX (step s c).2 = .ok (rowD l) → ∀ v G' H', Gh G H G' H' → Rp K G' (rowD l) v → Q v H' := fun l e v G' H' g r => k l e v G' H' os (by rw [step_same hb]; exact A.step g) g.mv (fun b hb => .inl hb) r
      with_reducible refine r_seq ?_
      refine r_if (et_b (ev_lt (ev_var rfl) ev_int)) (fun h10 => ?_) fun h10 => ?_
      · have rg : rgC c = true := by
          unfold rgC
          unfold chg at hb
          have h4 : ¬ numC c < 4 := of_decide_eq_false (Bool.or_eq_false_iff.mp hb).1
          rw [h10, decide_eq_true (by omega)]
          rfl
        exact r_retA A fa (ea_2 (ev_var rfl) (ev_var rfl)) ⟨s, c, hs, hc, rg, rfl, rfl⟩ k2 kE
      · refine r_next ?_
        have rg : otC c = true := by
          unfold otC rgC
          rw [hb, h10, Bool.and_false]
          rfl
        exact r_retA A fa (ea_cons (ev_var rfl) (ea_2 (ev_var rfl) (ev_var rfl))) ⟨s, c, hs, hc, rg, rfl, rfl⟩ k2 kE
def SpA (K : PySem.W.Frag) (CA CB CD : Addr) : Sp := fun vs H Q _ => ∃ (G : Hp) (dk dx a lb : Addr) (os : List (Option Addr)) (s : Aid) (ws : List V) (c : Call), vs = .ref dk :: ws ∧ AidH K CA CB G H a lb os s ∧ AidOk s ∧ okC c ∧ (step s c).2.length ≤ 10000000 ∧ G dk = some (.ins CD dx ((["aid"] : List Str).zip [.ref a])) ∧
  RpL K G [.int (numC c), rowD (nsC c), rowsD (rwC c)] ws ∧
  (∀ v G' H' os', AidH K CA CB G' H' a lb os' (step s c).1 → Mv (Wa a lb os) G H G' H' → (∀ b, some b ∈ os' → some b ∈ os ∨ H b = none) → Rp K G' (rowD (step s c).2) v → Q v H')
theorem look_told {v : V} : ((["aid"] : List Str).zip [v]).lookup ("told_by" : Str) = none := zip_none (j := 0) (by decide +kernel)
theorem sc_Desk_answer : FnScope ["self", "call", "n", "rows", "e"] ["self", "call", "n", "rows"] (defScope s_Desk_answer) := ⟨rfl, rfl, rfl, by decide +kernel, rfl, by decide +kernel, by decide +kernel⟩
theorem ok_Desk_answer (T : Txt K mg) (S : SeerB P base) : FnOk P w K mg base CX0 49 T.Desk_answer.f T.Desk_answer.fd ["self", "call", "n", "rows"] (SpA K T.CA T.CB T.CD) := by
  refine T.Desk_answer.F.ok sc_Desk_answer (fun vs H Q E h => ?_) (fun cdv A outer s H vs Q E hr h => ⟨_, pss_one (ps_try_as (i := 4) (tb := fun W => tRet (tOp rCat (tLst (tCons (tC (.int 0)) tNil)) (tMethX T.CD "told_by" (SpT K T.CA T.CB T.CD T.CR) (WE W) (tVar 0) (tCons (tVar 1) (tCons (tVar 2) (tCons (tVar 3) tNil)))))) (ts := fun a cls d => tRet (tLst (tCons (tXf a cls d T.CR "code" (tVar 4)) tNil))) (Wout := fun _ _ _ _ => False) rfl rfl sc_Desk_answer.nd rfl rfl ⟨rfl, by decide, Or.inl T.g_Refused⟩ takes0
      (fun W pn xe tk _ => pss_one (ps_ret (pe_op op_cat (pe_lst (pa_cons pe_int pa_nil)) (pe_methX (pv 0) T.cl_CD T.Desk_told_by.m (ok_Desk_told_by T S) (hr.mono (by decide)) T.Desk_told_by.b (fun σ => passAt tk σ) (by exact (pa_cons (pv 1) (pa_cons (pv 2) (pa_cons (pv 3) pa_nil))))))))
      (fun a oe cls d pn hz hf => pss_one (ps_ret (pe_lst (pa_cons (pe_xf T.xf T.noC hz hf (pv 4)) pa_nil))))), ?_⟩)
  · obtain ⟨G, dk, dx, a, lb, os, s, ws, c, rfl, _, _, _, _, _, hR, _⟩ := h
    rw [List.length_cons, hR.len]
    rfl
  · obtain ⟨G, dk, dx, a, lb, os, s, ws, c, rfl, A, hs, hc, hlen, hdk, hR, k⟩ := h
    refine Run.goX (K := K) (G := G) 1 A.gh hR rfl ?_
    intro σ G1 H1 s1
    refine pt_retop ?_
    refine pt_ev (te := tLst (tCons (tC (.int 0)) tNil)) (d := rowD [0]) (en_lst (ea_1 ev_int) (show (1 : Nat) ≤ sizeLine by decide)).dd s1 fun x G2 H2 g2 r2 => ?_
    have s2 := s1.step g2
    refine pt_vv (te := tVar 0) (v := .ref dk) (vv_var rfl) s2 fun G3 H3 g3 => ?_
    have s3 := s2.step g3
    refine ⟨dk, dx, _, rfl, s3.gh.gh _ _ (s3.gh.gg _ _ hdk), look_told, ?_⟩
    refine pt_ea (tr := tCons (tVar 1) (tCons (tVar 2) (tCons (tVar 3) tNil))) (ea_cons (ev_var rfl) (ea_2 (ev_var rfl) (ev_var rfl))) s3 fun ws' G4 H4 g4 r4 => ?_
    have s4 := s3.step g4
    have A4 := A.step s4.gh
    refine ⟨G4, dk, dx, a, lb, os, s, ws', c, rfl, A4, hs, hc, s4.gh.gg _ _ hdk, r4, fun l e y G5 H5 os' A5 mv nw r5 => ?_, fun n e dd H5 sm dn ex => ?_⟩
    · have sh : (step s c).2 = 0 :: (step s c).2.tail := by
        rcases step_shape s c with ⟨t, ht⟩ | ⟨n, hn, ht⟩
        · rw [ht]
          rfl
        · rw [ht, toX_e hn] at e
          cases e
      have el := toX_row e
      rw [el] at r5
      have r2' := Rp.mono ((g3.gg.trans g4.gg).trans mv.gg) _ _ r2
      obtain ⟨p, vs, e1, e2, e2', e3⟩ := lst_seq mv.gh r2'
      obtain ⟨q, us, f1, f2, f2', f3⟩ := lst_seq mv.gh r5
      refine ⟨p, q, vs, us, e1, f1, e2, f2, ?_, fun r hr => ?_⟩
      · rw [e3.len, f3.len, List.length_map, List.length_map]
        have : (10000001 : Nat) ≤ sizeLine := by decide
        rw [sh, List.length_cons] at hlen
        show 1 + _ ≤ _
        omega
      · have ga := Gh.allocPut (o := .lst (vs ++ us)) mv.gh hr
        refine k (.ref r) _ _ os' (A5.step ga) ((s4.gh.mv.trans mv).trans ga.mv) (fun b hb => (nw b hb).imp id fun z => s4.gh.hh.free z) ?_
        rw [sh]
        exact ⟨r, _, rfl, upd_same, RpL.mono (same_new (mv.gh.free hr)) _ _ (e3.append f3)⟩
    · have sh : step s c = (s, [n]) := by
        rcases step_shape s c with ⟨t, ht⟩ | ⟨n', hn, ht⟩
        · rw [ht, toX_o] at e
          cases e
        · rw [ht, toX_e hn] at e
          cases e
          exact ht
      refine ⟨true, T.te, fun _ a0 ha0 => ?_, fun q => Bool.noConfusion q⟩
      have gx : Gh G4 H4 G4 H5 := ⟨Same.refl _, sm, s4.gh.gh.trans sm, fun _ _ z => z⟩
      have s5 := s4.step gx
      have hl : σ.length = 5 := s5.env.len
      refine ⟨.ref a0, List.getElem?_set_self (by omega), rfl, rfl, dd, _, .int n, rfl, ex, rfl, ?_⟩
      refine ⟨show (1 : Nat) ≤ sizeLine by decide, fun p hp => ?_⟩
      have ga := Gh.allocPut (o := .lst [.int n]) gx.gh hp
      refine k (.ref p) _ _ os ?_ ((s5.gh.mv).trans ga.mv) (fun b hb => .inl hb) ?_
      · rw [sh]
        exact (A4.step gx).step ga
      · rw [sh]
        exact ⟨p, _, rfl, upd_same, .int n, _, rfl, rfl, rfl⟩
end
end Qa

set_option Elab.async false
set_option linter.all false
set_option maxRecDepth 100000
set_option maxHeartbeats 4000000
namespace Qa
open PySem PySem.Spec PyProof.Rows L2
open Vbhlae (at_ trim common chain smaller Band Aid present Q bit listRow qRow step Call inr guarded setBand bandAt noBand)
/-! ### rows behind a place of the list -/
theorem row_at {ns : List Int} {i : Nat} {x t : List Int} (h : PyFlat.row (ns.drop i) = some (x, t)) : i < ns.length ∧ at_ ns i = (x.length : Int) ∧ x = (ns.drop (i + 1)).take x.length ∧ i + 1 + x.length ≤ ns.length ∧ t = ns.drop (i + 1 + x.length) := by
  by_cases hi : i < ns.length
  · rw [drop_cons hi] at h
    unfold PyFlat.row at h
    have h : (if 0 ≤ at_ ns i ∧ (at_ ns i).toNat ≤ (ns.drop (i + 1)).length then some ((ns.drop (i + 1)).take (at_ ns i).toNat, (ns.drop (i + 1)).drop (at_ ns i).toNat) else none) = some (x, t) := h
    by_cases c : 0 ≤ at_ ns i ∧ (at_ ns i).toNat ≤ (ns.drop (i + 1)).length
    · rw [if_pos c] at h
      have e := Option.some.inj h
      have e1 : (ns.drop (i + 1)).take (at_ ns i).toNat = x := congrArg Prod.fst e
      have e2 : (ns.drop (i + 1)).drop (at_ ns i).toNat = t := congrArg Prod.snd e
      have lx : x.length = (at_ ns i).toNat := by
        rw [← e1, List.length_take]
        omega
      have ld : (ns.drop (i + 1)).length = ns.length - (i + 1) := List.length_drop
      refine ⟨hi, by omega, by rw [lx]; exact e1.symm, by omega, ?_⟩
      rw [lx, ← e2, List.drop_drop]
    · rw [if_neg c] at h
      cases h
  · rw [List.drop_eq_nil_of_le (by omega)] at h
    cases h
def endP (i : Nat) (rs : List (List Int)) : Nat := i + (rs.map fun r => r.length + 1).sum
theorem rows_at {ns : List Int} : ∀ {k i : Nat} {xs : List (List Int)} {t : List Int}, PyFlat.rows k (ns.drop i) = some (xs, t) → xs.length = k ∧ t = ns.drop (endP i xs) ∧ (i ≤ ns.length → endP i xs ≤ ns.length) ∧
    ∀ (j : Nat) (hj : j < xs.length), endP i (xs.take j) < ns.length ∧ at_ ns (endP i (xs.take j)) = (xs[j].length : Int) ∧ xs[j] = (ns.drop (endP i (xs.take j) + 1)).take xs[j].length ∧ endP i (xs.take j) + 1 + xs[j].length ≤ ns.length
  | 0, i, xs, t, h => by
    cases h
    refine ⟨rfl, ?_, fun z => ?_, fun j hj => absurd hj (Nat.not_lt_zero _)⟩
    · unfold endP
      simp
    · unfold endP
      simpa using z
  | k + 1, i, xs, t, h => by
    unfold PyFlat.rows at h
    cases q : PyFlat.row (ns.drop i) with
    | none =>
      rw [q] at h
      cases h
    | some p =>
      obtain ⟨x, s⟩ := p
      rw [q] at h
      obtain ⟨r1, r2, r3, r4, r5⟩ := row_at q
      have h : (match PyFlat.rows k s with
        | none => none
        | some (xs, t) => some (x :: xs, t)) = some (xs, t) := h
      cases q2 : PyFlat.rows k s with
      | none =>
        rw [q2] at h
        cases h
      | some p2 =>
        obtain ⟨ys, u⟩ := p2
        rw [q2] at h
        cases h
        rw [r5] at q2
        obtain ⟨i1, i2, i3, i4⟩ := rows_at q2
        have e : ∀ l : List (List Int), endP i (x :: l) = endP (i + 1 + x.length) l := fun l => by
          unfold endP
          rw [List.map_cons, List.sum_cons]
          omega
        refine ⟨by rw [List.length_cons, i1], by rw [e]; exact i2, fun _ => by rw [e]; exact i3 r4, fun j hj => ?_⟩
        cases j with
        | zero =>
          rw [List.take_zero]
          unfold endP
          exact ⟨r1, r2, r3, r4⟩
        | succ j =>
          rw [List.take_succ_cons, e]
          exact i4 j (by simpa using hj)
section
variable {P : Program} {w : World} {K : PySem.W.Frag} {mg : Str → Option Value} {base : Heap} {G0 H0 G H G1 H1 : Hp} {Γ : List Ent} {ta tb te : TE} {d : D} {l : List D} {De : Ends} {c : Addr} {ns : List Int} {i : Int}
/-! ### the request's list, frozen or not -/
theorem sql_mono (e : Same G H) {a : Addr} {vs : List V} (h : SqL K G a vs) : SqL K H a vs := by
  rcases h with (h | ⟨o, h⟩) | h
  · exact .inl (.inl (e _ _ h))
  · exact .inl (.inr ⟨o, e _ _ h⟩)
  · exact .inr h
theorem es_len (ha : EvV K G0 H0 Γ ta (.ref c)) (hc : SqL K H0 c (ns.map V.int)) : Evd K G0 H0 Γ (tCB (fun xs H Q => ∃ p ys, xs = [.ref p] ∧ (SqL K H p ys ∨ SqT K H p ys) ∧ Q (.int ys.length) H) (tCons ta tNil)) (.int (ns.length : Int)) := fun σ G H s Q q =>
  ha σ G H s _ fun G1 H1 g1 => ⟨c, ns.map V.int, rfl, .inl (sql_mono (s.step g1).gh.hh hc), q _ G1 H1 g1 (by rw [List.length_map] <;> rfl)⟩
theorem es_ix {k : Nat} (ha : EvV K G0 H0 Γ ta (.ref c)) (hc : SqL K H0 c (ns.map V.int)) (hb : Evd K G0 H0 Γ tb (.int i)) (hk : i = (k : Int)) (h : k < ns.length) : Evd K G0 H0 Γ (tOp (rIxL K) ta tb) (.int (at_ ns k)) := fun σ G H s Q q =>
  ha σ G H s _ fun G1 H1 g1 => hb σ G1 H1 (s.step g1) _ fun y G2 H2 g2 r2 => ⟨c, ns.map V.int, i, .int (at_ ns k), rfl, r2, sql_mono ((s.step g1).step g2).gh.hh hc, atI_get hk (by rw [List.getElem?_map, List.getElem?_eq_getElem h, at_lt h]; rfl), q _ G2 H2 (g1.trans g2) rfl⟩
theorem es_slice {tl th : TO} {lo hi : Option Int} (ha : EvV K G0 H0 Γ ta (.ref c)) (hc : SqL K H0 c (ns.map V.int)) (h1 : EvO K G0 H0 Γ tl lo) (h2 : EvO K G0 H0 Γ th hi) : EvN K G0 H0 Γ (tSl (rSlL K) ta tl th) (cutD (ns.map D.int) lo hi) := fun σ G H s Q q =>
  ha σ G H s _ fun G1 H1 g1 => h1 σ G1 H1 (s.step g1) _ fun G2 H2 g2 => h2 σ G2 H2 ((s.step g1).step g2) _ fun G3 H3 g3 => by
    have g : Gh G H G3 H3 := (g1.trans g2).trans g3
    exact ⟨c, ns.map V.int, rfl, sql_mono (s.step g).gh.hh hc, fun p hp => q p _ G3 _ (g.trans (Gh.alloc g.gh hp)) (g.hh.free hp) (g.gh.free hp) upd_same (rpl_ints ns).cut⟩
def spLf (K : PySem.W.Frag) : Sp := fun vs H Q _ => ∃ (G : Hp) (c : Addr) (ns : List Int) (i k : Nat) (rs : List (List Int)) (t : List Int), vs = [.ref c, .int (i : Int), .int (k : Int)] ∧ Same G H ∧ SqL K H c (ns.map V.int) ∧ k ≤ 10 ∧ PyFlat.rows k (ns.drop i) = some (rs, t) ∧
  ∀ v G' H', Gh G H G' H' → Rp K G' (.tup [rowsD rs, .int (endP i rs : Int)]) v → Q v H'
theorem sc_lists_from : FnScope ["calls", "at", "many", "found", "k", "end"] ["calls", "at", "many"] (defScope s_lists_from) := ⟨rfl, rfl, rfl, by decide +kernel, rfl, by decide +kernel, by decide +kernel⟩
theorem ok_lists_from (T : Txt K mg) : FnOk P w K mg base CX0 1 T.lists_from.f T.lists_from.fd ["calls", "at", "many"] (spLf K) := by
  refine T.lists_from.F.ok sc_lists_from (fun vs H Q E h => ?_) (fun cdv A outer s H vs Q E hr h => ⟨_, (pss_cons (ps_set (i := 3) sc_lists_from.nd rfl (by first | exact Or.inl rfl | exact Or.inr rfl) (pe_lst pa_nil))
      (pss_cons (ps_for PassesOwn.never rfl (pi_range1 rfl T.b_range (pa_cons (pv 2) pa_nil)) (pg_name (i := 4) sc_lists_from.nd rfl (by first | exact Or.inl rfl | exact Or.inr rfl)) (pss_cons (ps_set (i := 5) sc_lists_from.nd rfl (by first | exact Or.inl rfl | exact Or.inr rfl) (pe_op op_add (pe_op op_add (pv 1) pe_int) (pe_ix (ix_listk K) (pv 0) (pv 1) (fun _ _ => rfl))))
      (pss_cons (ps_expr (pe_bm PySem.F.plainAttrs_list PySem.F.slot_list_append PySem.F.type_list_append mt_append (pv 3) (pa_cons (pe_slice (sl_listk K) (pv 0) (po_some (pe_op op_add (pv 1) pe_int)) (po_some (pv 5))) pa_nil)))
      (pss_one (ps_set (i := 1) sc_lists_from.nd rfl (by first | exact Or.inl rfl | exact Or.inr rfl) (pv 5))))))
      (pss_one (ps_ret (pe_tup (pa_cons (pv 3) (pa_cons (pv 1) pa_nil))))))), ?_⟩)
  · obtain ⟨G, c, ns, i, k, rs, t, rfl, _⟩ := h
    rfl
  · obtain ⟨G, c, ns, i, k, rs, t, rfl, hG, hc, hk, hrows, q⟩ := h
    obtain ⟨r1, r2, r3, r4⟩ := rows_at hrows
    refine Run.goX (K := K) (G := G) (ds := [.int (i : Int), .int (k : Int)]) 3 hG (rpl_ints [(i : Int), (k : Int)]) rfl ?_
    with_reducible refine r_seq ?_
    refine r_asgN (l := []) (en_lst ea_nil (Nat.zero_le _)) ?_
    with_reducible refine r_seq ?_
    refine r_for (ei_range1 (ea_1 (ev_var rfl)) ?_ ?_) (fun j => [.ex (.ref c), .fz (.int (endP i (rs.take j) : Int)), .fz (.int (k : Int)), .ow ((rs.take j).map rowD), .no, .no]) ⟨.inr rfl, .inr ?_, .inr rfl, .inr rfl, .inr rfl, .inr rfl, trivial⟩ ?_ ?_
    · omega
    · omega
    · rw [List.take_zero]
      unfold endP
      simp only [List.map_nil, List.sum_nil, Nat.add_zero]
    · intro G1 j ds hi
      obtain ⟨hj, rfl⟩ := rngD_at hi
      have hj : j < rs.length := by
        rw [r1]
        omega
      obtain ⟨p1, p2, p3, p4⟩ := r4 j hj
      have en : endP i (rs.take (j + 1)) = endP i (rs.take j) + 1 + rs[j].length := by
        unfold endP
        rw [List.take_succ_eq_append_getElem hj, List.map_append, List.sum_append]
        simp only [List.map_cons, List.map_nil, List.sum_cons, List.sum_nil]
        omega
      with_reducible refine r_seq ?_
      refine r_asg (d := .int (endP i (rs.take (j + 1)) : Int)) (Evd.cast (ev_add (ev_add (ev_var rfl) ev_int) (es_ix (vv_var rfl) hc (ev_var rfl) rfl p1)) ?_) ?_
      · rw [p2, en]
        push_cast
        rfl
      with_reducible refine r_seq ?_
      refine r_app (n := 3) (d := rowD rs[j]) rfl rfl (EvN.dd (EvN.cast (es_slice (lo := some ((endP i (rs.take j) + 1 : Nat) : Int)) (hi := some (endP i (rs.take (j + 1)) : Int)) (vv_var rfl) hc (ev_part (Evd.cast (ev_add (ev_var rfl) ev_int) (by push_cast; rfl))) (ev_part (ev_var rfl))) ?_)) ?_ ?_
      · rw [cut_ints (by omega) (by omega), en]
        have e : endP i (rs.take j) + 1 + rs[j].length - (endP i (rs.take j) + 1) = rs[j].length := by omega
        rw [e, ← p3]
      · rw [List.length_map, List.length_take]
        exact Nat.lt_of_lt_of_le (show _ < 1000 by omega) (by decide)
      · refine r_asg (ev_var rfl) (r_at ⟨.inr rfl, .inr rfl, .inr rfl, .inr ?_, .inl rfl, .inl rfl, trivial⟩)
        rw [List.take_succ_eq_append_getElem hj, List.map_append]
        rfl
    · rw [rngD_len, Int.toNat_natCast, ← r1, List.take_length]
      refine r_freeze (n := 3) rfl rfl ?_
      exact r_ret (ev_tup (ea_2 (ev_var rfl) (ev_var rfl)) (show 2 ≤ sizeLine by decide)) q
end
end Qa

set_option Elab.async false
set_option linter.all false
set_option maxRecDepth 100000
set_option maxHeartbeats 1000000
namespace Qa
open PySem PySem.Spec PyProof.Rows L2
open Vbhlae (at_ trim common chain smaller Band Aid present Q bit listRow qRow Call inr)
/-! ### the calls that are left -/
theorem whole_id (c : List (List Int)) : PyVbhlae.whole c = c := by
  unfold PyVbhlae.whole
  split <;> rfl
theorem whole_bl {l : List Int} (h : l.all (fun z => VbhlaeNeutral.whole60 z) = true) : bl 60 l := fun x hx => by
  have := List.all_eq_true.mp h x hx
  unfold VbhlaeNeutral.whole60 at this
  rw [Bool.and_eq_true, decide_eq_true_eq, decide_eq_true_eq] at this
  have : x.natAbs ≤ 10 ^ 18 := by omega
  exact Nat.lt_of_le_of_lt this (by decide)
theorem row_in {l : List Int} (h1 : decide (l.length ≤ 220) = true) (h2 : l.all (fun z => VbhlaeNeutral.whole60 z) = true) : l.length ≤ 220 ∧ bl 60 l := ⟨of_decide_eq_true h1, whole_bl h2⟩
theorem in_1 {l : List Int} {p : List Int → Prop} (h : p l) : ∀ r ∈ [l], p r := fun r hr => by
  rcases List.mem_cons.mp hr with e | e
  · rw [e]
    exact h
  · cases e
theorem in_2 {l m : List Int} {p : List Int → Prop} (h : p l) (h2 : p m) : ∀ r ∈ [l, m], p r := fun r hr => by
  rcases List.mem_cons.mp hr with e | e
  · rw [e]
    exact h
  · exact in_1 h2 r e
theorem asked_of {c : List (List Int)} (h : VbhlaeNeutral.asked1 c = true) : ∃ cc, VbhlaeNeutral.callOf c = some cc ∧ okC cc := by
  unfold VbhlaeNeutral.asked1 at h
  split at h
  · simp only [Bool.and_eq_true] at h
    exact ⟨_, rfl, in_2 (row_in h.1 h.2.2.1) (row_in h.2.1 h.2.2.2)⟩
  · simp only [Bool.and_eq_true] at h
    exact ⟨_, rfl, in_2 (row_in h.2.2.2.1 h.2.2.2.2.2.1) (row_in h.2.2.2.2.1 h.2.2.2.2.2.2)⟩
  · exact ⟨_, rfl, fun r hr => by cases hr⟩
  · exact ⟨_, rfl, fun r hr => by cases hr⟩
  · exact ⟨_, rfl, fun r hr => by cases hr⟩
  · exact ⟨_, rfl, fun r hr => by cases hr⟩
  · exact ⟨_, rfl, fun r hr => by cases hr⟩
  · simp only [Bool.and_eq_true] at h
    exact ⟨_, rfl, in_1 (row_in h.1 h.2)⟩
  · exact ⟨_, rfl, fun r hr => by cases hr⟩
  · simp only [Bool.and_eq_true] at h
    exact ⟨_, rfl, in_1 (row_in h.1 h.2)⟩
  · simp only [Bool.and_eq_true] at h
    exact ⟨_, rfl, in_1 (row_in h.2.1 h.2.2)⟩
  · exact ⟨_, rfl, fun r hr => by cases hr⟩
  · exact ⟨_, rfl, fun r hr => by cases hr⟩
  · simp only [Bool.and_eq_true] at h
    exact ⟨_, rfl, in_1 (row_in h.1 h.2)⟩
  · exact ⟨_, rfl, fun r hr => by cases hr⟩
  · exact ⟨_, rfl, fun r hr => by cases hr⟩
  · exact ⟨_, rfl, fun r hr => by cases hr⟩
  · exact ⟨_, rfl, fun r hr => by cases hr⟩
  · exact ⟨_, rfl, fun r hr => by cases hr⟩
  · exact ⟨_, rfl, fun r hr => by cases hr⟩
  · cases h
def wholeL : List Int := [0, 3, 3, 1, 0, 0, 0, 0, 0, 0, 1, 2, 0, 0, 0, 2, 1, 0, 1, 2]
def listsL : List Int := [2, 2, 0, 0, 0, 0, 0, 1, 0, 1, 1, 0, 0, 1, 0, 0, 0, 0, 0, 0]
theorem whole_at (c : Call) : (wholeL.map D.int)[(numC c).toNat]? = some (.int ((nsC c).length : Int)) := by
  cases c <;> rfl
theorem lists_at (c : Call) : (listsL.map D.int)[(numC c).toNat]? = some (.int ((rwC c).length : Int)) := by
  cases c <;> rfl
theorem num_nat (c : Call) : numC c = ((numC c).toNat : Int) := by
  cases c <;> rfl
theorem shape_at (c : Call) : PyVbhlae.shape (numC c) = some ((nsC c).length, (rwC c).length) := by
  cases c <;> rfl
theorem rw_few (c : Call) : (rwC c).length ≤ 10 := by
  cases c <;> simp [rwC]
structure Left (ns : List Int) (i : Nat) (s : Aid) (out : List Int) (raws : List (List (List Int))) : Prop where
  il : i ≤ ns.length
  cs : ∃ f, PyFlat.calls PyVbhlae.shape f (ns.drop i) = some raws
  ok : raws.all VbhlaeNeutral.asked1 = true
  tot : out ++ PyFlat.told (PyFlat.played VbhlaeNeutral.step s raws) = PyVbhlae.answers ns
  ls : (PyVbhlae.answers ns).length ≤ 10000000
  sok : AidOk s
theorem Left.first {ns : List Int} (h : PyVbhlae.answers_asked ns = true) : ∃ raws, Left ns 0 Vbhlae.start [] raws := by
  unfold PyVbhlae.answers_asked at h
  cases q : PyFlat.calls PyVbhlae.shape ns.length ns with
  | none =>
    rw [q] at h
    cases h
  | some raws =>
    rw [q] at h
    simp only [Bool.and_eq_true] at h
    have hm : raws.map PyVbhlae.whole = raws := by
      conv => rhs; rw [← List.map_id raws]
      exact List.map_congr_left fun c _ => whole_id c
    rw [hm] at h
    have ha := h.1.2
    unfold VbhlaeNeutral.asked at ha
    rw [Bool.and_eq_true] at ha
    refine ⟨raws, Nat.zero_le _, ⟨ns.length, by rw [List.drop_zero]; exact q⟩, ha.1, ?_, of_decide_eq_true h.2, start_ok⟩
    unfold PyVbhlae.answers PyVbhlae.calls
    rw [q]
    show [] ++ _ = PyFlat.told (PyFlat.played VbhlaeNeutral.step VbhlaeNeutral.start (raws.map PyVbhlae.whole))
    rw [hm]
    rfl
theorem Left.last {ns : List Int} {i : Nat} {s : Aid} {out : List Int} {raws : List (List (List Int))} (h : Left ns i s out raws) (hi : ns.length ≤ i) : out = PyVbhlae.answers ns := by
  obtain ⟨f, hf⟩ := h.cs
  rw [List.drop_eq_nil_of_le hi] at hf
  have e : raws = [] := by
    cases f <;> (cases hf; rfl)
  have t := h.tot
  rw [e] at t
  rw [← t]
  exact (List.append_nil out).symm
structure Turn (ns : List Int) (i : Nat) (s : Aid) (out : List Int) (c : Call) (raws : List (List (List Int))) : Prop where
  okc : okC c
  num : at_ ns i = numC c
  nsl : i + 1 + (nsC c).length ≤ ns.length
  nse : nsC c = (ns.drop (i + 1)).take (nsC c).length
  rws : ∃ t, PyFlat.rows (rwC c).length (ns.drop (i + 1 + (nsC c).length)) = some (rwC c, t)
  len : (Vbhlae.step s c).2.length ≤ 10000000
  fit : out.length + 1 + (Vbhlae.step s c).2.length ≤ 10000000
  nxt : Left ns (endP (i + 1 + (nsC c).length) (rwC c)) (Vbhlae.step s c).1 (out ++ (((Vbhlae.step s c).2.length : Int) :: (Vbhlae.step s c).2)) raws
theorem Left.turn {ns : List Int} {i : Nat} {s : Aid} {out : List Int} {raws : List (List (List Int))} (h : Left ns i s out raws) (hi : i < ns.length) : ∃ c raws', Turn ns i s out c raws' := by
  obtain ⟨f, hf⟩ := h.cs
  rw [drop_cons hi] at hf
  cases f with
  | zero => cases hf
  | succ f =>
    unfold PyFlat.calls at hf
    cases q : PyFlat.call PyVbhlae.shape (at_ ns i :: ns.drop (i + 1)) with
    | none =>
      rw [q] at hf
      cases hf
    | some ct =>
      obtain ⟨raw, t⟩ := ct
      rw [q] at hf
      have hf : (match PyFlat.calls PyVbhlae.shape f t with
        | none => none
        | some cs => some (raw :: cs)) = some raws := hf
      cases q2 : PyFlat.calls PyVbhlae.shape f t with
      | none =>
        rw [q2] at hf
        cases hf
      | some raws' =>
        rw [q2] at hf
        cases hf
        have hok := h.ok
        rw [List.all_cons, Bool.and_eq_true] at hok
        obtain ⟨cc, hcc, hokc⟩ := asked_of hok.1
        have er := call_of hcc
        unfold PyFlat.call at q
        have q : (match PyVbhlae.shape (at_ ns i) with
          | none => none
          | some (n, k) => if (ns.drop (i + 1)).length < n then none else match PyFlat.rows k ((ns.drop (i + 1)).drop n) with
            | none => none
            | some (xs, t) => some ((at_ ns i :: (ns.drop (i + 1)).take n) :: xs, t)) = some (raw, t) := q
        cases q3 : PyVbhlae.shape (at_ ns i) with
        | none =>
          rw [q3] at q
          cases q
        | some nk =>
          obtain ⟨n, k⟩ := nk
          rw [q3] at q
          have q : (if (ns.drop (i + 1)).length < n then none else match PyFlat.rows k ((ns.drop (i + 1)).drop n) with
            | none => none
            | some (xs, t) => some ((at_ ns i :: (ns.drop (i + 1)).take n) :: xs, t)) = some (raw, t) := q
          by_cases c : (ns.drop (i + 1)).length < n
          · rw [if_pos c] at q
            cases q
          · rw [if_neg c] at q
            cases q4 : PyFlat.rows k ((ns.drop (i + 1)).drop n) with
            | none =>
              rw [q4] at q
              cases q
            | some xt =>
              obtain ⟨xs, t'⟩ := xt
              rw [q4] at q
              have e1 : (at_ ns i :: (ns.drop (i + 1)).take n) :: xs = raw := congrArg Prod.fst (Option.some.inj q)
              have e2 : t' = t := congrArg Prod.snd (Option.some.inj q)
              subst e2
              rw [er] at e1
              have e3 : at_ ns i = numC cc := (List.cons.inj (List.cons.inj e1).1).1
              have e4 : (ns.drop (i + 1)).take n = nsC cc := (List.cons.inj (List.cons.inj e1).1).2
              have e5 : xs = rwC cc := (List.cons.inj e1).2
              rw [e3, shape_at] at q3
              have e6 : (nsC cc).length = n := congrArg Prod.fst (Option.some.inj q3)
              have e7 : (rwC cc).length = k := congrArg Prod.snd (Option.some.inj q3)
              have ld : (ns.drop (i + 1)).length = ns.length - (i + 1) := List.length_drop
              rw [List.drop_drop, ← e6, ← e7, e5] at q4
              obtain ⟨r1, r2, r3, r4⟩ := rows_at q4
              have est : VbhlaeNeutral.step s raw = Vbhlae.step s cc := by
                unfold VbhlaeNeutral.step
                rw [hcc]
              have htot := h.tot
              have ep : PyFlat.told (PyFlat.played VbhlaeNeutral.step s (raw :: raws')) = (((Vbhlae.step s cc).2.length : Int) :: (Vbhlae.step s cc).2) ++ PyFlat.told (PyFlat.played VbhlaeNeutral.step (Vbhlae.step s cc).1 raws') := by
                show PyFlat.told ((VbhlaeNeutral.step s raw).2 :: PyFlat.played VbhlaeNeutral.step (VbhlaeNeutral.step s raw).1 raws') = _
                rw [est]
                unfold PyFlat.told
                rw [List.flatMap_cons]
              rw [ep] at htot
              have hlen : out.length + 1 + (Vbhlae.step s cc).2.length ≤ 10000000 := by
                have l := h.ls
                rw [← htot, List.length_append, List.length_append, List.length_cons] at l
                omega
              refine ⟨cc, raws', hokc, e3, by omega, by rw [e6]; exact e4.symm, ⟨_, q4⟩, by omega, hlen, ?_⟩
              refine ⟨r3 (by omega), ⟨f, by rw [← r2]; exact q2⟩, hok.2, ?_, h.ls, step_ok h.sok cc⟩
              rw [← htot, List.append_assoc]
end Qa

set_option Elab.async false
set_option linter.all false
set_option maxRecDepth 100000
set_option maxHeartbeats 4000000
namespace Qa
open PySem PySem.Spec PyProof.Rows L2
open Vbhlae (at_ trim common chain smaller Band Aid present Q bit listRow qRow Call inr)
section
variable {P : Program} {w : World} {K : PySem.W.Frag} {mg : Str → Option Value} {base : Heap} {G0 H0 G H G' H' G1 H1 : Hp} {Γ : List Ent} {ta tb te : TE} {d : D} {l m : List D} {De : Ends} {c : Addr} {ns : List Int} {i : Int} {CA CB : Addr} {a lb : Addr} {os : List (Option Addr)} {s : Aid}
theorem EnvOk.toEx {v : V} : ∀ {Γ : List Ent} {σ : L2.St} {i : Nat}, EnvOk K H0 G H Γ σ → σ[i]? = some (some v) → EnvOk K H0 G H (Γ.set i (.ex v)) σ
  | [], _, _, h, _ => h
  | e :: Γ, σ, 0, h, hs => by
    obtain ⟨o, r, e1, e2, e3⟩ := h
    rw [e1] at hs
    exact ⟨o, r, e1, show o = some v by simpa using hs, e3⟩
  | e :: Γ, σ, i + 1, h, hs => by
    obtain ⟨o, r, e1, e2, e3⟩ := h
    rw [e1] at hs
    exact ⟨o, r, e1, e2, EnvOk.toEx e3 (by simpa using hs)⟩
theorem EnvOk.anyG : ∀ {Γ : List Ent} {σ : L2.St}, lone Γ = true → Same G G' → EnvOk K H0 G H Γ σ → EnvOk K H1 G' H' Γ σ
  | [], _, _, _, h => h
  | e :: Γ, σ, hl, g, h => by
    obtain ⟨o, r, e1, e2, e3⟩ := h
    cases e with
    | no => exact ⟨o, r, e1, trivial, EnvOk.anyG hl g e3⟩
    | fz d =>
      obtain ⟨v, z1, z2⟩ := e2
      exact ⟨o, r, e1, ⟨v, z1, Rp.mono g _ _ z2⟩, EnvOk.anyG hl g e3⟩
    | ow l => exact absurd (show false = true from hl) Bool.false_ne_true
    | ex v => exact ⟨o, r, e1, e2, EnvOk.anyG hl g e3⟩
theorem AidH.out {p : Addr} {o : HO} (h : AidH K CA CB G H a lb os s) (hG : G p = none) (hp : ¬ Wa a lb os p) : AidH K CA CB G (upd H p o) a lb os s where
  gh := same_upd h.gh hG
  gw := h.gw
  ia := by
    have ne : a ≠ p := fun q => hp (.inl q.symm)
    rw [upd_ne ne]
    exact h.ia
  ib := by
    have ne : lb ≠ p := fun q => hp (.inr (.inl q.symm))
    rw [upd_ne ne]
    exact h.ib
  na := h.na
  uq := h.uq
  len := h.len
  bs := fun i o x e1 e2 => (h.bs i o x e1 e2).step (Same.refl _) fun b e u eu => by
    have ne : b ≠ p := fun q => hp (.inr (.inr (by rw [← q, ← e]; exact List.mem_of_getElem? e1)))
    rw [upd_ne ne]
    exact eu
  l3 := h.l3
theorem r_appX {p : Addr} {vs : List V} (hl : lone Γ = true) (ho : EvV K G0 H0 Γ ta (.ref p)) (he : Evd K G0 H0 Γ te d) (hp : H0 p = some (.lst vs)) (hG : G0 p = none) (hz : vs.length < sizeLine)
    (k : ∀ v G1 H1, Gh G0 H0 G1 H1 → Rp K G1 d v → G1 p = none → H1 p = some (.lst vs) → Run K G1 (upd H1 p (.lst (vs ++ [v]))) Γ De.nx) : Run K G0 H0 Γ (tDrop (tBM K "list" rAppend ta (tCons te tNil)) De) := fun σ G H s =>
  ho σ G H s _ fun G1 H1 g1 => by
    have s1 := s.step g1
    refine ⟨.inl ⟨rfl, vs, SqL.of (s1.gh.hh _ _ hp)⟩, he σ G1 H1 s1 _ fun v G2 H2 g2 r2 => ?_⟩
    have s2 := s1.step g2
    have gp := s2.gh.fr p (by rw [hp]; exact fun z => nomatch z) hG
    have hp2 := s2.gh.hh _ _ hp
    exact ⟨p, vs, v, rfl, rfl, hp2, hz, k v G2 H2 s2.gh r2 gp hp2 σ G2 _ ⟨Gh.refl (same_upd s2.gh.gh gp), s2.env.any hl⟩⟩
theorem r_extX {p : Addr} {vs : List V} (hl : lone Γ = true) (ho : EvV K G0 H0 Γ ta (.ref p)) (he : Evd K G0 H0 Γ te (.lst m)) (hp : H0 p = some (.lst vs)) (hG : G0 p = none) (hz : vs.length + m.length ≤ sizeLine)
    (k : ∀ us G1 H1, Gh G0 H0 G1 H1 → RpL K G1 m us → G1 p = none → H1 p = some (.lst vs) → Run K G1 (upd H1 p (.lst (vs ++ us))) Γ De.nx) : Run K G0 H0 Γ (tDrop (tBM K "list" rExtend ta (tCons te tNil)) De) := fun σ G H s =>
  ho σ G H s _ fun G1 H1 g1 => by
    have s1 := s.step g1
    refine ⟨.inl ⟨rfl, vs, SqL.of (s1.gh.hh _ _ hp)⟩, he σ G1 H1 s1 _ fun v G2 H2 g2 r2 => ?_⟩
    have s2 := s1.step g2
    have gp := s2.gh.fr p (by rw [hp]; exact fun z => nomatch z) hG
    have hp2 := s2.gh.hh _ _ hp
    obtain ⟨b, us, f1, f2, _, f3⟩ := lst_seq s2.gh.gh r2
    subst f1
    exact ⟨p, b, vs, us, rfl, rfl, hp2, f2, by rw [f3.len]; exact hz, k us G2 H2 s2.gh f3 gp hp2 σ G2 _ ⟨Gh.refl (same_upd s2.gh.gh gp), s2.env.any hl⟩⟩
theorem ev_lf (T : Txt K mg) {tr : TE} {E : XK} {i k : Nat} {rs : List (List Int)} {t : List Int} (ha : EvV K G0 H0 Γ ta (.ref c)) (hb : Evd K G0 H0 Γ tb (.int (i : Int))) (hk : Evd K G0 H0 Γ tr (.int (k : Int))) (hc : SqL K H0 c (ns.map V.int)) (h10 : k ≤ 10) (hr : PyFlat.rows k (ns.drop i) = some (rs, t)) :
    Evd K G0 H0 Γ (tCall (spLf K) [] E (tCons ta (tCons tb (tCons tr tNil)))) (.tup [rowsD rs, .int (endP i rs : Int)]) := fun σ G H s Q q =>
  ha σ G H s _ fun G1 H1 g1 => hb σ G1 H1 (s.step g1) _ fun y G2 H2 g2 r2 => hk σ G2 H2 ((s.step g1).step g2) _ fun z G3 H3 g3 r3 => by
    have s3 := ((s.step g1).step g2).step g3
    have r2 : y = .int (i : Int) := r2
    have r3 : z = .int (k : Int) := r3
    subst r2 r3
    exact ⟨G3, c, ns, i, k, rs, t, rfl, s3.gh.gh, sql_mono s3.gh.hh hc, h10, hr, fun v G4 H4 g4 r4 => q v G4 H4 (((g1.trans g2).trans g3).trans g4) r4⟩
theorem ev_whole (T : Txt K mg) : Evd K G0 H0 Γ (tC (.ref T.a_WHOLE)) (.tup (wholeL.map D.int)) := ev_k fun G => ⟨_, _, rfl, T.c_WHOLE.2 G, rpl_ints wholeL⟩
theorem ev_lists (T : Txt K mg) : Evd K G0 H0 Γ (tC (.ref T.a_LISTS)) (.tup (listsL.map D.int)) := ev_k fun G => ⟨_, _, rfl, T.c_LISTS.2 G, rpl_ints listsL⟩
theorem look_ans {v : V} : ((["aid"] : List Str).zip [v]).lookup ("answer" : Str) = none := zip_none (j := 0) (by decide +kernel)
/-- the request's list stays: no written object -/
def Cal (K : PySem.W.Frag) (c : Addr) (xs : List V) (p a lb : Addr) (os : List (Option Addr)) (H : Hp) : Prop := (∀ H', SqL K H' c xs) ∨ (Rd H c (.lst xs) ∧ c ≠ p ∧ ¬ Wa a lb os c)
theorem cal_sq {xs : List V} {p : Addr} (h : Cal K c xs p a lb os H) : SqL K H c xs := by
  rcases h with h | h
  · exact h H
  · exact .inl h.1
theorem sq_or {xs : List V} (h : SqL K H c xs) : (∀ H', SqL K H' c xs) ∨ Rd H c (.lst xs) := by
  rcases h with h | h
  · exact .inr h
  · exact .inl fun H' => .inr h
theorem rd_ne {u : HO} (h : Rd H c u) : H c ≠ none := by
  rcases h with h | ⟨o, h⟩
  · rw [h]
    exact fun z => nomatch z
  · rw [h]
    exact fun z => nomatch z
theorem rd_to {u : HO} (h : Rd H c u) (e : ∀ o, H c = some o → H' c = some o) : Rd H' c u := by
  rcases h with h | ⟨o, h⟩
  · exact .inl (e _ h)
  · exact .inr ⟨o, e _ h⟩
/-- the loop's state -/
def Jst (K : PySem.W.Frag) (CA CB CD c : Addr) (ns : List Int) (n : Nat) (σ : L2.St) (H : Hp) : Prop := ∃ (i : Nat) (s : Aid) (out : List Int) (raws : List (List (List Int))) (G : Hp) (dk dx p a lb : Addr) (os : List (Option Addr)), n = ns.length - i ∧
  EnvOk K H G H [.ex (.ref c), .ex (.ref dk), .ex (.ref p), .fz (.int (i : Int)), .no, .no, .no, .no, .no] σ ∧ AidH K CA CB G H a lb os s ∧ G dk = some (.ins CD dx ((["aid"] : List Str).zip [.ref a])) ∧ Cal K c (ns.map V.int) p a lb os H ∧
  G p = none ∧ H p = some (.lst (out.map V.int)) ∧ ¬ Wa a lb os p ∧ Left ns i s out raws
def spAns (K : PySem.W.Frag) : Sp := fun vs H Q _ => ∃ (c : Addr) (ns : List Int), vs = [.ref c] ∧ SqL K H c (ns.map V.int) ∧ PyVbhlae.answers_asked ns = true ∧ ∀ H' p, H' p = some (.lst ((PyVbhlae.answers ns).map V.int)) → Q (.ref p) H'
theorem pt_seq {p q : TS} {σ : L2.St} (h : p { De with nx := q De } σ H) : tSeq p q De σ H := h
theorem pt_name {n : Nat} {v : V} {σ : L2.St} {H : Hp} {Q : L2.St → Hp → Prop} (h : Q (σ.set n (some v)) H) : gName n v σ H Q := h
theorem pt_asgm {C : Addr} {f : Str} {sp : Sp} {E : XK} {tr : TA} {n : Nat} {σ : L2.St} {H : Hp} (h : ta σ H fun x H1 => ∃ a dx fs, x = .ref a ∧ H1 a = some (.ins C dx fs) ∧ fs.lookup f = none ∧ tr σ H1 fun vs H2 => sp (x :: (vs ++ [])) H2 (fun v H3 => De.nx (σ.set n (some v)) H3) E) : tAsg (tMeth C f sp [] E ta tr) (gName n) De σ H := h
theorem pt_run {T : L2.St → Hp → Prop} {σ : L2.St} (s : Stt K G0 H0 Γ σ G H) (h : Run K G0 H0 Γ T) : T σ H := h σ G H s
theorem sc_answers : FnScope ["calls", "desk", "found", "at", "call", "behind", "rows", "end", "told"] ["calls"] (defScope s_answers) := ⟨rfl, rfl, rfl, by decide +kernel, rfl, by decide +kernel, by decide +kernel⟩
theorem ok_answers (T : Txt K mg) (S : SeerB P base) : FnOk P w K mg base CX0 50 T.answers.f T.answers.fd ["calls"] (spAns K) := by
  refine T.answers.F.ok sc_answers (fun vs H Q E h => ?_) (fun cdv A outer s H vs Q E hr h => ⟨_, (pss_cons (ps_set (i := 1) sc_answers.nd rfl (by first | exact Or.inl rfl | exact Or.inr rfl) (pe_make0 T.mk_Desk (ok_Desk_init T) (hr.mono (by decide)) rfl T.g_Desk T.Desk_init.b .nil pass0))
      (pss_cons (ps_set (i := 2) sc_answers.nd rfl (by first | exact Or.inl rfl | exact Or.inr rfl) (pe_lst pa_nil))
      (pss_cons (ps_set (i := 3) sc_answers.nd rfl (by first | exact Or.inl rfl | exact Or.inr rfl) pe_int)
      (pss_cons (ps_while PassesOwn.never (pt_cmpR op_lt (pv 3) (pe_callB (call_lenk K) rfl T.b_len PySem.boot_len (pa_cons (pv 0) pa_nil)) (nomark _)) (pss_cons (ps_set (i := 4) sc_answers.nd rfl (by first | exact Or.inl rfl | exact Or.inr rfl) (pe_ix (ix_listk K) (pv 0) (pv 3) (fun _ _ => rfl)))
      (pss_cons (ps_set (i := 5) sc_answers.nd rfl (by first | exact Or.inl rfl | exact Or.inr rfl) (pe_op op_add (pe_op op_add (pv 3) pe_int) (pe_ix (ix_tupk K) (pe_gt T.c_WHOLE.1) (pv 4) (fun _ _ => rfl))))
      (pss_cons (ps_asg (pe_own T.lists_from (ok_lists_from T) hr (pa_cons (pv 0) (pa_cons (pv 5) (pa_cons (pe_ix (ix_tupk K) (pe_gt T.c_LISTS.1) (pv 4) (fun _ _ => rfl)) pa_nil))) pass0) (pg_tupk K (n := 2) (pgs_cons (pg_name (i := 6) sc_answers.nd rfl (by first | exact Or.inl rfl | exact Or.inr rfl)) (pgs_cons (pg_name (i := 7) sc_answers.nd rfl (by first | exact Or.inl rfl | exact Or.inr rfl)) pgs_nil))))
      (pss_cons (ps_set (i := 8) sc_answers.nd rfl (by first | exact Or.inl rfl | exact Or.inr rfl) (pe_meth (pv 1) T.cl_CD T.Desk_answer.m (ok_Desk_answer T S) (hr.mono (by decide)) T.Desk_answer.b .nil pass0 (pa_cons (pv 4) (pa_cons (pe_slice (sl_listk K) (pv 0) (po_some (pe_op op_add (pv 3) pe_int)) (po_some (pv 5))) (pa_cons (pv 6) pa_nil)))))
      (pss_cons (ps_expr (pe_bm PySem.F.plainAttrs_list PySem.F.slot_list_append PySem.F.type_list_append mt_append (pv 2) (pa_cons (pe_callB (call_lenk K) rfl T.b_len PySem.boot_len (pa_cons (pv 8) pa_nil)) pa_nil)))
      (pss_cons (ps_expr (pe_bm PySem.F.plainAttrs_list PySem.F.slot_list_extend PySem.F.type_list_extend mt_extend (pv 2) (pa_cons (pv 8) pa_nil)))
      (pss_one (ps_set (i := 3) sc_answers.nd rfl (by first | exact Or.inl rfl | exact Or.inr rfl) (pv 7))))))))))
      (pss_one (ps_ret (pv 2))))))), ?_⟩)
  · obtain ⟨c, ns, rfl, _⟩ := h
    rfl
  · obtain ⟨c, ns, rfl, hc, hask, k⟩ := h
    obtain ⟨raws, L0⟩ := Left.first hask
    refine Run.goX (K := K) (G := fun _ => none) (H := H) (ds := []) (vs := []) (x := .ref c) 8 free_same rfl rfl ?_
    with_reducible refine r_seq ?_
    intro σ G1 H1 s1
    refine pt_make ea_nil s1 fun vs G2 H2 g2 r2 => ?_
    have r2 : vs = [] := r2
    subst r2
    intro y dy hyn hdn hne
    have s2 := s1.step g2
    have sm : Same H2 (upd (upd H2 dy (.own y)) y (.ins T.CD dy [])) := fun z o e => by
      rw [upd_ne (ne_of_none e hyn), upd_ne (ne_of_none e hdn)]
      exact e
    refine ⟨G2, y, dy, rfl, s2.gh.gh.trans sm, s2.gh.gh.free hyn, upd_same, fun G3 H3 a lb A hdk hgg hkk hfr han hln => ⟨rfl, ?_⟩⟩
    have g3 : Gh G2 H2 G3 H3 := ⟨hgg, fun z o e => hkk z o (ne_of_none e hyn) (sm z o e), A.gh, fun z h1 h2 => hfr z (fun q => h1 (q ▸ hyn)) (some_ne sm h1) h2⟩
    have s3 := s2.step g3
    have hc3 := sql_mono s3.gh.hh hc
    refine pt_name ?_
    refine pt_run (K := K) (G0 := G3) (H0 := H3) (Γ := [.ex (.ref c), .ex (.ref y), .no, .no, .no, .no, .no, .no, .no]) ⟨Gh.refl A.gh, (s3.env.any rfl).set 1 rfl⟩ ?_
    with_reducible refine r_seq ?_
    refine r_asgN (l := []) (en_lst ea_nil (Nat.zero_le _)) ?_
    with_reducible refine r_seq ?_
    refine r_asg ev_int ?_
    with_reducible refine r_seq ?_
    intro σ4 G4 H4 s4
    obtain ⟨hn, p, vs, e1, e2, e3, e4, e5⟩ := own_at (n := 2) s4 rfl
    have e5 : vs = [] := e5
    subst e5
    have A4 := A.step s4.gh
    have cal : Cal K c (ns.map V.int) p a lb [none, none, none] H4 := by
      rcases sq_or (sql_mono s2.gh.hh hc) with z | z
      · exact .inl z
      · have z2 := rd_to z fun o e => g3.hh _ _ e
        have z3 := rd_to z fun o e => sm _ _ e
        refine .inr ⟨rd_to z2 fun o e => s4.gh.hh _ _ e, fun q => rd_ne z2 (q ▸ e2), fun w => ?_⟩
        rcases w with q | q | q
        · exact rd_ne z3 (q ▸ han)
        · exact rd_ne z3 (q ▸ hln)
        · simp at q
    refine ⟨Jst K T.CA T.CB T.CD c ns, ⟨ns.length, 0, Vbhlae.start, [], raws, G4, y, dy, p, a, lb, [none, none, none], rfl, ((s4.env.toEx e1).any rfl), A4, s4.gh.gg _ _ hdk, cal, e3, e4, fun w => A.here p w e2, L0⟩, ?_⟩
    rintro n σ5 H5 ⟨i, s, out, raws, G5, dk, dx, p, a, lb, os, rfl, env, A5, hdk5, cal5, gp, hp, hw, L⟩
    have hc5 := cal_sq cal5
    have s5 : Stt K G5 H5 [.ex (.ref c), .ex (.ref dk), .ex (.ref p), .fz (.int (i : Int)), .no, .no, .no, .no, .no] σ5 G5 H5 := ⟨Gh.refl A5.gh, env⟩
    refine et_b (ev_lt (ev_var rfl) (es_len (vv_var rfl) hc5)) σ5 G5 H5 s5 _ fun G6 H6 g6 => ?_
    have s6 := s5.step g6
    by_cases hi : i < ns.length
    · rw [decide_eq_true (show (i : Int) < (ns.length : Int) by omega)]
      refine iteT ?_
      obtain ⟨cc, raws', t⟩ := L.turn hi
      refine ⟨fun σ' H' => Jst K T.CA T.CB T.CD c ns (ns.length - endP (i + 1 + (nsC cc).length) (rwC cc)) σ' H', fun σ' H' hj => ⟨_, ?_, hj⟩, ?_⟩
      · unfold endP
        omega
      have A6 := A5.step g6
      have hc6 := sql_mono g6.hh hc5
      refine pt_run (K := K) (G0 := G6) (H0 := H6) (Γ := [.ex (.ref c), .ex (.ref dk), .ex (.ref p), .fz (.int (i : Int)), .no, .no, .no, .no, .no]) ⟨Gh.refl A6.gh, s6.env.any rfl⟩ ?_
      obtain ⟨tt, hrows⟩ := t.rws
      have hns := t.nsl
      with_reducible refine r_seq ?_
      refine r_asg (d := .int (numC cc)) (Evd.cast (es_ix (vv_var rfl) hc6 (ev_var rfl) rfl hi) (congrArg D.int t.num)) ?_
      with_reducible refine r_seq ?_
      refine r_asg (d := .int ((i + 1 + (nsC cc).length : Nat) : Int)) (Evd.cast (ev_add (ev_add (ev_var rfl) ev_int) (ev_ixT (ev_whole T) (ev_var rfl) (num_nat cc) (whole_at cc))) (by push_cast; rfl)) ?_
      with_reducible refine r_seq ?_
      refine r_asg2 (ev_lf T (vv_var rfl) (ev_var rfl) (ev_ixT (ev_lists T) (ev_var rfl) (num_nat cc) (lists_at cc)) hc6 (rw_few cc) hrows) ?_
      with_reducible refine r_seq ?_
      intro σ7 G7 H7 s7
      refine pt_asgm ?_
      refine pt_vv (te := tVar 1) (v := .ref dk) (vv_var rfl) s7 fun G8 H8 g8 => ?_
      have s8 := s7.step g8
      have hdk6 := g6.gg _ _ hdk5
      refine ⟨dk, dx, _, rfl, s8.gh.gh _ _ (s8.gh.gg _ _ hdk6), look_ans, ?_⟩
      refine pt_ea (ea_cons (d := .int (numC cc)) (ev_var rfl) (ea_2 (d := rowD (nsC cc)) (EvN.dd (EvN.cast (es_slice (lo := some ((i + 1 : Nat) : Int)) (hi := some ((i + 1 + (nsC cc).length : Nat) : Int)) (vv_var rfl) hc6 (ev_part (Evd.cast (ev_add (ev_var rfl) ev_int) (by push_cast; rfl))) (ev_part (ev_var rfl))) ?_)) (d2 := rowsD (rwC cc)) (ev_var rfl))) s8 fun ws G9 H9 g9 r9 => ?_
      · rw [cut_ints (by omega) (by omega)]
        have e : i + 1 + (nsC cc).length - (i + 1) = (nsC cc).length := by omega
        rw [e, ← t.nse]
      have s9 := s8.step g9
      have A9 := A6.step s9.gh
      rw [List.append_nil]
      refine ⟨G9, dk, dx, a, lb, os, s, ws, cc, rfl, A9, L.sok, t.okc, t.len, s9.gh.gg _ _ hdk6, r9, fun v G10 H10 os' A10 mv nw r10 => ?_⟩
      have hp9 := s9.gh.hh _ _ (g6.hh _ _ hp)
      have np : ∀ {Hx : Hp} {o : HO}, Hx p = some o → Hx p ≠ none := fun e z => by
        rw [z] at e
        cases e
      have gp9 : G9 p = none := s9.gh.fr p (np (g6.hh _ _ hp)) (g6.fr p (np hp) gp)
      have hp10 := mv.kk p _ hw hp9
      have gp10 := mv.fr p (np hp9) gp9
      have hw10 : ¬ Wa a lb os' p := fun w => by
        rcases w with e | e | e
        · exact hw (.inl e)
        · exact hw (.inr (.inl e))
        · rcases nw p e with z | z
          · exact hw (.inr (.inr z))
          · exact np hp9 z
      have fit := t.fit
      dsimp only
      refine pt_run (K := K) (G0 := G10) (H0 := H10) (Γ := [.ex (.ref c), .ex (.ref dk), .ex (.ref p), .fz (.int (i : Int)), .fz (.int (numC cc)), .fz (.int ((i + 1 + (nsC cc).length : Nat) : Int)), .fz (rowsD (rwC cc)), .fz (.int (endP (i + 1 + (nsC cc).length) (rwC cc) : Int)), .fz (rowD (Vbhlae.step s cc).2)]) ⟨Gh.refl A10.gh, (s9.env.anyG rfl mv.gg).set 8 ⟨v, rfl, r10⟩⟩ ?_
      have big : (10000000 : Nat) < sizeLine := by decide
      with_reducible refine r_seq ?_
      refine r_appX (d := .int ((Vbhlae.step s cc).2.length : Int)) rfl (vv_var rfl) (Evd.cast (ev_len (ev_var rfl)) (by rw [List.length_map])) hp10 gp10 (by rw [List.length_map]; omega) fun v1 G11 H11 g11 r11 gp11 hp11 => ?_
      with_reducible refine r_seq ?_
      refine r_extX rfl (vv_var rfl) (ev_var rfl) upd_same gp11 ?_ fun us G12 H12 g12 r12 gp12 hp12 => ?_
      · rw [List.length_append, List.length_map, List.length_map, List.length_singleton]
        omega
      refine r_asg (ev_var rfl) ?_
      intro σ13 G13 H13 s13
      have A12 := (((A10.step g11).out (o := .lst (out.map V.int ++ [v1])) gp11 hw10).step g12).out (o := .lst (out.map V.int ++ [v1] ++ us)) gp12 hw10
      have s13' := s13.le (Γ' := [.ex (.ref c), .ex (.ref dk), .ex (.ref p), .fz (.int (endP (i + 1 + (nsC cc).length) (rwC cc) : Int)), .no, .no, .no, .no, .no]) ⟨.inr rfl, .inr rfl, .inr rfl, .inr rfl, .inl rfl, .inl rfl, .inl rfl, .inl rfl, .inl rfl, trivial⟩
      have e1 : v1 = .int ((Vbhlae.step s cc).2.length : Int) := r11
      have e2 : us = (Vbhlae.step s cc).2.map V.int := r12.ints
      have hp13 := s13.gh.hh _ _ (upd_same (o := .lst (out.map V.int ++ [v1] ++ us)))
      have hc13 : Cal K c (ns.map V.int) p a lb os' H13 := by
        rcases cal5 with z | ⟨z, cp, cw⟩
        · exact .inl z
        · have z9 := rd_to z fun o e => s9.gh.hh _ _ (g6.hh _ _ e)
          have z10 := rd_to z9 fun o e => mv.kk _ _ cw e
          refine .inr ⟨rd_to z10 fun o e => s13.gh.hh _ _ ?_, cp, fun w => ?_⟩
          · rw [upd_ne cp]
            refine g12.hh _ _ ?_
            rw [upd_ne cp]
            exact g11.hh _ _ e
          · rcases w with q | q | q
            · exact cw (.inl q)
            · exact cw (.inr (.inl q))
            · rcases nw c q with q2 | q2
              · exact cw (.inr (.inr q2))
              · exact rd_ne z9 q2
      refine ⟨endP (i + 1 + (nsC cc).length) (rwC cc), (Vbhlae.step s cc).1, out ++ (((Vbhlae.step s cc).2.length : Int) :: (Vbhlae.step s cc).2), raws', G13, dk, dx, p, a, lb, os', rfl, s13'.env.any rfl, A12.step s13.gh, s13.gh.gg _ _ (g12.gg _ _ (g11.gg _ _ (mv.gg _ _ (s9.gh.gg _ _ hdk6)))), hc13, s13.gh.fr p (np upd_same) gp12, ?_, hw10, t.nxt⟩
      rw [hp13, e1, e2, List.append_assoc, List.map_append]
      rfl
    · rw [decide_eq_false (show ¬ (i : Int) < (ns.length : Int) by omega)]
      refine iteF ?_
      refine pt_vv (te := tVar 2) (v := .ref p) (vv_var rfl) s6 fun G7 H7 g7 => ?_
      have hp7 := g7.hh _ _ (g6.hh _ _ hp)
      rw [L.last (by omega)] at hp7
      exact k H7 p hp7
end
end Qa

set_option Elab.async false
set_option linter.all false
set_option maxRecDepth 100000
set_option maxHeartbeats 1000000
namespace Qa
open PySem PySem.Spec PyProof.Rows L2
/-! ### the written part, and what the long division looks at beside it -/
theorem fn_wider {P : Program} {w : World} {K K' : PySem.W.Frag} {mg : Str → Option Value} {base : Heap} {CX : CXT} {k : Nat} {f : Addr} {fd : FuncData} {ps : List Str} {sp : Sp} (le : ∀ a o, K.lookup a = some o → K'.lookup a = some o)
    (F : FnOk P w K mg base CX k f fd ps sp) : FnOk P w K' mg base CX k f fd ps sp :=
  ⟨F.len, fun A l s H ar us vs Q E hr e hb hv hs => F.run A l s H ar us vs Q E hr ⟨e.frames, ⟨fun a o z => e.mod.kin a o (le a o z), e.mod.glob, e.mod.blt, e.mod.nolimit⟩, e.bs, e.bsz, e.funs, e.frf, e.hok, e.bare⟩ hb hv hs⟩
def seenAt (h : Heap) : List Addr → PySem.W.Frag
  | [] => []
  | a :: l => match h.get? a with
    | none => seenAt h l
    | some o => (a, o) :: seenAt h l
theorem seen_is {h : Heap} : ∀ {l : List Addr} {a : Addr} {o : Obj}, (seenAt h l).lookup a = some o → a ∈ l ∧ h.get? a = some o
  | [], a, o, e => by cases e
  | b :: l, a, o, e => by
    unfold seenAt at e
    cases q : h.get? b with
    | none =>
      rw [q] at e
      obtain ⟨i1, i2⟩ := seen_is e
      exact ⟨List.mem_cons_of_mem _ i1, i2⟩
    | some u =>
      rw [q] at e
      by_cases ab : a = b
      · subst ab
        have e : List.lookup a ((a, u) :: seenAt h l) = some o := e
        rw [List.lookup_cons_self] at e
        exact ⟨List.mem_cons_self, by rw [q, e]⟩
      · have e : List.lookup a ((b, u) :: seenAt h l) = some o := e
        rw [List.lookup_cons, show (a == b) = false from beq_eq_false_iff_ne.mpr ab] at e
        obtain ⟨i1, i2⟩ := seen_is e
        exact ⟨List.mem_cons_of_mem _ i1, i2⟩
theorem seen_of {h : Heap} : ∀ {l : List Addr} {a : Addr} {o : Obj}, a ∈ l → h.get? a = some o → (seenAt h l).lookup a = some o
  | [], a, o, m, _ => by cases m
  | b :: l, a, o, m, e => by
    unfold seenAt
    by_cases ab : a = b
    · subst ab
      rw [e]
      exact List.lookup_cons_self
    · have m : a ∈ l := by
        rcases List.mem_cons.mp m with z | z
        · exact absurd z ab
        · exact z
      cases q : h.get? b with
      | none => exact seen_of m e
      | some u =>
        show List.lookup a ((b, u) :: seenAt h l) = some o
        rw [List.lookup_cons, show (a == b) = false from beq_eq_false_iff_ne.mpr ab]
        exact seen_of m e
def wider (K : PySem.W.Frag) (h : Heap) (l : List Addr) : PySem.W.Frag := K ++ seenAt h l
theorem wide_l {K : PySem.W.Frag} {h : Heap} {l : List Addr} (a : Addr) (o : Obj) (e : K.lookup a = some o) : (wider K h l).lookup a = some o := by
  unfold wider
  rw [List.lookup_append, e]
  rfl
theorem wide_or {K : PySem.W.Frag} {h : Heap} {l : List Addr} {a : Addr} {o : Obj} (e : (wider K h l).lookup a = some o) : K.lookup a = some o ∨ (a ∈ l ∧ h.get? a = some o) := by
  unfold wider at e
  rw [List.lookup_append] at e
  cases q : K.lookup a with
  | none =>
    rw [q] at e
    exact .inr (seen_is e)
  | some u =>
    rw [q] at e
    exact .inl e
theorem wide_in {K : PySem.W.Frag} {h : Heap} {l : List Addr} (KX : K.In h) : (wider K h l).In h := fun a o e => by
  rcases wide_or e with z | z
  · exact KX a o z
  · exact z.2
theorem wide_r {K : PySem.W.Frag} {h : Heap} {l : List Addr} (KX : K.In h) {a : Addr} {o : Obj} (m : a ∈ l) (e : h.get? a = some o) : (wider K h l).lookup a = some o := by
  cases q : K.lookup a with
  | some u =>
    have := KX a u q
    rw [e] at this
    rw [wide_l a u q, this]
  | none =>
    unfold wider
    rw [List.lookup_append, q]
    exact seen_of m e
/-- which objects -/
def seerL (bm : Addr) : List Addr := [cStatics, sysModules, builtinsNs, mainGlobals, bm]
theorem seer_on {K : PySem.W.Frag} {h base : Heap} {l : List Addr} (KX : K.In h) (X : (wider K h l).In base) {a : Addr} (m : a ∈ l) : ∀ o, h.get? a = some o → base.get? a = some o := fun o e => X a o (wide_r KX m e)
theorem ns_on {h base : Heap} {a : Addr} {m : Str → Option Value} (N : h.Ns a m) (k : ∀ o, h.get? a = some o → base.get? a = some o) : base.Ns a m := by
  obtain ⟨o, es, ep, e, r⟩ := N
  exact ⟨o, es, ep, k _ e, r⟩
structure Seen (h : Heap) (bm : Addr) : Prop where
  statics : ∃ mc, h.Ns cStatics mc ∧ mc "sys.audit-hooks" = none ∧ mc "sys.dict" = none
  mods : ∃ mm, h.Ns sysModules mm ∧ mm "_pylong" = none
  imp : ∃ mb, h.Ns builtinsNs mb ∧ ∀ x : Str, x ≠ "__name__" → mb x = bootBuiltins x
  main : ∃ mg ob, h.Ns mainGlobals mg ∧ mg "__builtins__" = some (.ref bm) ∧ h.get? bm = some ob ∧ ob.cls = .type "module" ∧ ob.dict = some builtinsNs
theorem seen_ns {h : Heap} (S : h.NoSeer) : ∃ bm, Seen h bm := by
  obtain ⟨s1, s2, s3, mg, bm, ob, s4⟩ := S
  exact ⟨bm, s1, s2, s3, mg, ob, s4⟩
theorem Seen.on {K : PySem.W.Frag} {h base : Heap} {bm : Addr} (S : Seen h bm) (KX : K.In h) (X : (wider K h (seerL bm)).In base) : base.NoSeer := by
  have m1 : cStatics ∈ seerL bm := List.mem_cons_self
  have m2 : sysModules ∈ seerL bm := List.mem_cons_of_mem _ List.mem_cons_self
  have m3 : builtinsNs ∈ seerL bm := List.mem_cons_of_mem _ (List.mem_cons_of_mem _ List.mem_cons_self)
  have m4 : mainGlobals ∈ seerL bm := List.mem_cons_of_mem _ (List.mem_cons_of_mem _ (List.mem_cons_of_mem _ List.mem_cons_self))
  have m5 : bm ∈ seerL bm := List.mem_cons_of_mem _ (List.mem_cons_of_mem _ (List.mem_cons_of_mem _ (List.mem_cons_of_mem _ List.mem_cons_self)))
  obtain ⟨mc, a1, a2⟩ := S.statics
  obtain ⟨mm, b1, b2⟩ := S.mods
  obtain ⟨mb, c1, c2⟩ := S.imp
  obtain ⟨mg, ob, d1, d2, d3, d4⟩ := S.main
  exact ⟨⟨mc, ns_on a1 (seer_on KX X m1), a2⟩, ⟨mm, ns_on b1 (seer_on KX X m2), b2⟩, ⟨mb, ns_on c1 (seer_on KX X m3), c2⟩, ⟨mg, bm, ob, ns_on d1 (seer_on KX X m4), d2, seer_on KX X m5 ob d3, d4⟩⟩
/-- none of them is a list -/
theorem Seen.no_list {h : Heap} {bm a : Addr} (S : Seen h bm) (m : a ∈ seerL bm) {o : Obj} (e : h.get? a = some o) (hc : o.cls = .type "list") {its : Array Value} {n : Nat} (hd : o.data = .seq its n) : False := by
  have dict : ∀ {b : Addr} {mp : Str → Option Value}, h.Ns b mp → a = b → False := fun N q => by
    obtain ⟨o', es, ep, e1, d1, r⟩ := N
    rw [← q, e] at e1
    cases e1
    rw [hd] at d1
    cases d1
  obtain ⟨mc, a1, a2⟩ := S.statics
  obtain ⟨mm, b1, b2⟩ := S.mods
  obtain ⟨mb, c1, c2⟩ := S.imp
  obtain ⟨mg, ob, d1, d2, d3, d4, d5⟩ := S.main
  unfold seerL at m
  simp only [List.mem_cons, List.not_mem_nil, or_false] at m
  rcases m with q | q | q | q | q
  · exact dict a1 q
  · exact dict b1 q
  · exact dict c1 q
  · exact dict d1 q
  · rw [q, d3] at e
    cases e
    rw [d4] at hc
    injection hc with z
    exact absurd z (by decide)
theorem Seen.sq {K : PySem.W.Frag} {h : Heap} {bm a : Addr} {H : Hp} {xs : List V} (S : Seen h bm) (q : SqL (wider K h (seerL bm)) H a xs) : SqL K H a xs := by
  rcases q with q | ⟨o, its, n, e, hc, hd, r⟩
  · exact .inl q
  · rcases wide_or e with z | z
    · exact .inr ⟨o, its, n, z, hc, hd, r⟩
    · exact (S.no_list z.1 z.2 hc r.1).elim
/-! ### the walk, the division's conditions handed on -/
theorem walk_seen {q : Program} {loose : List Str} {XP : (Str → Option Value) → Heap → Prop} {YP : World → Heap → Prop} {d : DefRec} {K : Params → PySem.W.Frag} (hi : importsNone q = true)
    (hwell : PySem.Challenge.rw_quietaids_s01_answers.wellSaid = true) (hdf : d.params.defaults = []) (hr : Room 50 callerA) (hY : ∀ (w : World) (h : Heap), YP w h → (K w.params).In h)
    (F : ∀ (w : World) (mg : Str → Option Value) (fa : Addr) (h : Heap), YP w h → (K w.params).In h → h.Ns mainGlobals mg → mg d.name = some (.ref fa) →
      ∃ fd : FuncData, (∀ (s : Shared) (us : List Value), us.length = (["calls"] : List Str).length → BindsTo s fd ⟨us, []⟩ ((["calls"] : List Str).zip us)) ∧
        ∀ base : Heap, (K w.params).In base → base.Ns mainGlobals mg → base.NoSeer → FnOk PySem.Challenge.rw_quietaids_s01_answers.prog w (K w.params) mg base CX0 50 fa fd ["calls"] (spAns (K w.params))) :
    PySem.W.WalkOS q loose XP YP PySem.Challenge.rw_quietaids_s01_answers d [] (fun f vs => PySem.call f vs) := by
  intro w s0 s1 mg mb GG YY fa ob v1 v2 v3 v4 v5 g1 g2 g3 g4 hmg hg args vals als hp hlay h1 hwl h2
  obtain ⟨ar, e1, e2⟩ := PySem.W.os_pre_some hp
  obtain ⟨e3, hwi⟩ := PySem.W.Codec.encAll_of_decAll PySem.Challenge.rw_quietaids_s01_answers.args args ar e1
  subst e3
  have KK := hY w s1.heap YY
  obtain ⟨bm, SS⟩ := seen_ns (GG.T.seer hi)
  obtain ⟨fd, hb, hF⟩ := F w mg fa s1.heap YY KK GG.T.g hmg
  have call := spec_call (K := wider (K w.params) s1.heap (seerL bm)) (P := PySem.Challenge.rw_quietaids_s01_answers.prog) (w := w) (CX := CX0) (k := 50) (ps := ["calls"]) (sp := spAns (K w.params)) (R := []) (cl := classAt s0.heap)
    (d0 := PySem.Challenge.rw_quietaids_s01_answers.ret.enc (PySem.W.Codec.app PySem.Challenge.rw_quietaids_s01_answers.args PySem.Challenge.rw_quietaids_s01_answers.f ar)) (wide_in KK) GG.T.g GG.T.b GG.T.builtins GG.T.nolimit hg hwl (pl_encAll _ _) (layable_weight hlay) hr
    (fun base X N => fn_wider wide_l (hF base (fun a o e => X a o (wide_l a o e)) N (SS.on KK X))) hb (encAll_len _ _) (fun H xs hO hx => ?_) fun H e s' z => z
  · refine PySem.W.enter_call (codeAny_mono call fun rr s' hq => ?_)
    obtain ⟨u, bs, rfl, k1, k2, k3, k4⟩ := hq
    refine ⟨.inl ⟨u, _, bs, rfl, fun _ => rfl, k1, ?_, fun z => Bool.noConfusion (show false = true from z)⟩, k2, k3, k4⟩
    exact (PySem.W.OpenSpec.post_iff hwell hwi _ _).mpr rfl
  · cases hx with
    | cons x1 x2 =>
      cases x2
      cases x1 with
      | lst hs ha =>
        have e := ints_dw ar.1 _ ha
        subst e
        exact ⟨_, ar.1, rfl, SS.sq hs, e2, fun H' p hp => .lst (SqL.of hp) (dw_ints _)⟩
end Qa

set_option Elab.async false
set_option linter.all false
set_option maxRecDepth 100000
set_option maxHeartbeats 8000000
namespace Qa
open PySem PySem.Spec PyProof.Rows L2
/-! ### the facts of the top -/
section
variable {K : PySem.W.Frag} {h : Heap} {mg : Str → Option Value} {name qual : Str} {st : Stmt} {f C : Addr} {oc : Value} {od an : Option Addr} {osl : Array (Option Value)} {kV doc pm cdv ct : Value} {ps : List Str}
theorem dfn_ok (X : K.In h) (G : h.Ns mainGlobals mg) (a : PySem.W.nsIn K mainGlobals name = some (some (.ref f))) (l : K.lookup f = some ⟨oc, od, .func (PySem.W.fnOf name name (defArgs st) (defBody st) (defScope st) .none kV doc pm an cdv ct), osl⟩) (c : PySem.W.codeIn K cdv name = true) (k : PySem.W.keepIn K (.ref f) = true)
    (hb : ∀ (kV doc pm : Value) (an : Option Addr) (cdv ct : Value) (us : List Value), us.length = ps.length → bindArgs (PySem.W.fnOf name name (defArgs st) (defBody st) (defScope st) .none kV doc pm an cdv ct) ⟨us, []⟩ = pure (ps.zip us)) : Nonempty (Dfn K mg name st ps) :=
  ⟨⟨f, _, fun_mk l c k, PySem.W.mg_of X G a, (fun_mk l c k).binds hb⟩⟩
theorem last_ok (X : K.In h) (G : h.Ns mainGlobals mg) (a : PySem.W.nsIn K mainGlobals name = some (some (.ref f))) (l : K.lookup f = some ⟨oc, od, .func (PySem.W.fnOf name name (defArgs st) (defBody st) (defScope st) .none kV doc pm an cdv ct), osl⟩) (c : PySem.W.codeIn K cdv name = true) (k : PySem.W.keepIn K (.ref f) = true)
    (hb : ∀ (kV doc pm : Value) (an : Option Addr) (cdv ct : Value) (us : List Value), us.length = ps.length → bindArgs (PySem.W.fnOf name name (defArgs st) (defBody st) (defScope st) .none kV doc pm an cdv ct) ⟨us, []⟩ = pure (ps.zip us)) :
    ∃ d : Dfn K mg name st ps, ∀ (s : Shared) (us : List Value), us.length = ps.length → BindsTo s d.fd ⟨us, []⟩ (ps.zip us) :=
  ⟨⟨f, _, fun_mk l c k, PySem.W.mg_of X G a, (fun_mk l c k).binds hb⟩, fun s us hu => .of_eq (hb _ _ _ _ _ _ us hu)⟩
theorem mtd_ok (a : PySem.W.findIn K (.ref C) name = some (some (.ref f))) (n : PySem.W.isFn K (.ref f) = true) (l : K.lookup f = some ⟨oc, od, .func (PySem.W.fnOf name qual (defArgs st) (defBody st) (defScope st) .none kV doc pm an cdv ct), osl⟩) (c : PySem.W.codeIn K cdv qual = true) (k : PySem.W.keepIn K (.ref f) = true)
    (hb : ∀ (kV doc pm : Value) (an : Option Addr) (cdv ct : Value) (us : List Value), us.length = ps.length → bindArgs (PySem.W.fnOf name qual (defArgs st) (defBody st) (defScope st) .none kV doc pm an cdv ct) ⟨us, []⟩ = pure (ps.zip us)) : Nonempty (Mtd K C name qual st ps) :=
  ⟨⟨f, _, fun_mk l c k, ⟨a, n, k⟩, (fun_mk l c k).binds hb⟩⟩
theorem ini_ok (a : PySem.W.findIn K (.ref C) "__init__" = some (some (.ref f))) (n : PySem.W.isFn K (.ref f) = true) (l : K.lookup f = some ⟨oc, od, .func (PySem.W.fnOf "__init__" qual (defArgs st) (defBody st) (defScope st) .none kV doc pm an cdv ct), osl⟩) (c : PySem.W.codeIn K cdv qual = true) (k : PySem.W.keepIn K (.ref f) = true)
    (m : PySem.W.makesIn K C = true) (kC : PySem.W.keepIn K (.ref C) = true)
    (hb : ∀ (kV doc pm : Value) (an : Option Addr) (cdv ct : Value) (us : List Value), us.length = ps.length → bindArgs (PySem.W.fnOf "__init__" qual (defArgs st) (defBody st) (defScope st) .none kV doc pm an cdv ct) ⟨us, []⟩ = pure (ps.zip us)) :
    ∃ i : Ini K "__init__" qual st ps, Mk K C i.f :=
  ⟨⟨f, _, fun_mk l c k, (fun_mk l c k).binds hb⟩, ⟨m, a, n, kC⟩⟩
theorem exi_ok (a : PySem.W.findIn K (.ref C) "__init__" = some (some (.ref f))) (t : PySem.W.typeIn K (.ref f) = some (.type "function")) (l : K.lookup f = some ⟨oc, od, .func (PySem.W.fnOf "__init__" qual (defArgs st) (defBody st) (defScope st) .none kV doc pm an cdv ct), osl⟩) (c : PySem.W.codeIn K cdv qual = true) (k : PySem.W.keepIn K (.ref f) = true)
    (hb : ∀ (kV doc pm : Value) (an : Option Addr) (cdv ct : Value) (us : List Value), us.length = ps.length → bindArgs (PySem.W.fnOf "__init__" qual (defArgs st) (defBody st) (defScope st) .none kV doc pm an cdv ct) ⟨us, []⟩ = pure (ps.zip us)) :
    ∃ i : Ini K "__init__" qual st ps, PySem.W.findIn K (.ref C) "__init__" = some (some (.ref i.f)) ∧ PySem.W.typeIn K (.ref i.f) = some (.type "function") :=
  ⟨⟨f, _, fun_mk l c k, (fun_mk l c k).binds hb⟩, a, t⟩
/-- a tuple of the top -/
def TupAt (K : PySem.W.Frag) (x : Str) (vs : List V) : Prop := ∃ a, PySem.W.nsIn K mainGlobals x = some (some (.ref a)) ∧ ∃ (od : Option Addr) (its : Array Value) (n : Nat) (sl : Array (Option Value)), K.lookup a = some ⟨.type "tuple", od, .seq its n, sl⟩ ∧ its.size ≤ sizeLine ∧ Vals vs its.toList
theorem tup_at {x : Str} {vs : List V} (X : K.In h) (G : h.Ns mainGlobals mg) (t : TupAt K x vs) : ∃ a, mg x = some (.ref a) ∧ ∀ H : Hp, SqT K H a vs := by
  obtain ⟨a, e1, od, its, n, sl, e2, e3, e4⟩ := t
  exact ⟨a, PySem.W.mg_of X G e1, fun H => .inr ⟨_, its, n, e2, rfl, rfl, e3, e4⟩⟩
theorem tup_ok {x : Str} {vs : List V} {a : Addr} {od : Option Addr} {its : Array Value} {n : Nat} {sl : Array (Option Value)} (e1 : PySem.W.nsIn K mainGlobals x = some (some (.ref a))) (e2 : K.lookup a = some ⟨.type "tuple", od, .seq its n, sl⟩) (e3 : its.size ≤ sizeLine) (e4 : Vals vs its.toList) : TupAt K x vs := ⟨a, e1, od, its, n, sl, e2, e3, e4⟩
def ExcAt (K : PySem.W.Frag) (CR : Addr) : Prop := ∃ nm q N bs bm sn sub ab col dd k0 k1 k2 k3 k5, K.lookup CR = some (excClassObj nm q CR N bs bm true sn sub ab col dd k0 k1 k2 k3 k5 "ValueError.__new__") ∧ PySem.HandSPX.refsVE bm = true
theorem exc_ok {CR : Addr} {nm q : Str} {N : Addr} {bs bm : List Value} {sn : List Str} {sub : List Value} {ab : Bool} {col : Option Bool} {dd : Option Addr} {m0 m1 m2 m3 m5 : Option Value} (e : K.lookup CR = some (excClassObj nm q CR N bs bm true sn sub ab col dd m0 m1 m2 m3 m5 "ValueError.__new__")) (r : PySem.HandSPX.refsVE bm = true) : ExcAt K CR := ⟨nm, q, N, bs, bm, sn, sub, ab, col, dd, m0, m1, m2, m3, m5, e, r⟩
theorem int_at {x : Str} {n : Int} (X : K.In h) (G : h.Ns mainGlobals mg) (t : ∃ t, PySem.W.nsIn K mainGlobals x = some (some (.int n t))) : ∃ t, mg x = some (.int n t) := by
  obtain ⟨t, e⟩ := t
  exact ⟨t, PySem.W.mg_of X G e⟩
end
/-- an error of the class at S is what «except S» names -/
theorem exm_self {K : PySem.W.Frag} {S : Addr} (h1 : PySem.W.subIn K (.ref S) (.type "BaseException") = some true) (h2 : PySem.W.isClsIn K S = true) (h3 : PySem.W.typeIn K (.ref S) = some (.type "type")) (h4 : PySem.W.subIn K (.ref S) (.ref S) = some true) :
    PySem.W.exmOne K (.ref S) (.ref S) = some true := by
  have e1 : (PySem.W.subIn K (.ref S) (.type "BaseException") == some true) = true := by rw [h1] <;> rfl
  have e2 : ((PySem.W.clsIn K S).isSome && PySem.W.typeIn K (.ref S) == some (.type "type")) = true := by
    have h2' : (PySem.W.clsIn K S).isSome = true := h2
    rw [h2', h3] <;> rfl
  show (if (PySem.W.subIn K (.ref S) (.type "BaseException") == some true) = true then (if ((PySem.W.clsIn K S).isSome && PySem.W.typeIn K (.ref S) == some (.type "type")) = true then PySem.W.subIn K (.ref S) (.ref S) else none) else none) = some true
  rw [if_pos e1, if_pos e2]
  exact h4
theorem all_mk {P : Program} {w : World} {K : PySem.W.Frag} {h : Heap} {mg : Str → Option Value} {fa CR CA CB CD : Addr} (ht : P.given.tree = none) (X : K.In h) (G : h.Ns mainGlobals mg) (hfa : mg "answers" = some (.ref fa))
    (gCR : PySem.W.nsIn K mainGlobals "Refused" = some (some (.ref CR)))
    (gCA : PySem.W.nsIn K mainGlobals "Aid" = some (some (.ref CA)))
    (gCB : PySem.W.nsIn K mainGlobals "Band" = some (some (.ref CB)))
    (gCD : PySem.W.nsIn K mainGlobals "Desk" = some (some (.ref CD)))
    (b_abs : PySem.W.nsIn K mainGlobals "abs" = some none)
    (b_len : PySem.W.nsIn K mainGlobals "len" = some none)
    (b_max : PySem.W.nsIn K mainGlobals "max" = some none)
    (b_min : PySem.W.nsIn K mainGlobals "min" = some none)
    (b_list : PySem.W.nsIn K mainGlobals "list" = some none)
    (b_enumerate : PySem.W.nsIn K mainGlobals "enumerate" = some none)
    (b_zip : PySem.W.nsIn K mainGlobals "zip" = some none)
    (b_range : PySem.W.nsIn K mainGlobals "range" = some none)
    (b_all : PySem.W.nsIn K mainGlobals "all" = some none)
    (b_int : PySem.W.nsIn K mainGlobals "int" = some none)
    (b_sum : PySem.W.nsIn K mainGlobals "sum" = some none)
    (b_ValueError : PySem.W.nsIn K mainGlobals "ValueError" = some none)
    (c_BAD : ∃ t, PySem.W.nsIn K mainGlobals "BAD" = some (some (.int (-1) t)))
    (c_NO_BAND : ∃ t, PySem.W.nsIn K mainGlobals "NO_BAND" = some (some (.int (-3) t)))
    (c_NO_RING : ∃ t, PySem.W.nsIn K mainGlobals "NO_RING" = some (some (.int (-5) t)))
    (c_MISFIT : ∃ t, PySem.W.nsIn K mainGlobals "MISFIT" = some (some (.int (-6) t)))
    (c_LOUD : ∃ t, PySem.W.nsIn K mainGlobals "LOUD" = some (some (.int (-8) t)))
    (c_MOST_UPPER : ∃ t, PySem.W.nsIn K mainGlobals "MOST_UPPER" = some (some (.int (4) t)))
    (c_MOST_LOWER : ∃ t, PySem.W.nsIn K mainGlobals "MOST_LOWER" = some (some (.int (3) t)))
    (c_MOST_OF_FILTERS : ∃ t, PySem.W.nsIn K mainGlobals "MOST_OF_FILTERS" = some (some (.int (100) t)))
    (c_NOUGHT : TupAt K "NOUGHT" [.int 0, .int 1])
    (c_ONE : TupAt K "ONE" [.int 1, .int 1])
    (c_MOST_BANDS : ∃ t, PySem.W.nsIn K mainGlobals "MOST_BANDS" = some (some (.int (3) t)))
    (c_MOST_CHECKED : ∃ t, PySem.W.nsIn K mainGlobals "MOST_CHECKED" = some (some (.int (200) t)))
    (c_MOST_INPUTS : ∃ t, PySem.W.nsIn K mainGlobals "MOST_INPUTS" = some (some (.int (16) t)))
    (c_MOST_TOLD : ∃ t, PySem.W.nsIn K mainGlobals "MOST_TOLD" = some (some (.int (12) t)))
    (c_FAR : ∃ t, PySem.W.nsIn K mainGlobals "FAR" = some (some (.int (1000) t)))
    (c_FAR_IN_ROWS : ∃ t, PySem.W.nsIn K mainGlobals "FAR_IN_ROWS" = some (some (.int (1000000) t)))
    (c_MOST_VOLUME : ∃ t, PySem.W.nsIn K mainGlobals "MOST_VOLUME" = some (some (.int (60) t)))
    (c_MOST_PARTS : ∃ t, PySem.W.nsIn K mainGlobals "MOST_PARTS" = some (some (.int (100) t)))
    (c_MOST_GAIN : ∃ t, PySem.W.nsIn K mainGlobals "MOST_GAIN" = some (some (.int (1000) t)))
    (c_MOST_LATER : ∃ t, PySem.W.nsIn K mainGlobals "MOST_LATER" = some (some (.int (3) t)))
    (c_WHOLE : TupAt K "WHOLE" [.int 0, .int 3, .int 3, .int 1, .int 0, .int 0, .int 0, .int 0, .int 0, .int 0, .int 1, .int 2, .int 0, .int 0, .int 0, .int 2, .int 1, .int 0, .int 1, .int 2])
    (c_LISTS : TupAt K "LISTS" [.int 2, .int 2, .int 0, .int 0, .int 0, .int 0, .int 0, .int 1, .int 0, .int 1, .int 1, .int 0, .int 0, .int 1, .int 0, .int 0, .int 0, .int 0, .int 0, .int 0])
    (d_Refused_init : ∃ i : Ini K "__init__" "Refused.__init__" s_Refused_init ["self", "code"], PySem.W.findIn K (.ref CR) "__init__" = some (some (.ref i.f)) ∧ PySem.W.typeIn K (.ref i.f) = some (.type "function"))
    (d_want : Nonempty (Dfn K mg "want" s_want ["truth", "code"]))
    (d_want_within : Nonempty (Dfn K mg "want_within" s_want_within ["number", "least", "most"]))
    (d_want_row : Nonempty (Dfn K mg "want_row" s_want_row ["row", "least_long", "most_long", "far"]))
    (d_want_filter : Nonempty (Dfn K mg "want_filter" s_want_filter ["upper", "lower"]))
    (d_common : Nonempty (Dfn K mg "common" s_common ["one", "other"]))
    (d_fraction : Nonempty (Dfn K mg "fraction" s_fraction ["top", "bottom"]))
    (d_plus : Nonempty (Dfn K mg "plus" s_plus ["one", "other"]))
    (d_less : Nonempty (Dfn K mg "less" s_less ["one", "other"]))
    (d_times : Nonempty (Dfn K mg "times" s_times ["one", "other"]))
    (d_over : Nonempty (Dfn K mg "over" s_over ["one", "other"]))
    (d_trimmed : Nonempty (Dfn K mg "trimmed" s_trimmed ["row"]))
    (d_padded : Nonempty (Dfn K mg "padded" s_padded ["row", "size"]))
    (d_product : Nonempty (Dfn K mg "product" s_product ["one", "other"]))
    (d_sum_of : Nonempty (Dfn K mg "sum_of" s_sum_of ["one", "other"]))
    (d_scaled : Nonempty (Dfn K mg "scaled" s_scaled ["row", "by"]))
    (d_less_row : Nonempty (Dfn K mg "less_row" s_less_row ["one", "other"]))
    (d_divisor_of : Nonempty (Dfn K mg "divisor_of" s_divisor_of ["row"]))
    (d_reduced : Nonempty (Dfn K mg "reduced" s_reduced ["row"]))
    (d_plain : Nonempty (Dfn K mg "plain" s_plain ["row"]))
    (d_Band_init : ∃ i : Ini K "__init__" "Band.__init__" s_Band_init ["self", "gain", "upper", "lower"], Mk K CB i.f)
    (d_product_of : Nonempty (Dfn K mg "product_of" s_product_of ["rows"]))
    (d_Aid_init : ∃ i : Ini K "__init__" "Aid.__init__" s_Aid_init ["self"], Mk K CA i.f)
    (d_Aid_band_at : Nonempty (Mtd K CA "band_at" "Aid.band_at" s_Aid_band_at ["self", "i"]))
    (d_Aid_together : Nonempty (Mtd K CA "together" "Aid.together" s_Aid_together ["self", "volume"]))
    (d_Aid_ring_at : Nonempty (Mtd K CA "ring_at" "Aid.ring_at" s_Aid_ring_at ["self", "volume"]))
    (d_Aid_ring : Nonempty (Mtd K CA "ring" "Aid.ring" s_Aid_ring ["self"]))
    (d_Aid_heard : Nonempty (Mtd K CA "heard" "Aid.heard" s_Aid_heard ["self"]))
    (d_made_fractions : Nonempty (Dfn K mg "made_fractions" s_made_fractions ["row"]))
    (d_weighed : Nonempty (Dfn K mg "weighed" s_weighed ["row", "heard", "t", "first"]))
    (d_answers_to : Nonempty (Dfn K mg "answers_to" s_answers_to ["upper", "lower", "inputs"]))
    (d_clicked : Nonempty (Dfn K mg "clicked" s_clicked ["upper", "lower", "n"]))
    (d_without : Nonempty (Dfn K mg "without" s_without ["row", "far", "part"]))
    (d_loudness : Nonempty (Dfn K mg "loudness" s_loudness ["upper", "lower"]))
    (d_let_go : Nonempty (Dfn K mg "let_go" s_let_go ["row", "told"]))
    (d_has_step : Nonempty (Dfn K mg "has_step" s_has_step ["row"]))
    (d_step_of : Nonempty (Dfn K mg "step_of" s_step_of ["row"]))
    (d_told_steps : Nonempty (Dfn K mg "told_steps" s_told_steps ["row"]))
    (d_is_quiet : Nonempty (Dfn K mg "is_quiet" s_is_quiet ["row"]))
    (d_are_alike : Nonempty (Dfn K mg "are_alike" s_are_alike ["one", "other"]))
    (d_leads_on : Nonempty (Dfn K mg "leads_on" s_leads_on ["row", "after"]))
    (d_is_proof : Nonempty (Dfn K mg "is_proof" s_is_proof ["row", "rows"]))
    (d_rows_in : Nonempty (Dfn K mg "rows_in" s_rows_in ["numbers"]))
    (d_with_size : Nonempty (Dfn K mg "with_size" s_with_size ["row"]))
    (d_rows_told : Nonempty (Dfn K mg "rows_told" s_rows_told ["rows"]))
    (d_fractions_told : Nonempty (Dfn K mg "fractions_told" s_fractions_told ["some"]))
    (d_band_told : Nonempty (Dfn K mg "band_told" s_band_told ["band"]))
    (d_ring : Nonempty (Dfn K mg "ring" s_ring ["aid"]))
    (d_quiet : Nonempty (Dfn K mg "quiet" s_quiet ["aid"]))
    (d_steps : Nonempty (Dfn K mg "steps" s_steps ["aid"]))
    (d_check : Nonempty (Dfn K mg "check" s_check ["aid", "numbers"]))
    (d_loud : Nonempty (Dfn K mg "loud" s_loud ["aid"]))
    (d_play : Nonempty (Dfn K mg "play" s_play ["aid", "inputs"]))
    (d_freed : Nonempty (Dfn K mg "freed" s_freed ["aid", "n", "told"]))
    (d_is_quiet_at : Nonempty (Dfn K mg "is_quiet_at" s_is_quiet_at ["aid", "n", "d"]))
    (d_volume : Nonempty (Dfn K mg "volume" s_volume ["aid", "d", "m"]))
    (d_alone : Nonempty (Dfn K mg "alone" s_alone ["aid"]))
    (d_row_asked : Nonempty (Dfn K mg "row_asked" s_row_asked ["numbers"]))
    (d_ends : Nonempty (Dfn K mg "ends" s_ends ["aid"]))
    (d_told_whole : Nonempty (Dfn K mg "told_whole" s_told_whole ["aid"]))
    (d_click : Nonempty (Dfn K mg "click" s_click ["aid", "n"]))
    (d_quiet_at : Nonempty (Dfn K mg "quiet_at" s_quiet_at ["aid", "n", "d"]))
    (d_want_number : Nonempty (Dfn K mg "want_number" s_want_number ["i"]))
    (d_want_gain : Nonempty (Dfn K mg "want_gain" s_want_gain ["n", "d"]))
    (d_leak : Nonempty (Dfn K mg "leak" s_leak ["aid", "upper", "lower"]))
    (d_put_band : Nonempty (Dfn K mg "put_band" s_put_band ["aid", "i", "n", "d", "upper", "lower"]))
    (d_put_gain : Nonempty (Dfn K mg "put_gain" s_put_gain ["aid", "i", "n", "d"]))
    (d_mute : Nonempty (Dfn K mg "mute" s_mute ["aid", "i"]))
    (d_later : Nonempty (Dfn K mg "later" s_later ["aid", "i", "k"]))
    (d_turn : Nonempty (Dfn K mg "turn" s_turn ["aid", "i"]))
    (d_changed : Nonempty (Dfn K mg "changed" s_changed ["aid", "call", "n", "rows"]))
    (d_of_ring : Nonempty (Dfn K mg "of_ring" s_of_ring ["aid", "call", "rows"]))
    (d_of_others : Nonempty (Dfn K mg "of_others" s_of_others ["aid", "call", "n", "rows"]))
    (d_Desk_init : ∃ i : Ini K "__init__" "Desk.__init__" s_Desk_init ["self"], Mk K CD i.f)
    (d_Desk_told_by : Nonempty (Mtd K CD "told_by" "Desk.told_by" s_Desk_told_by ["self", "call", "n", "rows"]))
    (d_Desk_answer : Nonempty (Mtd K CD "answer" "Desk.answer" s_Desk_answer ["self", "call", "n", "rows"]))
    (d_lists_from : Nonempty (Dfn K mg "lists_from" s_lists_from ["calls", "at", "many"]))
    (d_answers : ∃ d : Dfn K mg "answers" s_answers ["calls"], ∀ (s : Shared) (us : List Value), us.length = (["calls"] : List Str).length → BindsTo s d.fd ⟨us, []⟩ ((["calls"] : List Str).zip us))
    (cl_CA : Cls K CA)
    (n_leak_upper : PySem.W.findIn K (.ref CA) "leak_upper" = some none)
    (n_leak_lower : PySem.W.findIn K (.ref CA) "leak_lower" = some none)
    (n_bands : PySem.W.findIn K (.ref CA) "bands" = some none)
    (cl_CB : Cls K CB)
    (n_gain : PySem.W.findIn K (.ref CB) "gain" = some none)
    (n_upper : PySem.W.findIn K (.ref CB) "upper" = some none)
    (n_lower : PySem.W.findIn K (.ref CB) "lower" = some none)
    (cl_CD : Cls K CD)
    (n_aid : PySem.W.findIn K (.ref CD) "aid" = some none)
    (oc : ExcAt K CR)
    (sa : PySem.W.findIn K (.ref CR) "__setattr__" = some (some (.builtin "object.__setattr__")))
    (ga : PySem.W.findIn K (.ref CR) "__getattribute__" = some (some (.builtin "BaseException.__getattribute__")))
    (gg : PySem.W.findIn K (.ref CR) "__getattr__" = some none)
    (nc : PySem.W.findIn K (.ref CR) "code" = some none)
    (kC : PySem.W.keepIn K (.ref CR) = true)
    (eC : PySem.W.subIn K (.ref CR) (.type "BaseException") = some true)
    (tC : PySem.W.typeIn K (.ref CR) = some (.type "type"))
    (hC : PySem.W.hasDictIn K CR = true)
    (iC : PySem.W.isClsIn K CR = true)
    (sC : PySem.W.subIn K (.ref CR) (.ref CR) = some true) :
    ∃ fd : FuncData, (∀ (s : Shared) (us : List Value), us.length = (["calls"] : List Str).length → BindsTo s fd ⟨us, []⟩ ((["calls"] : List Str).zip us)) ∧ ∀ base : Heap, K.In base → base.Ns mainGlobals mg → base.NoSeer → FnOk P w K mg base CX0 50 fa fd ["calls"] (spAns K) := by
  obtain ⟨a_NOUGHT, t_NOUGHT⟩ := tup_at X G c_NOUGHT
  obtain ⟨a_ONE, t_ONE⟩ := tup_at X G c_ONE
  obtain ⟨a_WHOLE, t_WHOLE⟩ := tup_at X G c_WHOLE
  obtain ⟨a_LISTS, t_LISTS⟩ := tup_at X G c_LISTS
  obtain ⟨f_Refused_init, m_R1, m_R2⟩ := d_Refused_init
  obtain ⟨f_want⟩ := d_want
  obtain ⟨f_want_within⟩ := d_want_within
  obtain ⟨f_want_row⟩ := d_want_row
  obtain ⟨f_want_filter⟩ := d_want_filter
  obtain ⟨f_common⟩ := d_common
  obtain ⟨f_fraction⟩ := d_fraction
  obtain ⟨f_plus⟩ := d_plus
  obtain ⟨f_less⟩ := d_less
  obtain ⟨f_times⟩ := d_times
  obtain ⟨f_over⟩ := d_over
  obtain ⟨f_trimmed⟩ := d_trimmed
  obtain ⟨f_padded⟩ := d_padded
  obtain ⟨f_product⟩ := d_product
  obtain ⟨f_sum_of⟩ := d_sum_of
  obtain ⟨f_scaled⟩ := d_scaled
  obtain ⟨f_less_row⟩ := d_less_row
  obtain ⟨f_divisor_of⟩ := d_divisor_of
  obtain ⟨f_reduced⟩ := d_reduced
  obtain ⟨f_plain⟩ := d_plain
  obtain ⟨f_Band_init, m_Band_init⟩ := d_Band_init
  obtain ⟨f_product_of⟩ := d_product_of
  obtain ⟨f_Aid_init, m_Aid_init⟩ := d_Aid_init
  obtain ⟨f_Aid_band_at⟩ := d_Aid_band_at
  obtain ⟨f_Aid_together⟩ := d_Aid_together
  obtain ⟨f_Aid_ring_at⟩ := d_Aid_ring_at
  obtain ⟨f_Aid_ring⟩ := d_Aid_ring
  obtain ⟨f_Aid_heard⟩ := d_Aid_heard
  obtain ⟨f_made_fractions⟩ := d_made_fractions
  obtain ⟨f_weighed⟩ := d_weighed
  obtain ⟨f_answers_to⟩ := d_answers_to
  obtain ⟨f_clicked⟩ := d_clicked
  obtain ⟨f_without⟩ := d_without
  obtain ⟨f_loudness⟩ := d_loudness
  obtain ⟨f_let_go⟩ := d_let_go
  obtain ⟨f_has_step⟩ := d_has_step
  obtain ⟨f_step_of⟩ := d_step_of
  obtain ⟨f_told_steps⟩ := d_told_steps
  obtain ⟨f_is_quiet⟩ := d_is_quiet
  obtain ⟨f_are_alike⟩ := d_are_alike
  obtain ⟨f_leads_on⟩ := d_leads_on
  obtain ⟨f_is_proof⟩ := d_is_proof
  obtain ⟨f_rows_in⟩ := d_rows_in
  obtain ⟨f_with_size⟩ := d_with_size
  obtain ⟨f_rows_told⟩ := d_rows_told
  obtain ⟨f_fractions_told⟩ := d_fractions_told
  obtain ⟨f_band_told⟩ := d_band_told
  obtain ⟨f_ring⟩ := d_ring
  obtain ⟨f_quiet⟩ := d_quiet
  obtain ⟨f_steps⟩ := d_steps
  obtain ⟨f_check⟩ := d_check
  obtain ⟨f_loud⟩ := d_loud
  obtain ⟨f_play⟩ := d_play
  obtain ⟨f_freed⟩ := d_freed
  obtain ⟨f_is_quiet_at⟩ := d_is_quiet_at
  obtain ⟨f_volume⟩ := d_volume
  obtain ⟨f_alone⟩ := d_alone
  obtain ⟨f_row_asked⟩ := d_row_asked
  obtain ⟨f_ends⟩ := d_ends
  obtain ⟨f_told_whole⟩ := d_told_whole
  obtain ⟨f_click⟩ := d_click
  obtain ⟨f_quiet_at⟩ := d_quiet_at
  obtain ⟨f_want_number⟩ := d_want_number
  obtain ⟨f_want_gain⟩ := d_want_gain
  obtain ⟨f_leak⟩ := d_leak
  obtain ⟨f_put_band⟩ := d_put_band
  obtain ⟨f_put_gain⟩ := d_put_gain
  obtain ⟨f_mute⟩ := d_mute
  obtain ⟨f_later⟩ := d_later
  obtain ⟨f_turn⟩ := d_turn
  obtain ⟨f_changed⟩ := d_changed
  obtain ⟨f_of_ring⟩ := d_of_ring
  obtain ⟨f_of_others⟩ := d_of_others
  obtain ⟨f_Desk_init, m_Desk_init⟩ := d_Desk_init
  obtain ⟨f_Desk_told_by⟩ := d_Desk_told_by
  obtain ⟨f_Desk_answer⟩ := d_Desk_answer
  obtain ⟨f_lists_from⟩ := d_lists_from
  obtain ⟨f_answers, b_answers⟩ := d_answers
  have ef : fa = f_answers.f := by
    have e := hfa.symm.trans f_answers.m
    injection e with e
    injection e
  subst ef
  refine ⟨f_answers.fd, b_answers, fun base _ _ hS => ?_⟩
  let T : Txt K mg := { CR := CR, CA := CA, CB := CB, CD := CD, b_abs := PySem.W.mg_none_of X G b_abs, b_len := PySem.W.mg_none_of X G b_len, b_max := PySem.W.mg_none_of X G b_max, b_min := PySem.W.mg_none_of X G b_min, b_list := PySem.W.mg_none_of X G b_list, b_enumerate := PySem.W.mg_none_of X G b_enumerate, b_zip := PySem.W.mg_none_of X G b_zip, b_range := PySem.W.mg_none_of X G b_range, b_all := PySem.W.mg_none_of X G b_all, b_int := PySem.W.mg_none_of X G b_int, b_sum := PySem.W.mg_none_of X G b_sum, b_ValueError := PySem.W.mg_none_of X G b_ValueError, c_BAD := int_at X G c_BAD, c_NO_BAND := int_at X G c_NO_BAND, c_NO_RING := int_at X G c_NO_RING, c_MISFIT := int_at X G c_MISFIT, c_LOUD := int_at X G c_LOUD, c_MOST_UPPER := int_at X G c_MOST_UPPER, c_MOST_LOWER := int_at X G c_MOST_LOWER, c_MOST_OF_FILTERS := int_at X G c_MOST_OF_FILTERS, a_NOUGHT := a_NOUGHT, c_NOUGHT := t_NOUGHT, a_ONE := a_ONE, c_ONE := t_ONE, c_MOST_BANDS := int_at X G c_MOST_BANDS, c_MOST_CHECKED := int_at X G c_MOST_CHECKED, c_MOST_INPUTS := int_at X G c_MOST_INPUTS, c_MOST_TOLD := int_at X G c_MOST_TOLD, c_FAR := int_at X G c_FAR, c_FAR_IN_ROWS := int_at X G c_FAR_IN_ROWS, c_MOST_VOLUME := int_at X G c_MOST_VOLUME, c_MOST_PARTS := int_at X G c_MOST_PARTS, c_MOST_GAIN := int_at X G c_MOST_GAIN, c_MOST_LATER := int_at X G c_MOST_LATER, a_WHOLE := a_WHOLE, c_WHOLE := t_WHOLE, a_LISTS := a_LISTS, c_LISTS := t_LISTS, Refused_init := f_Refused_init, want := f_want, want_within := f_want_within, want_row := f_want_row, want_filter := f_want_filter, common := f_common, fraction := f_fraction, plus := f_plus, less := f_less, times := f_times, over := f_over, trimmed := f_trimmed, padded := f_padded, product := f_product, sum_of := f_sum_of, scaled := f_scaled, less_row := f_less_row, divisor_of := f_divisor_of, reduced := f_reduced, plain := f_plain, mk_Band := m_Band_init, Band_init := f_Band_init, product_of := f_product_of, mk_Aid := m_Aid_init, Aid_init := f_Aid_init, Aid_band_at := f_Aid_band_at, Aid_together := f_Aid_together, Aid_ring_at := f_Aid_ring_at, Aid_ring := f_Aid_ring, Aid_heard := f_Aid_heard, made_fractions := f_made_fractions, weighed := f_weighed, answers_to := f_answers_to, clicked := f_clicked, without := f_without, loudness := f_loudness, let_go := f_let_go, has_step := f_has_step, step_of := f_step_of, told_steps := f_told_steps, is_quiet := f_is_quiet, are_alike := f_are_alike, leads_on := f_leads_on, is_proof := f_is_proof, rows_in := f_rows_in, with_size := f_with_size, rows_told := f_rows_told, fractions_told := f_fractions_told, band_told := f_band_told, ring := f_ring, quiet := f_quiet, steps := f_steps, check := f_check, loud := f_loud, play := f_play, freed := f_freed, is_quiet_at := f_is_quiet_at, volume := f_volume, alone := f_alone, row_asked := f_row_asked, ends := f_ends, told_whole := f_told_whole, click := f_click, quiet_at := f_quiet_at, want_number := f_want_number, want_gain := f_want_gain, leak := f_leak, put_band := f_put_band, put_gain := f_put_gain, mute := f_mute, later := f_later, turn := f_turn, changed := f_changed, of_ring := f_of_ring, of_others := f_of_others, mk_Desk := m_Desk_init, Desk_init := f_Desk_init, Desk_told_by := f_Desk_told_by, Desk_answer := f_Desk_answer, lists_from := f_lists_from, answers := f_answers, cl_CA := cl_CA, g_Aid := PySem.W.mg_of X G gCA, n_leak_upper := n_leak_upper, n_leak_lower := n_leak_lower, n_bands := n_bands, cl_CB := cl_CB, g_Band := PySem.W.mg_of X G gCB, n_gain := n_gain, n_upper := n_upper, n_lower := n_lower, cl_CD := cl_CD, g_Desk := PySem.W.mg_of X G gCD, n_aid := n_aid, g_Refused := PySem.W.mg_of X G gCR, ox := ⟨oc, sa, eC, tC, kC⟩, xf := ⟨ga, gg, eC, hC⟩, noC := nc, iR := m_R1, tR := m_R2, te := exm_self eC iC tC sC, vV := rfl }
  exact ok_answers T ⟨ht, hS⟩
end Qa
open PySem PySem.W PyProof.Rows
set_option maxRecDepth 100000 in
set_option maxHeartbeats 8000000 in
theorem PySem.Challenge.cw_quietaids_s01_answers_holds : PySem.Challenge.rw_quietaids_s01_answers.Holds := by
  w_on; k_headS; (case hw => exact ⟨[.list [.int 17]], by decide +kernel, by decide +kernel⟩)
  k_fillS
  refine Qa.walk_seen (by decide +kernel) (by decide +kernel) rfl ⟨rfl, by decide, by decide⟩ (fun w h Y => PySem.W.kIn_of Y) ?F
  case F =>
    intro w mg fa h Y KX G hmg
    refine' Qa.all_mk rfl KX G hmg ?gCR ?gCA ?gCB ?gCD ?b_abs ?b_len ?b_max ?b_min ?b_list ?b_enumerate ?b_zip ?b_range ?b_all ?b_int ?b_sum ?b_ValueError ?c_BAD ?c_NO_BAND ?c_NO_RING ?c_MISFIT ?c_LOUD ?c_MOST_UPPER ?c_MOST_LOWER ?c_MOST_OF_FILTERS ?c_NOUGHT ?c_ONE ?c_MOST_BANDS ?c_MOST_CHECKED ?c_MOST_INPUTS ?c_MOST_TOLD ?c_FAR ?c_FAR_IN_ROWS ?c_MOST_VOLUME ?c_MOST_PARTS ?c_MOST_GAIN ?c_MOST_LATER ?c_WHOLE ?c_LISTS ?d_Refused_init ?d_want ?d_want_within ?d_want_row ?d_want_filter ?d_common ?d_fraction ?d_plus ?d_less ?d_times ?d_over ?d_trimmed ?d_padded ?d_product ?d_sum_of ?d_scaled ?d_less_row ?d_divisor_of ?d_reduced ?d_plain ?d_Band_init ?d_product_of ?d_Aid_init ?d_Aid_band_at ?d_Aid_together ?d_Aid_ring_at ?d_Aid_ring ?d_Aid_heard ?d_made_fractions ?d_weighed ?d_answers_to ?d_clicked ?d_without ?d_loudness ?d_let_go ?d_has_step ?d_step_of ?d_told_steps ?d_is_quiet ?d_are_alike ?d_leads_on ?d_is_proof ?d_rows_in ?d_with_size ?d_rows_told ?d_fractions_told ?d_band_told ?d_ring ?d_quiet ?d_steps ?d_check ?d_loud ?d_play ?d_freed ?d_is_quiet_at ?d_volume ?d_alone ?d_row_asked ?d_ends ?d_told_whole ?d_click ?d_quiet_at ?d_want_number ?d_want_gain ?d_leak ?d_put_band ?d_put_gain ?d_mute ?d_later ?d_turn ?d_changed ?d_of_ring ?d_of_others ?d_Desk_init ?d_Desk_told_by ?d_Desk_answer ?d_lists_from ?d_answers ?cl_CA ?n_leak_upper ?n_leak_lower ?n_bands ?cl_CB ?n_gain ?n_upper ?n_lower ?cl_CD ?n_aid ?oc ?sa ?ga ?gg ?nc ?kC ?eC ?tC ?hC ?iC ?sC
    (case gCR => k_is)
    (case gCA => k_is)
    (case gCB => k_is)
    (case gCD => k_is)
    (case b_abs => k_is)
    (case b_len => k_is)
    (case b_max => k_is)
    (case b_min => k_is)
    (case b_list => k_is)
    (case b_enumerate => k_is)
    (case b_zip => k_is)
    (case b_range => k_is)
    (case b_all => k_is)
    (case b_int => k_is)
    (case b_sum => k_is)
    (case b_ValueError => k_is)
    (case c_BAD => exact ⟨_, by k_is⟩)
    (case c_NO_BAND => exact ⟨_, by k_is⟩)
    (case c_NO_RING => exact ⟨_, by k_is⟩)
    (case c_MISFIT => exact ⟨_, by k_is⟩)
    (case c_LOUD => exact ⟨_, by k_is⟩)
    (case c_MOST_UPPER => exact ⟨_, by k_is⟩)
    (case c_MOST_LOWER => exact ⟨_, by k_is⟩)
    (case c_MOST_OF_FILTERS => exact ⟨_, by k_is⟩)
    (case c_NOUGHT => refine' Qa.tup_ok ?a ?l ?s ?v; (case a => k_is); (case l => k_is); (case s => decide); (case v => exact (.cons ⟨_, rfl⟩ (.cons ⟨_, rfl⟩ .nil))))
    (case c_ONE => refine' Qa.tup_ok ?a ?l ?s ?v; (case a => k_is); (case l => k_is); (case s => decide); (case v => exact (.cons ⟨_, rfl⟩ (.cons ⟨_, rfl⟩ .nil))))
    (case c_MOST_BANDS => exact ⟨_, by k_is⟩)
    (case c_MOST_CHECKED => exact ⟨_, by k_is⟩)
    (case c_MOST_INPUTS => exact ⟨_, by k_is⟩)
    (case c_MOST_TOLD => exact ⟨_, by k_is⟩)
    (case c_FAR => exact ⟨_, by k_is⟩)
    (case c_FAR_IN_ROWS => exact ⟨_, by k_is⟩)
    (case c_MOST_VOLUME => exact ⟨_, by k_is⟩)
    (case c_MOST_PARTS => exact ⟨_, by k_is⟩)
    (case c_MOST_GAIN => exact ⟨_, by k_is⟩)
    (case c_MOST_LATER => exact ⟨_, by k_is⟩)
    (case c_WHOLE => refine' Qa.tup_ok ?a ?l ?s ?v; (case a => k_is); (case l => k_is); (case s => decide); (case v => exact (.cons ⟨_, rfl⟩ (.cons ⟨_, rfl⟩ (.cons ⟨_, rfl⟩ (.cons ⟨_, rfl⟩ (.cons ⟨_, rfl⟩ (.cons ⟨_, rfl⟩ (.cons ⟨_, rfl⟩ (.cons ⟨_, rfl⟩ (.cons ⟨_, rfl⟩ (.cons ⟨_, rfl⟩ (.cons ⟨_, rfl⟩ (.cons ⟨_, rfl⟩ (.cons ⟨_, rfl⟩ (.cons ⟨_, rfl⟩ (.cons ⟨_, rfl⟩ (.cons ⟨_, rfl⟩ (.cons ⟨_, rfl⟩ (.cons ⟨_, rfl⟩ (.cons ⟨_, rfl⟩ (.cons ⟨_, rfl⟩ .nil))))))))))))))))))))))
    (case c_LISTS => refine' Qa.tup_ok ?a ?l ?s ?v; (case a => k_is); (case l => k_is); (case s => decide); (case v => exact (.cons ⟨_, rfl⟩ (.cons ⟨_, rfl⟩ (.cons ⟨_, rfl⟩ (.cons ⟨_, rfl⟩ (.cons ⟨_, rfl⟩ (.cons ⟨_, rfl⟩ (.cons ⟨_, rfl⟩ (.cons ⟨_, rfl⟩ (.cons ⟨_, rfl⟩ (.cons ⟨_, rfl⟩ (.cons ⟨_, rfl⟩ (.cons ⟨_, rfl⟩ (.cons ⟨_, rfl⟩ (.cons ⟨_, rfl⟩ (.cons ⟨_, rfl⟩ (.cons ⟨_, rfl⟩ (.cons ⟨_, rfl⟩ (.cons ⟨_, rfl⟩ (.cons ⟨_, rfl⟩ (.cons ⟨_, rfl⟩ .nil))))))))))))))))))))))
    (case d_Refused_init => refine' Qa.exi_ok ?a ?n ?l ?c ?k (fun _ _ _ _ _ _ us hl => match us, hl with | [_, _], _ => rfl); (case a => k_is); (case n => k_is); (case l => k_is); (case c => k_is); (case k => k_is))
    (case d_want => refine' Qa.dfn_ok KX G ?a ?l ?c ?k (fun _ _ _ _ _ _ us hl => match us, hl with | [_, _], _ => rfl); (case a => k_is); (case l => k_is); (case c => k_is); (case k => k_is))
    (case d_want_within => refine' Qa.dfn_ok KX G ?a ?l ?c ?k (fun _ _ _ _ _ _ us hl => match us, hl with | [_, _, _], _ => rfl); (case a => k_is); (case l => k_is); (case c => k_is); (case k => k_is))
    (case d_want_row => refine' Qa.dfn_ok KX G ?a ?l ?c ?k (fun _ _ _ _ _ _ us hl => match us, hl with | [_, _, _, _], _ => rfl); (case a => k_is); (case l => k_is); (case c => k_is); (case k => k_is))
    (case d_want_filter => refine' Qa.dfn_ok KX G ?a ?l ?c ?k (fun _ _ _ _ _ _ us hl => match us, hl with | [_, _], _ => rfl); (case a => k_is); (case l => k_is); (case c => k_is); (case k => k_is))
    (case d_common => refine' Qa.dfn_ok KX G ?a ?l ?c ?k (fun _ _ _ _ _ _ us hl => match us, hl with | [_, _], _ => rfl); (case a => k_is); (case l => k_is); (case c => k_is); (case k => k_is))
    (case d_fraction => refine' Qa.dfn_ok KX G ?a ?l ?c ?k (fun _ _ _ _ _ _ us hl => match us, hl with | [_, _], _ => rfl); (case a => k_is); (case l => k_is); (case c => k_is); (case k => k_is))
    (case d_plus => refine' Qa.dfn_ok KX G ?a ?l ?c ?k (fun _ _ _ _ _ _ us hl => match us, hl with | [_, _], _ => rfl); (case a => k_is); (case l => k_is); (case c => k_is); (case k => k_is))
    (case d_less => refine' Qa.dfn_ok KX G ?a ?l ?c ?k (fun _ _ _ _ _ _ us hl => match us, hl with | [_, _], _ => rfl); (case a => k_is); (case l => k_is); (case c => k_is); (case k => k_is))
    (case d_times => refine' Qa.dfn_ok KX G ?a ?l ?c ?k (fun _ _ _ _ _ _ us hl => match us, hl with | [_, _], _ => rfl); (case a => k_is); (case l => k_is); (case c => k_is); (case k => k_is))
    (case d_over => refine' Qa.dfn_ok KX G ?a ?l ?c ?k (fun _ _ _ _ _ _ us hl => match us, hl with | [_, _], _ => rfl); (case a => k_is); (case l => k_is); (case c => k_is); (case k => k_is))
    (case d_trimmed => refine' Qa.dfn_ok KX G ?a ?l ?c ?k (fun _ _ _ _ _ _ us hl => match us, hl with | [_], _ => rfl); (case a => k_is); (case l => k_is); (case c => k_is); (case k => k_is))
    (case d_padded => refine' Qa.dfn_ok KX G ?a ?l ?c ?k (fun _ _ _ _ _ _ us hl => match us, hl with | [_, _], _ => rfl); (case a => k_is); (case l => k_is); (case c => k_is); (case k => k_is))
    (case d_product => refine' Qa.dfn_ok KX G ?a ?l ?c ?k (fun _ _ _ _ _ _ us hl => match us, hl with | [_, _], _ => rfl); (case a => k_is); (case l => k_is); (case c => k_is); (case k => k_is))
    (case d_sum_of => refine' Qa.dfn_ok KX G ?a ?l ?c ?k (fun _ _ _ _ _ _ us hl => match us, hl with | [_, _], _ => rfl); (case a => k_is); (case l => k_is); (case c => k_is); (case k => k_is))
    (case d_scaled => refine' Qa.dfn_ok KX G ?a ?l ?c ?k (fun _ _ _ _ _ _ us hl => match us, hl with | [_, _], _ => rfl); (case a => k_is); (case l => k_is); (case c => k_is); (case k => k_is))
    (case d_less_row => refine' Qa.dfn_ok KX G ?a ?l ?c ?k (fun _ _ _ _ _ _ us hl => match us, hl with | [_, _], _ => rfl); (case a => k_is); (case l => k_is); (case c => k_is); (case k => k_is))
    (case d_divisor_of => refine' Qa.dfn_ok KX G ?a ?l ?c ?k (fun _ _ _ _ _ _ us hl => match us, hl with | [_], _ => rfl); (case a => k_is); (case l => k_is); (case c => k_is); (case k => k_is))
    (case d_reduced => refine' Qa.dfn_ok KX G ?a ?l ?c ?k (fun _ _ _ _ _ _ us hl => match us, hl with | [_], _ => rfl); (case a => k_is); (case l => k_is); (case c => k_is); (case k => k_is))
    (case d_plain => refine' Qa.dfn_ok KX G ?a ?l ?c ?k (fun _ _ _ _ _ _ us hl => match us, hl with | [_], _ => rfl); (case a => k_is); (case l => k_is); (case c => k_is); (case k => k_is))
    (case d_Band_init => refine' Qa.ini_ok (st := Qa.s_Band_init) (qual := "Band.__init__") (ps := ["self", "gain", "upper", "lower"]) ?aBand_init ?nBand_init ?lBand_init ?cBand_init ?kBand_init ?mBand_init ?kCBand_init ?hbBand_init; (case aBand_init => k_is); (case nBand_init => k_is); (case lBand_init => k_is); (case cBand_init => k_is); (case kBand_init => k_is); (case mBand_init => k_is); (case kCBand_init => k_is); (case hbBand_init => exact fun _ _ _ _ _ _ us hl => match us, hl with | [_, _, _, _], _ => rfl))
    (case d_product_of => refine' Qa.dfn_ok KX G ?a ?l ?c ?k (fun _ _ _ _ _ _ us hl => match us, hl with | [_], _ => rfl); (case a => k_is); (case l => k_is); (case c => k_is); (case k => k_is))
    (case d_Aid_init => refine' Qa.ini_ok (st := Qa.s_Aid_init) (qual := "Aid.__init__") (ps := ["self"]) ?aAid_init ?nAid_init ?lAid_init ?cAid_init ?kAid_init ?mAid_init ?kCAid_init ?hbAid_init; (case aAid_init => k_is); (case nAid_init => k_is); (case lAid_init => k_is); (case cAid_init => k_is); (case kAid_init => k_is); (case mAid_init => k_is); (case kCAid_init => k_is); (case hbAid_init => exact fun _ _ _ _ _ _ us hl => match us, hl with | [_], _ => rfl))
    (case d_Aid_band_at => refine' Qa.mtd_ok ?a ?n ?l ?c ?k (fun _ _ _ _ _ _ us hl => match us, hl with | [_, _], _ => rfl); (case a => k_is); (case n => k_is); (case l => k_is); (case c => k_is); (case k => k_is))
    (case d_Aid_together => refine' Qa.mtd_ok ?a ?n ?l ?c ?k (fun _ _ _ _ _ _ us hl => match us, hl with | [_, _], _ => rfl); (case a => k_is); (case n => k_is); (case l => k_is); (case c => k_is); (case k => k_is))
    (case d_Aid_ring_at => refine' Qa.mtd_ok ?a ?n ?l ?c ?k (fun _ _ _ _ _ _ us hl => match us, hl with | [_, _], _ => rfl); (case a => k_is); (case n => k_is); (case l => k_is); (case c => k_is); (case k => k_is))
    (case d_Aid_ring => refine' Qa.mtd_ok ?a ?n ?l ?c ?k (fun _ _ _ _ _ _ us hl => match us, hl with | [_], _ => rfl); (case a => k_is); (case n => k_is); (case l => k_is); (case c => k_is); (case k => k_is))
    (case d_Aid_heard => refine' Qa.mtd_ok ?a ?n ?l ?c ?k (fun _ _ _ _ _ _ us hl => match us, hl with | [_], _ => rfl); (case a => k_is); (case n => k_is); (case l => k_is); (case c => k_is); (case k => k_is))
    (case d_made_fractions => refine' Qa.dfn_ok KX G ?a ?l ?c ?k (fun _ _ _ _ _ _ us hl => match us, hl with | [_], _ => rfl); (case a => k_is); (case l => k_is); (case c => k_is); (case k => k_is))
    (case d_weighed => refine' Qa.dfn_ok KX G ?a ?l ?c ?k (fun _ _ _ _ _ _ us hl => match us, hl with | [_, _, _, _], _ => rfl); (case a => k_is); (case l => k_is); (case c => k_is); (case k => k_is))
    (case d_answers_to => refine' Qa.dfn_ok KX G ?a ?l ?c ?k (fun _ _ _ _ _ _ us hl => match us, hl with | [_, _, _], _ => rfl); (case a => k_is); (case l => k_is); (case c => k_is); (case k => k_is))
    (case d_clicked => refine' Qa.dfn_ok KX G ?a ?l ?c ?k (fun _ _ _ _ _ _ us hl => match us, hl with | [_, _, _], _ => rfl); (case a => k_is); (case l => k_is); (case c => k_is); (case k => k_is))
    (case d_without => refine' Qa.dfn_ok KX G ?a ?l ?c ?k (fun _ _ _ _ _ _ us hl => match us, hl with | [_, _, _], _ => rfl); (case a => k_is); (case l => k_is); (case c => k_is); (case k => k_is))
    (case d_loudness => refine' Qa.dfn_ok KX G ?a ?l ?c ?k (fun _ _ _ _ _ _ us hl => match us, hl with | [_, _], _ => rfl); (case a => k_is); (case l => k_is); (case c => k_is); (case k => k_is))
    (case d_let_go => refine' Qa.dfn_ok KX G ?a ?l ?c ?k (fun _ _ _ _ _ _ us hl => match us, hl with | [_, _], _ => rfl); (case a => k_is); (case l => k_is); (case c => k_is); (case k => k_is))
    (case d_has_step => refine' Qa.dfn_ok KX G ?a ?l ?c ?k (fun _ _ _ _ _ _ us hl => match us, hl with | [_], _ => rfl); (case a => k_is); (case l => k_is); (case c => k_is); (case k => k_is))
    (case d_step_of => refine' Qa.dfn_ok KX G ?a ?l ?c ?k (fun _ _ _ _ _ _ us hl => match us, hl with | [_], _ => rfl); (case a => k_is); (case l => k_is); (case c => k_is); (case k => k_is))
    (case d_told_steps => refine' Qa.dfn_ok KX G ?a ?l ?c ?k (fun _ _ _ _ _ _ us hl => match us, hl with | [_], _ => rfl); (case a => k_is); (case l => k_is); (case c => k_is); (case k => k_is))
    (case d_is_quiet => refine' Qa.dfn_ok KX G ?a ?l ?c ?k (fun _ _ _ _ _ _ us hl => match us, hl with | [_], _ => rfl); (case a => k_is); (case l => k_is); (case c => k_is); (case k => k_is))
    (case d_are_alike => refine' Qa.dfn_ok KX G ?a ?l ?c ?k (fun _ _ _ _ _ _ us hl => match us, hl with | [_, _], _ => rfl); (case a => k_is); (case l => k_is); (case c => k_is); (case k => k_is))
    (case d_leads_on => refine' Qa.dfn_ok KX G ?a ?l ?c ?k (fun _ _ _ _ _ _ us hl => match us, hl with | [_, _], _ => rfl); (case a => k_is); (case l => k_is); (case c => k_is); (case k => k_is))
    (case d_is_proof => refine' Qa.dfn_ok KX G ?a ?l ?c ?k (fun _ _ _ _ _ _ us hl => match us, hl with | [_, _], _ => rfl); (case a => k_is); (case l => k_is); (case c => k_is); (case k => k_is))
    (case d_rows_in => refine' Qa.dfn_ok KX G ?a ?l ?c ?k (fun _ _ _ _ _ _ us hl => match us, hl with | [_], _ => rfl); (case a => k_is); (case l => k_is); (case c => k_is); (case k => k_is))
    (case d_with_size => refine' Qa.dfn_ok KX G ?a ?l ?c ?k (fun _ _ _ _ _ _ us hl => match us, hl with | [_], _ => rfl); (case a => k_is); (case l => k_is); (case c => k_is); (case k => k_is))
    (case d_rows_told => refine' Qa.dfn_ok KX G ?a ?l ?c ?k (fun _ _ _ _ _ _ us hl => match us, hl with | [_], _ => rfl); (case a => k_is); (case l => k_is); (case c => k_is); (case k => k_is))
    (case d_fractions_told => refine' Qa.dfn_ok KX G ?a ?l ?c ?k (fun _ _ _ _ _ _ us hl => match us, hl with | [_], _ => rfl); (case a => k_is); (case l => k_is); (case c => k_is); (case k => k_is))
    (case d_band_told => refine' Qa.dfn_ok KX G ?a ?l ?c ?k (fun _ _ _ _ _ _ us hl => match us, hl with | [_], _ => rfl); (case a => k_is); (case l => k_is); (case c => k_is); (case k => k_is))
    (case d_ring => refine' Qa.dfn_ok KX G ?a ?l ?c ?k (fun _ _ _ _ _ _ us hl => match us, hl with | [_], _ => rfl); (case a => k_is); (case l => k_is); (case c => k_is); (case k => k_is))
    (case d_quiet => refine' Qa.dfn_ok KX G ?a ?l ?c ?k (fun _ _ _ _ _ _ us hl => match us, hl with | [_], _ => rfl); (case a => k_is); (case l => k_is); (case c => k_is); (case k => k_is))
    (case d_steps => refine' Qa.dfn_ok KX G ?a ?l ?c ?k (fun _ _ _ _ _ _ us hl => match us, hl with | [_], _ => rfl); (case a => k_is); (case l => k_is); (case c => k_is); (case k => k_is))
    (case d_check => refine' Qa.dfn_ok KX G ?a ?l ?c ?k (fun _ _ _ _ _ _ us hl => match us, hl with | [_, _], _ => rfl); (case a => k_is); (case l => k_is); (case c => k_is); (case k => k_is))
    (case d_loud => refine' Qa.dfn_ok KX G ?a ?l ?c ?k (fun _ _ _ _ _ _ us hl => match us, hl with | [_], _ => rfl); (case a => k_is); (case l => k_is); (case c => k_is); (case k => k_is))
    (case d_play => refine' Qa.dfn_ok KX G ?a ?l ?c ?k (fun _ _ _ _ _ _ us hl => match us, hl with | [_, _], _ => rfl); (case a => k_is); (case l => k_is); (case c => k_is); (case k => k_is))
    (case d_freed => refine' Qa.dfn_ok KX G ?a ?l ?c ?k (fun _ _ _ _ _ _ us hl => match us, hl with | [_, _, _], _ => rfl); (case a => k_is); (case l => k_is); (case c => k_is); (case k => k_is))
    (case d_is_quiet_at => refine' Qa.dfn_ok KX G ?a ?l ?c ?k (fun _ _ _ _ _ _ us hl => match us, hl with | [_, _, _], _ => rfl); (case a => k_is); (case l => k_is); (case c => k_is); (case k => k_is))
    (case d_volume => refine' Qa.dfn_ok KX G ?a ?l ?c ?k (fun _ _ _ _ _ _ us hl => match us, hl with | [_, _, _], _ => rfl); (case a => k_is); (case l => k_is); (case c => k_is); (case k => k_is))
    (case d_alone => refine' Qa.dfn_ok KX G ?a ?l ?c ?k (fun _ _ _ _ _ _ us hl => match us, hl with | [_], _ => rfl); (case a => k_is); (case l => k_is); (case c => k_is); (case k => k_is))
    (case d_row_asked => refine' Qa.dfn_ok KX G ?a ?l ?c ?k (fun _ _ _ _ _ _ us hl => match us, hl with | [_], _ => rfl); (case a => k_is); (case l => k_is); (case c => k_is); (case k => k_is))
    (case d_ends => refine' Qa.dfn_ok KX G ?a ?l ?c ?k (fun _ _ _ _ _ _ us hl => match us, hl with | [_], _ => rfl); (case a => k_is); (case l => k_is); (case c => k_is); (case k => k_is))
    (case d_told_whole => refine' Qa.dfn_ok KX G ?a ?l ?c ?k (fun _ _ _ _ _ _ us hl => match us, hl with | [_], _ => rfl); (case a => k_is); (case l => k_is); (case c => k_is); (case k => k_is))
    (case d_click => refine' Qa.dfn_ok KX G ?a ?l ?c ?k (fun _ _ _ _ _ _ us hl => match us, hl with | [_, _], _ => rfl); (case a => k_is); (case l => k_is); (case c => k_is); (case k => k_is))
    (case d_quiet_at => refine' Qa.dfn_ok KX G ?a ?l ?c ?k (fun _ _ _ _ _ _ us hl => match us, hl with | [_, _, _], _ => rfl); (case a => k_is); (case l => k_is); (case c => k_is); (case k => k_is))
    (case d_want_number => refine' Qa.dfn_ok KX G ?a ?l ?c ?k (fun _ _ _ _ _ _ us hl => match us, hl with | [_], _ => rfl); (case a => k_is); (case l => k_is); (case c => k_is); (case k => k_is))
    (case d_want_gain => refine' Qa.dfn_ok KX G ?a ?l ?c ?k (fun _ _ _ _ _ _ us hl => match us, hl with | [_, _], _ => rfl); (case a => k_is); (case l => k_is); (case c => k_is); (case k => k_is))
    (case d_leak => refine' Qa.dfn_ok KX G ?a ?l ?c ?k (fun _ _ _ _ _ _ us hl => match us, hl with | [_, _, _], _ => rfl); (case a => k_is); (case l => k_is); (case c => k_is); (case k => k_is))
    (case d_put_band => refine' Qa.dfn_ok KX G ?a ?l ?c ?k (fun _ _ _ _ _ _ us hl => match us, hl with | [_, _, _, _, _, _], _ => rfl); (case a => k_is); (case l => k_is); (case c => k_is); (case k => k_is))
    (case d_put_gain => refine' Qa.dfn_ok KX G ?a ?l ?c ?k (fun _ _ _ _ _ _ us hl => match us, hl with | [_, _, _, _], _ => rfl); (case a => k_is); (case l => k_is); (case c => k_is); (case k => k_is))
    (case d_mute => refine' Qa.dfn_ok KX G ?a ?l ?c ?k (fun _ _ _ _ _ _ us hl => match us, hl with | [_, _], _ => rfl); (case a => k_is); (case l => k_is); (case c => k_is); (case k => k_is))
    (case d_later => refine' Qa.dfn_ok KX G ?a ?l ?c ?k (fun _ _ _ _ _ _ us hl => match us, hl with | [_, _, _], _ => rfl); (case a => k_is); (case l => k_is); (case c => k_is); (case k => k_is))
    (case d_turn => refine' Qa.dfn_ok KX G ?a ?l ?c ?k (fun _ _ _ _ _ _ us hl => match us, hl with | [_, _], _ => rfl); (case a => k_is); (case l => k_is); (case c => k_is); (case k => k_is))
    (case d_changed => refine' Qa.dfn_ok KX G ?a ?l ?c ?k (fun _ _ _ _ _ _ us hl => match us, hl with | [_, _, _, _], _ => rfl); (case a => k_is); (case l => k_is); (case c => k_is); (case k => k_is))
    (case d_of_ring => refine' Qa.dfn_ok KX G ?a ?l ?c ?k (fun _ _ _ _ _ _ us hl => match us, hl with | [_, _, _], _ => rfl); (case a => k_is); (case l => k_is); (case c => k_is); (case k => k_is))
    (case d_of_others => refine' Qa.dfn_ok KX G ?a ?l ?c ?k (fun _ _ _ _ _ _ us hl => match us, hl with | [_, _, _, _], _ => rfl); (case a => k_is); (case l => k_is); (case c => k_is); (case k => k_is))
    (case d_Desk_init => refine' Qa.ini_ok (st := Qa.s_Desk_init) (qual := "Desk.__init__") (ps := ["self"]) ?aDesk_init ?nDesk_init ?lDesk_init ?cDesk_init ?kDesk_init ?mDesk_init ?kCDesk_init ?hbDesk_init; (case aDesk_init => k_is); (case nDesk_init => k_is); (case lDesk_init => k_is); (case cDesk_init => k_is); (case kDesk_init => k_is); (case mDesk_init => k_is); (case kCDesk_init => k_is); (case hbDesk_init => exact fun _ _ _ _ _ _ us hl => match us, hl with | [_], _ => rfl))
    (case d_Desk_told_by => refine' Qa.mtd_ok ?a ?n ?l ?c ?k (fun _ _ _ _ _ _ us hl => match us, hl with | [_, _, _, _], _ => rfl); (case a => k_is); (case n => k_is); (case l => k_is); (case c => k_is); (case k => k_is))
    (case d_Desk_answer => refine' Qa.mtd_ok ?a ?n ?l ?c ?k (fun _ _ _ _ _ _ us hl => match us, hl with | [_, _, _, _], _ => rfl); (case a => k_is); (case n => k_is); (case l => k_is); (case c => k_is); (case k => k_is))
    (case d_lists_from => refine' Qa.dfn_ok KX G ?a ?l ?c ?k (fun _ _ _ _ _ _ us hl => match us, hl with | [_, _, _], _ => rfl); (case a => k_is); (case l => k_is); (case c => k_is); (case k => k_is))
    (case d_answers => refine' Qa.last_ok KX G ?a ?l ?c ?k (fun _ _ _ _ _ _ us hl => match us, hl with | [_], _ => rfl); (case a => k_is); (case l => k_is); (case c => k_is); (case k => k_is))
    (case cl_CA => exact ⟨by k_is, by k_is, by k_is, by k_is⟩)
    (case n_leak_upper => k_is)
    (case n_leak_lower => k_is)
    (case n_bands => k_is)
    (case cl_CB => exact ⟨by k_is, by k_is, by k_is, by k_is⟩)
    (case n_gain => k_is)
    (case n_upper => k_is)
    (case n_lower => k_is)
    (case cl_CD => exact ⟨by k_is, by k_is, by k_is, by k_is⟩)
    (case n_aid => k_is)
    (case oc => refine' Qa.exc_ok ?lx ?rx; (case lx => k_is); (case rx => decide +kernel))
    (case sa => k_is)
    (case ga => k_is)
    (case gg => k_is)
    (case nc => k_is)
    (case kC => k_is)
    (case eC => k_is)
    (case tC => k_is)
    (case hC => k_is)
    (case iC => k_is)
    (case sC => first | rfl | k_is)
#print axioms PySem.Challenge.cw_quietaids_s01_answers_holds
