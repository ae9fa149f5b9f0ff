import PyProof.Rows.All
import Wide.All
import OpenK.AllK
import Wide.FinOn
import PySem.Challenge.RW_sx_zprincipal_5

set_option Elab.async false
set_option maxRecDepth 100000
set_option autoImplicit false
set_option linter.all false

section
namespace Zp

/-! The abstract machine, in plain Lean. -/

inductive V where
  | int (n : Int)
  | bool (n : Int)
  | clo (p : Nat) (env : List V)
  | pair (a b : V)

inductive Nd where
  | num (n : Int)
  | boo (n : Int)
  | ref (i : Nat)
  | lam (b : Nat)
  | bnd (a b : Nat)
  | app (a b : Nat)
  | ite (a b c : Nat)
  | fst (a : Nat)
  | snd (a : Nat)
  | pair (a b : Nat)
  | add (a b : Nat)
  | less (a b : Nat)

inductive S where
  | ev (p : Nat) (env : List V)
  | back (v : V)
  | stuck

abbrev Fm := Nat × List V × Option V

noncomputable def Nd.first : Nd → Nat
  | .bnd a _ => a
  | .app a _ => a
  | .ite a _ _ => a
  | .fst a => a
  | .snd a => a
  | .pair a _ => a
  | .add a _ => a
  | .less a _ => a
  | _ => 0

noncomputable def begin (P : List Nd) (p : Nat) (env : List V) (fs : List Fm) : Option (S × List Fm) :=
  if env.length ≤ 100 then
    match P[p]? with
    | none => none
    | some (.num n) => some (.back (.int n), fs)
    | some (.boo n) => some (.back (.bool n), fs)
    | some (.ref i) => (env[i]?).map fun v => (.back v, fs)
    | some (.lam b) => some (.back (.clo b env), fs)
    | some nd => some (.ev nd.first env, (p, env, none) :: fs)
  else none

noncomputable def resume1 (p : Nat) (env : List V) (fs : List Fm) (v : V) : Nd → Option (S × List Fm)
  | .bnd _ b => some (.ev b (v :: env), fs)
  | .app _ b => match v with
    | .clo _ _ => some (.ev b env, (p, env, some v) :: fs)
    | _ => some (.stuck, fs)
  | .ite _ t e => match v with
    | .bool n => some (.ev (if n = 1 then t else e) env, fs)
    | _ => some (.stuck, fs)
  | .fst _ => match v with
    | .pair a _ => some (.back a, fs)
    | _ => some (.stuck, fs)
  | .snd _ => match v with
    | .pair _ b => some (.back b, fs)
    | _ => some (.stuck, fs)
  | .pair _ b => some (.ev b env, (p, env, some v) :: fs)
  | .add _ b => match v with
    | .int _ => some (.ev b env, (p, env, some v) :: fs)
    | _ => some (.stuck, fs)
  | .less _ b => match v with
    | .int _ => some (.ev b env, (p, env, some v) :: fs)
    | _ => some (.stuck, fs)
  | _ => none

noncomputable def resume2 (fs : List Fm) (w v : V) : Nd → Option (S × List Fm)
  | .app _ _ => match w with
    | .clo q cenv => if cenv.length ≤ 100 then some (.ev q (v :: cenv), fs) else none
    | _ => none
  | .pair _ _ => some (.back (.pair w v), fs)
  | .add _ _ => match w with
    | .int a => match v with
      | .int b => some (.back (.int (a + b)), fs)
      | _ => some (.stuck, fs)
    | _ => none
  | .less _ _ => match w with
    | .int a => match v with
      | .int b => some (.back (.bool (if a < b then 1 else 0)), fs)
      | _ => some (.stuck, fs)
    | _ => none
  | _ => none

noncomputable def resume (P : List Nd) (v : V) : List Fm → Option (S × List Fm)
  | [] => none
  | (p, env, first) :: fs =>
    if env.length ≤ 100 then
      match P[p]? with
      | none => none
      | some nd => match first with
        | none => resume1 p env fs v nd
        | some w => resume2 fs w v nd
    else none

noncomputable def step (P : List Nd) : S × List Fm → Option (S × List Fm)
  | (.ev p env, fs) => begin P p env fs
  | (.back v, fs) => resume P v fs
  | (.stuck, _) => none

inductive Out where
  | fuel
  | stuck
  | done (v : V)

/-- one turn's end: what the loop makes of the state after the step -/
noncomputable def turn (next : S × List Fm → Option Out) : Option (S × List Fm) → Option Out
  | none => none
  | some (.stuck, _) => some .stuck
  | some (.back v, []) => some (.done v)
  | some y => next y

noncomputable def run (P : List Nd) : Nat → S × List Fm → Option Out
  | 0, _ => some .fuel
  | k + 1, x => turn (run P k) (step P x)

noncomputable def G (P : List Nd) (n : Nat) (x y : S × List Fm) : Prop :=
  (∀ k, run P (n + k) x = run P k y) ∧ ∀ j, j < n → run P j x = some .fuel
noncomputable def T (P : List Nd) (n : Nat) (x : S × List Fm) (o : Out) : Prop :=
  (∀ k, run P (n + k) x = some o) ∧ ∀ j, j < n → run P j x = some .fuel

theorem G.trans {P n m x y z} (a : G P n x y) (b : G P m y z) : G P (n + m) x z := by
  refine ⟨fun k => ?_, fun j hj => ?_⟩
  · rw [Nat.add_assoc, a.1, b.1]
  · by_cases h : j < n
    · exact a.2 j h
    · obtain ⟨i, rfl⟩ := Nat.exists_eq_add_of_le (Nat.le_of_not_lt h)
      rw [a.1]; exact b.2 i (by omega)
theorem G.term {P n m x y o} (a : G P n x y) (b : T P m y o) : T P (n + m) x o := by
  refine ⟨fun k => ?_, fun j hj => ?_⟩
  · rw [Nat.add_assoc, a.1, b.1]
  · by_cases h : j < n
    · exact a.2 j h
    · obtain ⟨i, rfl⟩ := Nat.exists_eq_add_of_le (Nat.le_of_not_lt h)
      rw [a.1]; exact b.2 i (by omega)

/-- n turns from x end in the result r, the frames fs below -/
noncomputable def E (P : List Nd) (n : Nat) (x : S × List Fm) (r : Option V) (fs : List Fm) : Prop :=
  match r with
  | none => T P n x .stuck
  | some v => match fs with
    | [] => T P n x (.done v)
    | f :: r => G P n x (.back v, f :: r)

theorem G.fin {P n m x y r fs} (a : G P n x y) (b : E P m y r fs) : E P (n + m) x r fs := by
  unfold E at *
  split
  · exact a.term b
  · split
    · exact a.term b
    · exact a.trans b

theorem lt1 {j : Nat} (h : j < 1) : j = 0 := by omega
theorem G.one {P x p env fs} (h : step P x = some (.ev p env, fs)) : G P 1 x (.ev p env, fs) := by
  refine ⟨fun k => ?_, fun j hj => by rw [lt1 hj]; rfl⟩
  rw [Nat.add_comm, run, h]; rfl
theorem E.back {P x v fs} (h : step P x = some (.back v, fs)) : E P 1 x (some v) fs := by
  cases fs with
  | nil =>
    refine ⟨fun k => ?_, fun j hj => by rw [lt1 hj]; rfl⟩
    rw [Nat.add_comm, run, h]; rfl
  | cons f r =>
    refine ⟨fun k => ?_, fun j hj => by rw [lt1 hj]; rfl⟩
    rw [Nat.add_comm, run, h]; rfl
theorem E.stuck {P x fs fs'} (h : step P x = some (.stuck, fs')) : E P 1 x none fs := by
  refine ⟨fun k => ?_, fun j hj => by rw [lt1 hj]; rfl⟩
  rw [Nat.add_comm, run, h]; rfl

/-- the place p in the env gives r at exactly c turns -/
noncomputable def Ev (P : List Nd) (p : Nat) (env : List V) (r : Option V) (c : Nat) : Prop := ∀ fs, E P c (.ev p env, fs) r fs

theorem Ev.go {P p env v c} (h : Ev P p env (some v) c) (f : Fm) (fs : List Fm) : G P c (.ev p env, f :: fs) (.back v, f :: fs) := h (f :: fs)
theorem Ev.no {P p env c} (h : Ev P p env none c) (fs gs : List Fm) : E P c (.ev p env, fs) none gs := h fs

end Zp
end

section
namespace Zp

theorem E.cast {P n m x r fs} (h : E P n x r fs) (e : n = m) : E P m x r fs := e ▸ h

abbrev R := Option V × Nat

inductive Bk where
  | add | less | pair
noncomputable def Bk.nd : Bk → Nat → Nat → Nd
  | .add, a, b => .add a b
  | .less, a, b => .less a b
  | .pair, a, b => .pair a b
noncomputable def V.isInt : V → Bool
  | .int _ => true
  | _ => false
noncomputable def Bk.fits : Bk → V → Bool
  | .pair, _ => true
  | _, u => u.isInt
noncomputable def Bk.val : Bk → V → V → Option V
  | .pair, u, w => some (.pair u w)
  | .add, .int a, .int b => some (.int (a + b))
  | .less, .int a, .int b => some (.bool (if a < b then 1 else 0))
  | _, _, _ => none
noncomputable def bothR (k : Bk) (a b : R) : R :=
  match a.1 with
  | none => (none, a.2 + 1)
  | some u => if k.fits u then
      match b.1 with
      | none => (none, a.2 + b.2 + 2)
      | some w => (k.val u w, a.2 + b.2 + 3)
    else (none, a.2 + 2)

noncomputable def closR (a b : R) (place : Nat) (env : List V) : R :=
  match a.1 with
  | none => (none, a.2 + 4)
  | some u => match b.1 with
    | none => (none, a.2 + b.2 + 7)
    | some w => (some (.clo place (w :: u :: env)), a.2 + b.2 + 9)

noncomputable def partP (snd : Bool) (r : R) : R :=
  match r.1 with
  | none => (none, r.2 + 1)
  | some (.pair a b) => (some (if snd then b else a), r.2 + 2)
  | some _ => (none, r.2 + 2)
noncomputable def partC (i : Nat) (r : R) : R :=
  match r.1 with
  | none => (none, r.2 + 1)
  | some (.clo _ env) => (env[i]?, r.2 + 15)
  | some _ => (none, r.2 + 2)
noncomputable def ifR (c t e : R) : R :=
  match c.1 with
  | none => (none, c.2 + 1)
  | some (.bool n) => if n = 1 then (t.1, c.2 + t.2 + 2) else (e.1, c.2 + e.2 + 2)
  | some _ => (none, c.2 + 2)
noncomputable def boundR (k : Bk) (before around : Nat) (r : R) (y : V) : R :=
  match r.1 with
  | none => (none, r.2 + before)
  | some v => ((bothR k (some v, 1) (some y, 1)).1, r.2 + around + (bothR k (some v, 1) (some y, 1)).2)

section
variable {P : List Nd} {env : List V}

theorem ev_num {p n} (h : P[p]? = some (.num n)) (he : env.length ≤ 100) : Ev P p env (some (.int n)) 1 := fun fs => E.back (by simp [step, begin, he, h])
theorem ev_boo {p n} (h : P[p]? = some (.boo n)) (he : env.length ≤ 100) : Ev P p env (some (.bool n)) 1 := fun fs => E.back (by simp [step, begin, he, h])
theorem ev_ref {p i v} (h : P[p]? = some (.ref i)) (he : env.length ≤ 100) (hv : env[i]? = some v) : Ev P p env (some v) 1 := fun fs => E.back (by simp [step, begin, he, h, hv])
theorem ev_lam {p b} (h : P[p]? = some (.lam b)) (he : env.length ≤ 100) : Ev P p env (some (.clo b env)) 1 := fun fs => E.back (by simp [step, begin, he, h])

theorem ev_both {i p q} {a b : R} (k : Bk) (h : P[i]? = some (k.nd p q)) (he : env.length ≤ 100) (ha : Ev P p env a.1 a.2) (hb : Ev P q env b.1 b.2) :
    Ev P i env (bothR k a b).1 (bothR k a b).2 := by
  intro fs
  have s0 : step P (.ev i env, fs) = some (.ev p env, (i, env, none) :: fs) := by
    cases k <;> simp [step, begin, he, h, Bk.nd, Nd.first]
  obtain ⟨ra, ca⟩ := a
  obtain ⟨rb, cb⟩ := b
  cases ra with
  | none => exact ((G.one s0).fin (ha.no _ fs)).cast (by simp [bothR]; omega)
  | some u =>
    have g1 := (G.one s0).trans (ha.go _ _)
    by_cases hf : k.fits u = true
    · have s1 : step P (.back u, (i, env, none) :: fs) = some (.ev q env, (i, env, some u) :: fs) := by
        cases k <;> cases u <;> simp_all [step, resume, resume1, Bk.nd, Bk.fits, V.isInt]
      have g2 := g1.trans (G.one s1)
      cases rb with
      | none =>
        have := g2.fin (hb.no _ fs)
        simpa [bothR, hf] using this.cast (by show _ = ca + cb + 2; simp only; omega)
      | some w =>
        have g3 := g2.trans (hb.go _ _)
        have e3 : E P 1 (.back w, (i, env, some u) :: fs) (k.val u w) fs := by
          cases hv : k.val u w with
          | none =>
            refine E.stuck (fs' := fs) ?_
            cases k <;> cases u <;> cases w <;> simp_all [step, resume, resume2, Bk.nd, Bk.fits, V.isInt, Bk.val]
          | some z =>
            refine E.back ?_
            cases k <;> cases u <;> cases w <;> simp_all [step, resume, resume2, Bk.nd, Bk.fits, V.isInt, Bk.val]
        have := g3.fin e3
        simpa [bothR, hf] using this.cast (by show _ = ca + cb + 3; simp only; omega)
    · have s1 : step P (.back u, (i, env, none) :: fs) = some (.stuck, fs) := by
        cases k <;> cases u <;> simp_all [step, resume, resume1, Bk.nd, Bk.fits, V.isInt]
      have := g1.fin (E.stuck (fs := fs) s1)
      simpa [bothR, hf] using this.cast (by show _ = ca + 2; simp only; omega)

theorem ev_part {i p} {a : R} (snd : Bool) (h : P[i]? = some (if snd then .snd p else .fst p)) (he : env.length ≤ 100) (ha : Ev P p env a.1 a.2) :
    Ev P i env (partP snd a).1 (partP snd a).2 := by
  intro fs
  have s0 : step P (.ev i env, fs) = some (.ev p env, (i, env, none) :: fs) := by
    cases snd <;> simp_all [step, begin, Nd.first]
  obtain ⟨ra, ca⟩ := a
  cases ra with
  | none => exact ((G.one s0).fin (ha.no _ fs)).cast (by simp [partP]; omega)
  | some u =>
    have g1 := (G.one s0).trans (ha.go _ _)
    have e1 : E P 1 (.back u, (i, env, none) :: fs) (partP snd (some u, ca)).1 fs := by
      cases u with
      | pair x y =>
        refine E.back ?_
        cases snd <;> simp_all [step, resume, resume1]
      | _ =>
        refine E.stuck (fs' := fs) ?_
        cases snd <;> simp_all [step, resume, resume1]
    exact (g1.fin e1).cast (by cases u <;> simp [partP] <;> omega)

theorem ev_if {i p q r} {c t e : R} (h : P[i]? = some (.ite p q r)) (he : env.length ≤ 100) (hc : Ev P p env c.1 c.2) (ht : Ev P q env t.1 t.2) (hel : Ev P r env e.1 e.2) :
    Ev P i env (ifR c t e).1 (ifR c t e).2 := by
  intro fs
  have s0 : step P (.ev i env, fs) = some (.ev p env, (i, env, none) :: fs) := by
    simp_all [step, begin, Nd.first]
  obtain ⟨rc, cc⟩ := c
  cases rc with
  | none => exact ((G.one s0).fin (hc.no _ fs)).cast (by simp [ifR]; omega)
  | some u =>
    have g1 := (G.one s0).trans (hc.go _ _)
    cases u with
    | bool n =>
      by_cases hn : n = 1
      · have s1 : step P (.back (.bool n), (i, env, none) :: fs) = some (.ev q env, fs) := by simp_all [step, resume, resume1]
        have := (g1.trans (G.one s1)).fin (ht fs)
        simpa [ifR, hn] using this.cast (by show _ = cc + t.2 + 2; simp only; omega)
      · have s1 : step P (.back (.bool n), (i, env, none) :: fs) = some (.ev r env, fs) := by simp_all [step, resume, resume1]
        have := (g1.trans (G.one s1)).fin (hel fs)
        simpa [ifR, hn] using this.cast (by show _ = cc + e.2 + 2; simp only; omega)
    | _ =>
      refine (g1.fin (E.stuck (fs := fs) (fs' := fs) ?_)).cast (by simp [ifR]; omega)
      simp_all [step, resume, resume1]

/-- a call of a written closure -/
theorem ev_app {i j q b} {cenv : List V} {cf : Nat} {a : R} {rb : V → R} (h : P[i]? = some (.app j q)) (he : env.length ≤ 100) (hce : cenv.length ≤ 100) (hj : Ev P j env (some (.clo b cenv)) cf)
    (ha : Ev P q env a.1 a.2) (hb : ∀ v, a.1 = some v → Ev P b (v :: cenv) (rb v).1 (rb v).2) :
    Ev P i env (match a.1 with | none => none | some v => (rb v).1) (match a.1 with | none => cf + a.2 + 2 | some v => cf + a.2 + (rb v).2 + 3) := by
  intro fs
  have s0 : step P (.ev i env, fs) = some (.ev j env, (i, env, none) :: fs) := by
    simp_all [step, begin, Nd.first]
  have g1 := (G.one s0).trans (hj.go _ _)
  have s1 : step P (.back (.clo b cenv), (i, env, none) :: fs) = some (.ev q env, (i, env, some (.clo b cenv)) :: fs) := by simp_all [step, resume, resume1]
  have g2 := g1.trans (G.one s1)
  obtain ⟨ra, ca⟩ := a
  cases ra with
  | none => exact (g2.fin (ha.no _ fs)).cast (by simp; omega)
  | some u =>
    have g3 := g2.trans (ha.go _ _)
    have s2 : step P (.back u, (i, env, some (.clo b cenv)) :: fs) = some (.ev b (u :: cenv), fs) := by simp_all [step, resume, resume2]
    exact ((g3.trans (G.one s2)).fin (hb u rfl fs)).cast (by simp; omega)

/-- a call whose callee is stuck or no closure -/
theorem ev_app_bad {i j q} {f : R} (h : P[i]? = some (.app j q)) (he : env.length ≤ 100) (hj : Ev P j env f.1 f.2) (hf : ∀ b cenv, f.1 ≠ some (.clo b cenv)) :
    Ev P i env none (match f.1 with | none => f.2 + 1 | some _ => f.2 + 2) := by
  intro fs
  have s0 : step P (.ev i env, fs) = some (.ev j env, (i, env, none) :: fs) := by
    simp_all [step, begin, Nd.first]
  obtain ⟨rf, cf⟩ := f
  cases rf with
  | none => exact ((G.one s0).fin (hj.no _ fs)).cast (by simp; omega)
  | some u =>
    have g1 := (G.one s0).trans (hj.go _ _)
    have s1 : step P (.back u, (i, env, none) :: fs) = some (.stuck, fs) := by
      cases u <;> simp_all [step, resume, resume1]
    exact (g1.fin (E.stuck (fs := fs) s1)).cast (by simp; omega)

theorem ev_bnd {i q b} {a : R} {rb : V → R} (h : P[i]? = some (.bnd q b)) (he : env.length ≤ 100)
    (ha : Ev P q env a.1 a.2) (hb : ∀ v, a.1 = some v → Ev P b (v :: env) (rb v).1 (rb v).2) :
    Ev P i env (match a.1 with | none => none | some v => (rb v).1) (match a.1 with | none => a.2 + 1 | some v => a.2 + (rb v).2 + 2) := by
  intro fs
  have s0 : step P (.ev i env, fs) = some (.ev q env, (i, env, none) :: fs) := by
    simp_all [step, begin, Nd.first]
  obtain ⟨ra, ca⟩ := a
  cases ra with
  | none => exact ((G.one s0).fin (ha.no _ fs)).cast (by simp; omega)
  | some u =>
    have g1 := (G.one s0).trans (ha.go _ _)
    have s2 : step P (.back u, (i, env, none) :: fs) = some (.ev b (u :: env), fs) := by simp_all [step, resume, resume1]
    exact ((g1.trans (G.one s2)).fin (hb u rfl fs)).cast (by simp; omega)
end

end Zp
end

section
namespace Zp

structure W where
  nodes : List Nd
  r : R

noncomputable def leafOf (k : Nat) (n : Int) (near far : V) : Nd × V :=
  match k with
  | 0 => (.num n, .int n)
  | 1 => (.boo (n.fmod 2), .bool (n.fmod 2))
  | 2 => (.ref 0, near)
  | _ => (.ref 1, far)

noncomputable def bkOf : Nat → Bk
  | 0 => .add
  | 1 => .less
  | _ => .pair

noncomputable def sideP (op n : Nat) : Nat := if op % 2 = 1 then n else n - 1
noncomputable def sideQ (op n : Nat) : Nat := if op % 2 = 1 then n - 1 else n
noncomputable def sideA (op : Nat) (w : W) (v : V) : R := if op % 2 = 1 then (some v, 1) else w.r
noncomputable def sideB (op : Nat) (w : W) (v : V) : R := if op % 2 = 1 then w.r else (some v, 1)

noncomputable def plainW (w : W) (op : Nat) (leaf : Nd × V) (x y : V) : W :=
  let n := w.nodes.length
  if op < 6 then ⟨w.nodes ++ [leaf.1, (bkOf (op / 2)).nd (sideP op n) (sideQ op n)], bothR (bkOf (op / 2)) (sideA op w leaf.2) (sideB op w leaf.2)⟩
  else if op < 8 then ⟨w.nodes ++ [if op == 7 then .snd (n - 1) else .fst (n - 1)], partP (op == 7) w.r⟩
  else if op < 10 then ⟨w.nodes ++ [leaf.1, .ref 1, .ite (sideP op n) (sideQ op n) (n + 1)], ifR (sideA op w leaf.2) (sideB op w leaf.2) (some x, 1)⟩
  else ⟨w.nodes ++ [.ref 0, .ref 1, (bkOf (op - 10)).nd n (n + 1), .lam (n + 2), .app (n + 3) (n - 1)], boundR (bkOf (op - 10)) 3 4 w.r y⟩

noncomputable def callsW (w : W) (op : Nat) (leaf : Nd × V) (x y : V) : W :=
  let n := w.nodes.length
  if op < 4 then ⟨w.nodes ++ [leaf.1, (bkOf (op / 2)).nd (sideP op n) (sideQ op n)], bothR (bkOf (op / 2)) (sideA op w leaf.2) (sideB op w leaf.2)⟩
  else if op < 6 then ⟨w.nodes ++ [leaf.1, .ref 0, .ref 2, .app (n + 1) (n + 2), .ref 1, .app (n + 3) (n + 4), .lam (n + 5), .lam (n + 6), .lam (n + 7), .app (n + 8) (sideP op n), .app (n + 9) (sideQ op n)],
    closR (sideA op w leaf.2) (sideB op w leaf.2) (n + 5) [y, x]⟩
  else if op < 8 then ⟨w.nodes ++ [.ref (7 - op), .lam n, .lam (n + 1), .app (n - 1) (n + 2)], partC (7 - op) w.r⟩
  else if op < 10 then ⟨w.nodes ++ [leaf.1, .ref 1, .boo 0, .boo 1, .ite (sideP op n) (n + 2) (n + 3), .ite (n + 4) (n + 1) (sideQ op n)],
    ifR (ifR (sideA op w leaf.2) (some (.bool 0), 1) (some (.bool 1), 1)) (some x, 1) (sideB op w leaf.2)⟩
  else ⟨w.nodes ++ [.ref 0, .ref 1, (bkOf (op - 10)).nd n (n + 1), .bnd (n - 1) (n + 2)], boundR (bkOf (op - 10)) 1 2 w.r y⟩

/-- what a way's last place gives in any program that begins with its nodes -/
structure WOk (x y : V) (w : W) : Prop where
  pos : 0 < w.nodes.length
  ev : ∀ rest, Ev (w.nodes ++ rest) (w.nodes.length - 1) [y, x] w.r.1 w.r.2

noncomputable def LeafOk (x y : V) (leaf : Nd × V) : Prop := ∀ P p, P[p]? = some leaf.1 → Ev P p [y, x] (some leaf.2) 1

theorem at_ {ns new rest : List Nd} {k : Nat} {nd : Nd} (h : new[k]? = some nd) : (ns ++ new ++ rest)[ns.length + k]? = some nd := by
  have hk : k < new.length := by
    rcases Nat.lt_or_ge k new.length with q | q
    · exact q
    · rw [List.getElem?_eq_none q] at h; cases h
  rw [List.append_assoc, List.getElem?_append_right (Nat.le_add_right ..), Nat.add_sub_cancel_left, List.getElem?_append_left hk, h]

theorem leaf_ok (k : Nat) (n : Int) (x y : V) : LeafOk x y (leafOf k n y x) := by
  intro P p h
  unfold leafOf at h ⊢
  split at h
  · exact ev_num h (by simp)
  · exact ev_boo h (by simp)
  · exact ev_ref h (by simp) rfl
  · exact ev_ref h (by simp) rfl

theorem two_le {x y : V} : [y, x].length ≤ 100 := by simp

/-- the two sides -/
theorem sides_ok {x y : V} {w : W} {leaf : Nd × V} (ok : WOk x y w) (lo : LeafOk x y leaf) (op : Nat) (tl rest : List Nd) :
    Ev (w.nodes ++ (leaf.1 :: tl) ++ rest) (sideP op w.nodes.length) [y, x] (sideA op w leaf.2).1 (sideA op w leaf.2).2 ∧
    Ev (w.nodes ++ (leaf.1 :: tl) ++ rest) (sideQ op w.nodes.length) [y, x] (sideB op w leaf.2).1 (sideB op w leaf.2).2 := by
  have e1 := ok.ev ((leaf.1 :: tl) ++ rest)
  rw [← List.append_assoc] at e1
  have e2 := lo _ _ (at_ (ns := w.nodes) (new := leaf.1 :: tl) (rest := rest) (k := 0) rfl)
  rw [Nat.add_zero] at e2
  unfold sideP sideQ sideA sideB
  by_cases h : op % 2 = 1
  · simp only [h, if_true]; exact ⟨e2, e1⟩
  · simp only [h, if_false]; exact ⟨e1, e2⟩

/-- the bound's body: ref 0, ref 1, kind -/
theorem body_ok {P : List Nd} {n : Nat} (k : Bk) {v x y : V} (h0 : P[n]? = some (.ref 0)) (h1 : P[n + 1]? = some (.ref 1)) (h2 : P[n + 2]? = some (k.nd n (n + 1))) :
    Ev P (n + 2) [v, y, x] (bothR k (some v, 1) (some y, 1)).1 (bothR k (some v, 1) (some y, 1)).2 :=
  ev_both k h2 (by simp) (ev_ref h0 (by simp) rfl) (ev_ref h1 (by simp) rfl)

theorem plain_ok {x y : V} {w : W} {leaf : Nd × V} (ok : WOk x y w) (lo : LeafOk x y leaf) (op : Nat) : WOk x y (plainW w op leaf x y) := by
  unfold plainW
  dsimp only
  split
  · refine ⟨by simp, fun rest => ?_⟩
    obtain ⟨ea, eb⟩ := sides_ok ok lo op [(bkOf (op / 2)).nd (sideP op w.nodes.length) (sideQ op w.nodes.length)] rest
    have := ev_both _ (at_ (ns := w.nodes) (new := [leaf.1, (bkOf (op / 2)).nd (sideP op w.nodes.length) (sideQ op w.nodes.length)]) (rest := rest) (k := 1) rfl) two_le ea eb
    simpa using this
  · split
    · refine ⟨by simp, fun rest => ?_⟩
      have e1 := ok.ev ([if op == 7 then .snd (w.nodes.length - 1) else .fst (w.nodes.length - 1)] ++ rest)
      rw [← List.append_assoc] at e1
      have := ev_part (op == 7) (at_ (ns := w.nodes) (new := [if op == 7 then .snd (w.nodes.length - 1) else .fst (w.nodes.length - 1)]) (rest := rest) (k := 0) rfl) two_le e1
      simpa using this
    · split
      · refine ⟨by simp, fun rest => ?_⟩
        obtain ⟨ea, eb⟩ := sides_ok ok lo op [.ref 1, .ite (sideP op w.nodes.length) (sideQ op w.nodes.length) (w.nodes.length + 1)] rest
        have ex : Ev (w.nodes ++ [leaf.1, .ref 1, .ite (sideP op w.nodes.length) (sideQ op w.nodes.length) (w.nodes.length + 1)] ++ rest) (w.nodes.length + 1) [y, x] (some x) 1 :=
          ev_ref (at_ (k := 1) rfl) two_le rfl
        have := ev_if (at_ (ns := w.nodes) (new := [leaf.1, .ref 1, .ite (sideP op w.nodes.length) (sideQ op w.nodes.length) (w.nodes.length + 1)]) (rest := rest) (k := 2) rfl) two_le ea eb (e := (some x, 1)) ex
        simpa using this
      · refine ⟨by simp, fun rest => ?_⟩
        generalize hnew : [Nd.ref 0, .ref 1, (bkOf (op - 10)).nd w.nodes.length (w.nodes.length + 1), .lam (w.nodes.length + 2), .app (w.nodes.length + 3) (w.nodes.length - 1)] = new
        have e1 := ok.ev (new ++ rest)
        rw [← List.append_assoc] at e1
        have lk : ∀ k nd, new[k]? = some nd → (w.nodes ++ new ++ rest)[w.nodes.length + k]? = some nd := fun k nd h => at_ h
        subst hnew
        have := ev_app (lk 4 _ rfl) two_le two_le (ev_lam (lk 3 _ rfl) two_le) e1 (rb := fun v => bothR (bkOf (op - 10)) (some v, 1) (some y, 1)) (fun v _ => body_ok _ (lk 0 _ rfl) (lk 1 _ rfl) (lk 2 _ rfl))
        have hl : (w.nodes ++ [Nd.ref 0, .ref 1, (bkOf (op - 10)).nd w.nodes.length (w.nodes.length + 1), .lam (w.nodes.length + 2), .app (w.nodes.length + 3) (w.nodes.length - 1)]).length - 1 = w.nodes.length + 4 := by simp
        rw [hl]
        unfold boundR
        cases hr : w.r.1 with
        | none => simp only [hr] at this ⊢; intro fs; exact (this fs).cast (by omega)
        | some v => simp only [hr] at this ⊢; intro fs; exact (this fs).cast (by omega)

/-- a pair against the closure that holds its parts -/
inductive Rel (P : List Nd) (x y : V) : V → V → Prop
  | int (n : Int) : Rel P x y (.int n) (.int n)
  | bool (n : Int) : Rel P x y (.bool n) (.bool n)
  | pair {a b a' b' : V} (m : Nat) : P[m]? = some (.ref 0) → P[m + 1]? = some (.ref 2) → P[m + 2]? = some (.app m (m + 1)) → P[m + 3]? = some (.ref 1) → P[m + 4]? = some (.app (m + 2) (m + 3)) →
      Rel P x y a a' → Rel P x y b b' → Rel P x y (.pair a b) (.clo (m + 4) [b', a', y, x])

theorem getElem?_ext {P : List Nd} {rest : List Nd} {i : Nat} {nd : Nd} (h : P[i]? = some nd) : (P ++ rest)[i]? = some nd := by
  have hk : i < P.length := by
    rcases Nat.lt_or_ge i P.length with q | q
    · exact q
    · rw [List.getElem?_eq_none q] at h; cases h
  rw [List.getElem?_append_left hk, h]

theorem Rel.ext {P rest : List Nd} {x y u v : V} (h : Rel P x y u v) : Rel (P ++ rest) x y u v := by
  induction h with
  | int n => exact .int n
  | bool n => exact .bool n
  | pair m h0 h1 h2 h3 h4 _ _ ia ib => exact .pair m (getElem?_ext h0) (getElem?_ext h1) (getElem?_ext h2) (getElem?_ext h3) (getElem?_ext h4) ia ib

inductive RelR (P : List Nd) (x y : V) : Option V → Option V → Prop
  | none : RelR P x y none none
  | some {u v : V} : Rel P x y u v → RelR P x y (some u) (some v)
theorem RelR.ext {P rest : List Nd} {x y : V} {u v : Option V} (h : RelR P x y u v) : RelR (P ++ rest) x y u v := by
  cases h with
  | none => exact .none
  | some h => exact .some h.ext

/-- the selector applied -/
theorem ev_pick {P : List Nd} {x y a b v : V} {n m i c : Nat} (h0 : P[m]? = some (.ref 0)) (h1 : P[m + 1]? = some (.ref 2)) (h2 : P[m + 2]? = some (.app m (m + 1))) (h3 : P[m + 3]? = some (.ref 1)) (h4 : P[m + 4]? = some (.app (m + 2) (m + 3)))
    (k0 : P[n]? = some (.ref i)) (k1 : P[n + 1]? = some (.lam n)) (k2 : P[n + 2]? = some (.lam (n + 1))) (k3 : P[n + 3]? = some (.app (n - 1) (n + 2)))
    (hv : [b, a, y, x][i]? = some v) (e : Ev P (n - 1) [y, x] (some (.clo (m + 4) [b, a, y, x])) c) : Ev P (n + 3) [y, x] (some v) (c + 15) := by
  have inner : Ev P (m + 2) [.clo (n + 1) [y, x], b, a, y, x] (some (.clo n [a, y, x])) 6 := by
    have := ev_app (env := [.clo (n + 1) [y, x], b, a, y, x]) (cenv := [y, x]) (b := n + 1) (a := (some a, 1)) (rb := fun _ => (some (.clo n [a, y, x]), 1)) h2 (by simp) (by simp) (ev_ref h0 (by simp) rfl) (ev_ref h1 (by simp) rfl) (fun u hu => by cases hu; exact ev_lam k1 (by simp))
    exact this
  have body : Ev P (m + 4) [.clo (n + 1) [y, x], b, a, y, x] (some v) 11 := by
    have := ev_app (env := [.clo (n + 1) [y, x], b, a, y, x]) (cenv := [a, y, x]) (a := (some b, 1)) (rb := fun _ => (some v, 1)) h4 (by simp) (by simp) inner (ev_ref h3 (by simp) rfl) (fun u hu => by cases hu; exact ev_ref k0 (by simp) hv)
    exact this
  have := ev_app (a := (some (.clo (n + 1) [y, x]), 1)) (rb := fun _ => (some v, 11)) k3 two_le (by simp) e (ev_lam k2 two_le) (fun u hu => by cases hu; exact body)
  exact this

theorem calls_ok {x y : V} {w : W} {leaf : Nd × V} (ok : WOk x y w) (lo : LeafOk x y leaf) (op : Nat) (hop : op < 12) (o : Option V) (rel : RelR w.nodes x y o w.r.1) : WOk x y (callsW w op leaf x y) := by
  unfold callsW
  dsimp only
  split
  · refine ⟨by simp, fun rest => ?_⟩
    obtain ⟨ea, eb⟩ := sides_ok ok lo op [(bkOf (op / 2)).nd (sideP op w.nodes.length) (sideQ op w.nodes.length)] rest
    have := ev_both _ (at_ (ns := w.nodes) (new := [leaf.1, (bkOf (op / 2)).nd (sideP op w.nodes.length) (sideQ op w.nodes.length)]) (rest := rest) (k := 1) rfl) two_le ea eb
    simpa using this
  · split
    · refine ⟨by simp, fun rest => ?_⟩
      have lk : ∀ k nd, (leaf.1 :: [Nd.ref 0, .ref 2, .app (w.nodes.length + 1) (w.nodes.length + 2), .ref 1, .app (w.nodes.length + 3) (w.nodes.length + 4), .lam (w.nodes.length + 5), .lam (w.nodes.length + 6), .lam (w.nodes.length + 7), .app (w.nodes.length + 8) (sideP op w.nodes.length), .app (w.nodes.length + 9) (sideQ op w.nodes.length)])[k]? = some nd →
          (w.nodes ++ (leaf.1 :: [Nd.ref 0, .ref 2, .app (w.nodes.length + 1) (w.nodes.length + 2), .ref 1, .app (w.nodes.length + 3) (w.nodes.length + 4), .lam (w.nodes.length + 5), .lam (w.nodes.length + 6), .lam (w.nodes.length + 7), .app (w.nodes.length + 8) (sideP op w.nodes.length), .app (w.nodes.length + 9) (sideQ op w.nodes.length)]) ++ rest)[w.nodes.length + k]? = some nd := fun k nd h => at_ h
      obtain ⟨ea, eb⟩ := sides_ok ok lo op [Nd.ref 0, .ref 2, .app (w.nodes.length + 1) (w.nodes.length + 2), .ref 1, .app (w.nodes.length + 3) (w.nodes.length + 4), .lam (w.nodes.length + 5), .lam (w.nodes.length + 6), .lam (w.nodes.length + 7), .app (w.nodes.length + 8) (sideP op w.nodes.length), .app (w.nodes.length + 9) (sideQ op w.nodes.length)] rest
      have hl : (w.nodes ++ (leaf.1 :: [Nd.ref 0, .ref 2, .app (w.nodes.length + 1) (w.nodes.length + 2), .ref 1, .app (w.nodes.length + 3) (w.nodes.length + 4), .lam (w.nodes.length + 5), .lam (w.nodes.length + 6), .lam (w.nodes.length + 7), .app (w.nodes.length + 8) (sideP op w.nodes.length), .app (w.nodes.length + 9) (sideQ op w.nodes.length)])).length - 1 = w.nodes.length + 10 := by simp
      rw [hl]
      have inner := ev_app (rb := fun u => (some (.clo (w.nodes.length + 6) [u, y, x]), 1)) (lk 9 _ rfl) two_le two_le (ev_lam (lk 8 _ rfl) two_le) ea (fun u _ => ev_lam (lk 7 _ rfl) (by simp))
      cases ha : (sideA op w leaf.2).1 with
      | none =>
        simp only [ha] at inner
        have := ev_app_bad (f := (none, 1 + (sideA op w leaf.2).2 + 2)) (lk 10 _ rfl) two_le inner (by simp)
        unfold closR
        simp only [ha] at this ⊢
        intro fs; exact (this fs).cast (by omega)
      | some u =>
        simp only [ha] at inner
        have := ev_app (rb := fun v => (some (.clo (w.nodes.length + 5) [v, u, y, x]), 1)) (lk 10 _ rfl) two_le (by simp) inner eb (fun v _ => ev_lam (lk 6 _ rfl) (by simp))
        unfold closR
        cases hb : (sideB op w leaf.2).1 with
        | none => simp only [ha, hb] at this ⊢; intro fs; exact (this fs).cast (by omega)
        | some v => simp only [ha, hb] at this ⊢; intro fs; exact (this fs).cast (by omega)
    · split
      · rename_i h1 h2 h3
        refine ⟨by simp, fun rest => ?_⟩
        have lk : ∀ k nd, [Nd.ref (7 - op), .lam w.nodes.length, .lam (w.nodes.length + 1), .app (w.nodes.length - 1) (w.nodes.length + 2)][k]? = some nd →
          (w.nodes ++ [Nd.ref (7 - op), .lam w.nodes.length, .lam (w.nodes.length + 1), .app (w.nodes.length - 1) (w.nodes.length + 2)] ++ rest)[w.nodes.length + k]? = some nd := fun k nd h => at_ h
        have e1 := ok.ev ([Nd.ref (7 - op), .lam w.nodes.length, .lam (w.nodes.length + 1), .app (w.nodes.length - 1) (w.nodes.length + 2)] ++ rest)
        rw [← List.append_assoc] at e1
        have rel' := (rel.ext (rest := [Nd.ref (7 - op), .lam w.nodes.length, .lam (w.nodes.length + 1), .app (w.nodes.length - 1) (w.nodes.length + 2)])).ext (rest := rest)
        have hl : (w.nodes ++ [Nd.ref (7 - op), .lam w.nodes.length, .lam (w.nodes.length + 1), .app (w.nodes.length - 1) (w.nodes.length + 2)]).length - 1 = w.nodes.length + 3 := by simp
        rw [hl]
        have bad := ev_app_bad (f := w.r) (lk 3 _ rfl) two_le e1
        generalize hr : w.r.1 = r at rel' e1 bad
        cases rel' with
        | none => simpa [partC, hr] using bad (by simp)
        | some q =>
          cases q with
          | int n => simpa [partC, hr] using bad (by simp)
          | bool n => simpa [partC, hr] using bad (by simp)
          | @pair a b a' b' m p0 p1 p2 p3 p4 _ _ =>
            have hi : ∃ v, [b', a', y, x][7 - op]? = some v := by
              have : op = 6 ∨ op = 7 := by omega
              rcases this with rfl | rfl
              · exact ⟨_, rfl⟩
              · exact ⟨_, rfl⟩
            obtain ⟨v, hv⟩ := hi
            have := ev_pick p0 p1 p2 p3 p4 (lk 0 _ rfl) (lk 1 _ rfl) (lk 2 _ rfl) (lk 3 _ rfl) hv e1
            simpa [partC, hr, hv] using this
      · split
        · refine ⟨by simp, fun rest => ?_⟩
          have lk : ∀ k nd, (leaf.1 :: [Nd.ref 1, .boo 0, .boo 1, .ite (sideP op w.nodes.length) (w.nodes.length + 2) (w.nodes.length + 3), .ite (w.nodes.length + 4) (w.nodes.length + 1) (sideQ op w.nodes.length)])[k]? = some nd →
            (w.nodes ++ (leaf.1 :: [Nd.ref 1, .boo 0, .boo 1, .ite (sideP op w.nodes.length) (w.nodes.length + 2) (w.nodes.length + 3), .ite (w.nodes.length + 4) (w.nodes.length + 1) (sideQ op w.nodes.length)]) ++ rest)[w.nodes.length + k]? = some nd := fun k nd h => at_ h
          obtain ⟨ea, eb⟩ := sides_ok ok lo op [Nd.ref 1, .boo 0, .boo 1, .ite (sideP op w.nodes.length) (w.nodes.length + 2) (w.nodes.length + 3), .ite (w.nodes.length + 4) (w.nodes.length + 1) (sideQ op w.nodes.length)] rest
          have flip := ev_if (t := (some (.bool 0), 1)) (e := (some (.bool 1), 1)) (lk 4 _ rfl) two_le ea (ev_boo (lk 2 _ rfl) two_le) (ev_boo (lk 3 _ rfl) two_le)
          have := ev_if (t := (some x, 1)) (lk 5 _ rfl) two_le flip (ev_ref (lk 1 _ rfl) two_le rfl) eb
          simpa using this
        · refine ⟨by simp, fun rest => ?_⟩
          have lk : ∀ k nd, [Nd.ref 0, .ref 1, (bkOf (op - 10)).nd w.nodes.length (w.nodes.length + 1), .bnd (w.nodes.length - 1) (w.nodes.length + 2)][k]? = some nd →
            (w.nodes ++ [Nd.ref 0, .ref 1, (bkOf (op - 10)).nd w.nodes.length (w.nodes.length + 1), .bnd (w.nodes.length - 1) (w.nodes.length + 2)] ++ rest)[w.nodes.length + k]? = some nd := fun k nd h => at_ h
          have e1 := ok.ev ([Nd.ref 0, .ref 1, (bkOf (op - 10)).nd w.nodes.length (w.nodes.length + 1), .bnd (w.nodes.length - 1) (w.nodes.length + 2)] ++ rest)
          rw [← List.append_assoc] at e1
          have := ev_bnd (lk 3 _ rfl) two_le e1 (rb := fun v => bothR (bkOf (op - 10)) (some v, 1) (some y, 1)) (fun v _ => body_ok _ (lk 0 _ rfl) (lk 1 _ rfl) (lk 2 _ rfl))
          have hl : (w.nodes ++ [Nd.ref 0, .ref 1, (bkOf (op - 10)).nd w.nodes.length (w.nodes.length + 1), .bnd (w.nodes.length - 1) (w.nodes.length + 2)]).length - 1 = w.nodes.length + 3 := by simp
          rw [hl]
          unfold boundR
          cases hr : w.r.1 with
          | none => simp only [hr] at this ⊢; intro fs; exact (this fs).cast (by omega)
          | some v => simp only [hr] at this ⊢; intro fs; exact (this fs).cast (by omega)

end Zp
end

section
namespace Zp

noncomputable def Flat : V → Prop
  | .int _ => True
  | .bool _ => True
  | _ => False
theorem Flat.rel {P : List Nd} {x y v : V} (h : Flat v) : Rel P x y v v := by
  cases v with
  | int n => exact .int n
  | bool n => exact .bool n
  | clo _ _ => exact h.elim
  | pair _ _ => exact h.elim

theorem leaf_flat {k : Nat} {n : Int} {x y : V} (hx : Flat x) (hy : Flat y) : Flat (leafOf k n y x).2 := by
  unfold leafOf
  split <;> first | trivial | assumption

theorem rel_both {P : List Nd} {x y : V} {a a' b b' : R} {k : Bk} (hk : k ≠ .pair) (ha : RelR P x y a.1 a'.1) (hb : RelR P x y b.1 b'.1) : RelR P x y (bothR k a b).1 (bothR k a' b').1 := by
  obtain ⟨ra, ca⟩ := a
  obtain ⟨ra', ca'⟩ := a'
  obtain ⟨rb, cb⟩ := b
  obtain ⟨rb', cb'⟩ := b'
  dsimp only at ha hb
  cases ha with
  | none => exact .none
  | some ha =>
    cases hb with
    | none => cases ha <;> cases k <;> first | exact .none | exact absurd rfl hk
    | some hb => cases ha <;> cases hb <;> cases k <;> first | exact .none | exact .some (.int _) | exact .some (.bool _) | exact absurd rfl hk

theorem rel_sideA {P : List Nd} {x y : V} {one two : W} {v : V} (op : Nat) (hv : Flat v) (h : RelR P x y one.r.1 two.r.1) : RelR P x y (sideA op one v).1 (sideA op two v).1 := by
  unfold sideA; split
  · exact .some hv.rel
  · exact h
theorem rel_sideB {P : List Nd} {x y : V} {one two : W} {v : V} (op : Nat) (hv : Flat v) (h : RelR P x y one.r.1 two.r.1) : RelR P x y (sideB op one v).1 (sideB op two v).1 := by
  unfold sideB; split
  · exact h
  · exact .some hv.rel

theorem bk_lt {op : Nat} (h : op < 2) : bkOf op ≠ .pair := by
  match op, h with
  | 0, _ => simp [bkOf]
  | 1, _ => simp [bkOf]

theorem rel_step {x y : V} {one two : W} {leaf : Nd × V} (op : Nat) (hop : op < 12) (hx : Flat x) (hy : Flat y) (hl : Flat leaf.2) (h : RelR two.nodes x y one.r.1 two.r.1) :
    RelR (callsW two op leaf x y).nodes x y (plainW one op leaf x y).r.1 (callsW two op leaf x y).r.1 := by
  unfold plainW callsW
  dsimp only
  by_cases h4 : op < 4
  · simp only [show op < 6 by omega, h4, if_true]
    have hb : bkOf (op / 2) ≠ .pair := bk_lt (by omega)
    exact rel_both hb (rel_sideA op hl h.ext) (rel_sideB op hl h.ext)
  · by_cases h6 : op < 6
    · simp only [h4, h6, if_true, if_false]
      have hk : bkOf (op / 2) = .pair := by
        have : op / 2 = 2 := by omega
        rw [this]; rfl
      rw [hk]
      have ha := rel_sideA op hl (h.ext (rest := (leaf.1 :: [Nd.ref 0, .ref 2, .app (two.nodes.length + 1) (two.nodes.length + 2), .ref 1, .app (two.nodes.length + 3) (two.nodes.length + 4), .lam (two.nodes.length + 5), .lam (two.nodes.length + 6), .lam (two.nodes.length + 7), .app (two.nodes.length + 8) (sideP op two.nodes.length), .app (two.nodes.length + 9) (sideQ op two.nodes.length)])))
      have hb := rel_sideB op hl (h.ext (rest := (leaf.1 :: [Nd.ref 0, .ref 2, .app (two.nodes.length + 1) (two.nodes.length + 2), .ref 1, .app (two.nodes.length + 3) (two.nodes.length + 4), .lam (two.nodes.length + 5), .lam (two.nodes.length + 6), .lam (two.nodes.length + 7), .app (two.nodes.length + 8) (sideP op two.nodes.length), .app (two.nodes.length + 9) (sideQ op two.nodes.length)])))
      have lk : ∀ k nd, (leaf.1 :: [Nd.ref 0, .ref 2, .app (two.nodes.length + 1) (two.nodes.length + 2), .ref 1, .app (two.nodes.length + 3) (two.nodes.length + 4), .lam (two.nodes.length + 5), .lam (two.nodes.length + 6), .lam (two.nodes.length + 7), .app (two.nodes.length + 8) (sideP op two.nodes.length), .app (two.nodes.length + 9) (sideQ op two.nodes.length)])[k]? = some nd →
          (two.nodes ++ (leaf.1 :: [Nd.ref 0, .ref 2, .app (two.nodes.length + 1) (two.nodes.length + 2), .ref 1, .app (two.nodes.length + 3) (two.nodes.length + 4), .lam (two.nodes.length + 5), .lam (two.nodes.length + 6), .lam (two.nodes.length + 7), .app (two.nodes.length + 8) (sideP op two.nodes.length), .app (two.nodes.length + 9) (sideQ op two.nodes.length)]))[two.nodes.length + k]? = some nd := fun k nd h => by
        have := at_ (ns := two.nodes) (rest := []) h
        rwa [List.append_nil] at this
      generalize (sideA op one leaf.2) = a at ha ⊢
      generalize (sideA op two leaf.2) = a' at ha ⊢
      generalize (sideB op one leaf.2) = b at hb ⊢
      generalize (sideB op two leaf.2) = b' at hb ⊢
      obtain ⟨ra, ca⟩ := a
      obtain ⟨ra', ca'⟩ := a'
      obtain ⟨rb, cb⟩ := b
      obtain ⟨rb', cb'⟩ := b'
      dsimp only at ha hb
      cases ha with
      | none => exact .none
      | some ha =>
        cases hb with
        | none => exact .none
        | some hb => exact .some (.pair (two.nodes.length + 1) (lk 1 _ rfl) (lk 2 _ rfl) (lk 3 _ rfl) (lk 4 _ rfl) (lk 5 _ rfl) ha hb)
    · by_cases h8 : op < 8
      · simp only [h4, h6, h8, if_true, if_false]
        have h' := h.ext (rest := [Nd.ref (7 - op), .lam two.nodes.length, .lam (two.nodes.length + 1), .app (two.nodes.length - 1) (two.nodes.length + 2)])
        generalize one.r = a at h'
        generalize two.r = a' at h'
        obtain ⟨ra, ca⟩ := a
        obtain ⟨ra', ca'⟩ := a'
        dsimp only at h'
        have : op = 6 ∨ op = 7 := by omega
        cases h' with
        | none => exact .none
        | some q =>
          cases q with
          | int n => exact .none
          | bool n => exact .none
          | pair m _ _ _ _ _ ha hb =>
            rcases this with rfl | rfl
            · exact .some ha
            · exact .some hb
      · by_cases h10 : op < 10
        · simp only [h4, h6, h8, h10, if_true, if_false]
          have ha := rel_sideA op hl (h.ext (rest := leaf.1 :: [Nd.ref 1, .boo 0, .boo 1, .ite (sideP op two.nodes.length) (two.nodes.length + 2) (two.nodes.length + 3), .ite (two.nodes.length + 4) (two.nodes.length + 1) (sideQ op two.nodes.length)]))
          have hb := rel_sideB op hl (h.ext (rest := leaf.1 :: [Nd.ref 1, .boo 0, .boo 1, .ite (sideP op two.nodes.length) (two.nodes.length + 2) (two.nodes.length + 3), .ite (two.nodes.length + 4) (two.nodes.length + 1) (sideQ op two.nodes.length)]))
          generalize (sideA op one leaf.2) = a at ha ⊢
          generalize (sideA op two leaf.2) = a' at ha ⊢
          generalize (sideB op one leaf.2) = b at hb ⊢
          generalize (sideB op two leaf.2) = b' at hb ⊢
          obtain ⟨ra, ca⟩ := a
          obtain ⟨ra', ca'⟩ := a'
          dsimp only at ha
          cases ha with
          | none => exact .none
          | some ha =>
            cases ha with
            | int n => exact .none
            | pair _ _ _ _ _ _ _ _ => exact .none
            | bool n =>
              by_cases hn : n = 1
              · simpa [ifR, hn] using hb
              · simpa [ifR, hn] using RelR.some hx.rel
        · simp only [h4, h6, h8, h10, if_false]
          have hb : bkOf (op - 10) ≠ .pair := bk_lt (by omega)
          have h' := h.ext (rest := [Nd.ref 0, .ref 1, (bkOf (op - 10)).nd two.nodes.length (two.nodes.length + 1), .bnd (two.nodes.length - 1) (two.nodes.length + 2)])
          generalize one.r = a at h'
          generalize two.r = a' at h'
          obtain ⟨ra, ca⟩ := a
          obtain ⟨ra', ca'⟩ := a'
          dsimp only at h'
          cases h' with
          | none => exact .none
          | some q =>
            unfold boundR
            exact rel_both (a := (some _, 1)) (a' := (some _, 1)) (b := (some y, 1)) (b' := (some y, 1)) hb (.some q) (.some hy.rel)

/-- both ways after the same choices -/
structure Two (x y : V) (one two : W) : Prop where
  ok1 : WOk x y one
  ok2 : WOk x y two
  rel : RelR two.nodes x y one.r.1 two.r.1

theorem Two.step {x y : V} {one two : W} (h : Two x y one two) (hx : Flat x) (hy : Flat y) (op k : Nat) (num : Int) (hop : op < 12) :
    Two x y (plainW one op (leafOf k num y x) x y) (callsW two op (leafOf k num y x) x y) :=
  ⟨plain_ok h.ok1 (leaf_ok k num x y) op, calls_ok h.ok2 (leaf_ok k num x y) op hop _ h.rel, rel_step op hop hx hy (leaf_flat hx hy) h.rel⟩

theorem Two.start {x y : V} (hx : Flat x) (hy : Flat y) (k : Nat) (num : Int) :
    Two x y ⟨[(leafOf k num y x).1], (some (leafOf k num y x).2, 1)⟩ ⟨[(leafOf k num y x).1], (some (leafOf k num y x).2, 1)⟩ :=
  have w : WOk x y ⟨[(leafOf k num y x).1], (some (leafOf k num y x).2, 1)⟩ := ⟨by simp, fun rest => leaf_ok k num x y _ _ rfl⟩
  ⟨w, w, .some (leaf_flat hx hy).rel⟩

/-- the whole programs -/
noncomputable def plainP (one : W) (near : Nd) (s0 : Int) : List Nd :=
  let n := one.nodes.length
  one.nodes ++ [near, .lam (n - 1), .app (n + 1) n, .num s0, .bnd (n + 3) (n + 2)]
noncomputable def callsP (two : W) (near : Nd) (s0 : Int) : List Nd :=
  let m := two.nodes.length
  two.nodes ++ [near, .bnd m (m - 1), .lam (m + 1), .num s0, .app (m + 2) (m + 3)]

/-- near: a leaf that stands in the env [x] -/
noncomputable def NearOk (x y : V) (near : Nd) : Prop := ∀ P p, P[p]? = some near → Ev P p [x] (some y) 1

theorem near_ok (k : Nat) (hk : k < 3) (n : Int) (x : V) : NearOk x (leafOf k n x x).2 (leafOf k n x x).1 := by
  intro P p h
  match k, hk with
  | 0, _ => exact ev_num h (by simp)
  | 1, _ => exact ev_boo h (by simp)
  | 2, _ => exact ev_ref h (by simp) rfl

theorem Ev.cast {P p env r c c'} (h : Ev P p env r c) (e : c = c') : Ev P p env r c' := e ▸ h

theorem plain_ev {x y : V} {one : W} {near : Nd} {s0 : Int} (hx : x = .int s0) (h : WOk x y one) (hn : NearOk x y near) :
    Ev (plainP one near s0) ((plainP one near s0).length - 1) [] one.r.1 (one.r.2 + 8) := by
  have lk : ∀ k nd, [near, Nd.lam (one.nodes.length - 1), .app (one.nodes.length + 1) one.nodes.length, .num s0, .bnd (one.nodes.length + 3) (one.nodes.length + 2)][k]? = some nd → (plainP one near s0)[one.nodes.length + k]? = some nd := fun k nd h => by
    have := at_ (ns := one.nodes) (rest := []) h
    rwa [List.append_nil] at this
  have e1 : Ev (plainP one near s0) (one.nodes.length - 1) [y, x] one.r.1 one.r.2 := h.ev _
  have e2 := ev_app (env := [x]) (cenv := [x]) (a := (some y, 1)) (rb := fun _ => one.r) (lk 2 _ rfl) (by simp) (by simp) (ev_lam (lk 1 _ rfl) (by simp)) (hn _ _ (lk 0 _ rfl)) (fun v hv => by cases hv; exact e1)
  have e3 := ev_bnd (env := []) (a := (some x, 1)) (rb := fun _ => (one.r.1, 1 + 1 + one.r.2 + 3)) (lk 4 _ rfl) (by simp) (by subst hx; exact ev_num (lk 3 _ rfl) (by simp)) (fun v hv => by cases hv; exact e2)
  have hl : (plainP one near s0).length - 1 = one.nodes.length + 4 := by simp [plainP]
  rw [hl]
  exact e3.cast (by simp only; omega)

theorem calls_ev {x y : V} {two : W} {near : Nd} {s0 : Int} (hx : x = .int s0) (h : WOk x y two) (hn : NearOk x y near) :
    Ev (callsP two near s0) ((callsP two near s0).length - 1) [] two.r.1 (two.r.2 + 8) := by
  have lk : ∀ k nd, [near, Nd.bnd two.nodes.length (two.nodes.length - 1), .lam (two.nodes.length + 1), .num s0, .app (two.nodes.length + 2) (two.nodes.length + 3)][k]? = some nd → (callsP two near s0)[two.nodes.length + k]? = some nd := fun k nd h => by
    have := at_ (ns := two.nodes) (rest := []) h
    rwa [List.append_nil] at this
  have e1 : Ev (callsP two near s0) (two.nodes.length - 1) [y, x] two.r.1 two.r.2 := h.ev _
  have e2 := ev_bnd (env := [x]) (a := (some y, 1)) (rb := fun _ => two.r) (lk 1 _ rfl) (by simp) (hn _ _ (lk 0 _ rfl)) (fun v hv => by cases hv; exact e1)
  have e3 := ev_app (env := []) (cenv := []) (a := (some x, 1)) (rb := fun _ => (two.r.1, 1 + two.r.2 + 2)) (lk 4 _ rfl) (by simp) (by simp) (ev_lam (lk 2 _ rfl) (by simp)) (by subst hx; exact ev_num (lk 3 _ rfl) (by simp)) (fun v hv => by cases hv; exact e2)
  have hl : (callsP two near s0).length - 1 = two.nodes.length + 4 := by simp [callsP]
  rw [hl]
  exact e3.cast (by simp only; omega)

noncomputable def outOf : Option V → Out
  | none => .stuck
  | some v => .done v

theorem Ev.run {P : List Nd} {p c : Nat} {r : Option V} (h : Ev P p [] r c) (k : Nat) : run P (c + k) (.ev p [], []) = some (outOf r) := by
  have := h []
  cases r with
  | none => exact this.1 k
  | some v => exact this.1 k
theorem Ev.short {P : List Nd} {p c : Nat} {r : Option V} (h : Ev P p [] r c) {j : Nat} (hj : j < c) : Zp.run P j (.ev p [], []) = some .fuel := by
  have := h []
  cases r with
  | none => exact this.2 j hj
  | some v => exact this.2 j hj

end Zp
end

section
namespace Zp
open PySem

/-! A plain interpreter for the part of Python that the law's text uses. -/

inductive D where
  | dat (d : PyData)
  | fr
  | ty (s : String)
  | sl (k : Option Int)

abbrev St := Option (List PyData)
abbrev Loc := Str → Option D

structure Cx where
  sc : Scope
  call : Str → List D → St → Option (PyData × St)
  N : Nat

noncomputable def Cx.isLocal (cx : Cx) (x : Str) : Bool := decide (cx.sc.names.lookup x = some .local) && decide (x ≠ Str.ofString "__debug__")
noncomputable def Cx.isGlob (cx : Cx) (x : Str) : Bool := decide (cx.sc.names.lookup x = some .globalImplicit) && decide (x ≠ Str.ofString "__debug__")

noncomputable def constD : Const → Option PyData
  | .none => some .none
  | .bool b => some (.bool b)
  | .int i => some (.int i)
  | .str s => some (.str s)
  | _ => none

noncomputable def binD (op : Operator) (a b : PyData) : Option PyData :=
  match op with
  | .Add => match a, b with
    | .int i, .int j => some (.int (i + j))
    | .list xs, .list ys => if xs.length + ys.length ≤ 4096 then some (.list (xs ++ ys)) else none
    | _, _ => none
  | .Sub => match a, b with
    | .int i, .int j => some (.int (i - j))
    | _, _ => none
  | .Mod => match a, b with
    | .int i, .int j => if j = 0 then none else some (.int (i.fmod j))
    | _, _ => none
  | .FloorDiv => match a, b with
    | .int i, .int j => if 0 ≤ i ∧ i < 4096 ∧ 0 < j ∧ j < 4096 then some (.int (i.fdiv j)) else none
    | _, _ => none
  | _ => none

noncomputable def binDD (op : Operator) : D → D → Option PyData
  | .dat a, .dat b => binD op a b
  | _, _ => none

noncomputable def subD (σ : St) : D → D → Option PyData
  | .dat (.list xs), .dat (.int k) => if 0 ≤ k ∧ k < 4096 then xs[k.toNat]? else none
  | .dat (.tuple xs), .dat (.int k) => if 0 ≤ k ∧ k < 4096 then xs[k.toNat]? else none
  | .fr, .dat (.int k) => match σ with
    | some fs => if 0 ≤ k ∧ k < 4096 then fs[k.toNat]? else none
    | none => none
  | .dat (.list xs), .sl k => match k with
    | none => if xs.length ≤ 4096 then some (.list xs) else none
    | some k => if xs.length ≤ 4096 ∧ 0 ≤ k then some (.list (xs.take k.toNat)) else none
  | _, _ => none

noncomputable def lenD (σ : St) : List D → Option D
  | [.dat (.list xs)] => if xs.length ≤ 4096 then some (.dat (.int xs.length)) else none
  | [.fr] => match σ with
    | some fs => if fs.length ≤ 4096 then some (.dat (.int fs.length)) else none
    | none => none
  | _ => none

noncomputable def typeD : List D → Option D
  | [.dat (.int _)] => some (.ty "int")
  | _ => none

noncomputable def isNoneD : PyData → Bool
  | .none => true
  | _ => false

noncomputable def cmpD (σ : St) (op : CmpOp) (a b : D) : Option Bool :=
  match op with
  | .Eq => match a, b with
    | .dat (.str x), .dat (.str y) => some (decide (x = y))
    | .dat a, .dat b => if SeqAt.shaped a && SeqAt.shaped b then some (PyData.eqv a b) else none
    | .fr, .dat (.list []) => match σ with
      | some fs => if PyData.canLayAll0 fs then some fs.isEmpty else none
      | none => none
    | _, _ => none
  | .NotEq => match a, b with
    | .dat (.str x), .dat (.str y) => some (!decide (x = y))
    | .dat a, .dat b => if SeqAt.shaped a && SeqAt.shaped b then some (!PyData.eqv a b) else none
    | _, _ => none
  | .Lt => match a, b with
    | .dat (.int i), .dat (.int j) => some (decide (i < j))
    | _, _ => none
  | .Gt => match a, b with
    | .dat (.int i), .dat (.int j) => some (decide (j < i))
    | _, _ => none
  | .Is => match a, b with
    | .dat a, .dat .none => some (isNoneD a)
    | .ty a, .ty b => some (a == b)
    | _, _ => none
  | .IsNot => match a, b with
    | .dat a, .dat .none => some (!isNoneD a)
    | _, _ => none
  | _ => none

noncomputable def allDat : List D → Option (List PyData)
  | [] => some []
  | .dat d :: r => (allDat r).map (d :: ·)
  | _ :: _ => none

noncomputable def Cx.isInt (cx : Cx) (x : Str) : Bool := cx.isGlob x && decide (x = Str.ofString "int")
noncomputable def Cx.callAny (cx : Cx) (f : Str) (ds : List D) (σ : St) : Option (D × St) :=
  match cx.isGlob f with
  | true => (match decide (f = Str.ofString "len") with
    | true => (match lenD σ ds with | some d => some (d, σ) | none => none)
    | false => (match decide (f = Str.ofString "type") with
      | true => (match typeD ds with | some d => some (d, σ) | none => none)
      | false => (match cx.call f ds σ with | some (d, σ₁) => some (.dat d, σ₁) | none => none)))
  | false => none

noncomputable def negD : D → Option D
  | .dat (.int i) => some (.dat (.int (-i)))
  | _ => none
noncomputable def slOf : D → Option D
  | .dat (.int k) => some (.sl (some k))
  | _ => none

noncomputable def small (es : List Expr) : Bool := Nat.ble es.length 4096

mutual
noncomputable def evE (cx : Cx) (ρ : Loc) : Expr → St → Option (D × St)
  | .Constant c _ _, σ => match constD c with
    | some d => some (.dat d, σ)
    | none => none
  | .Name x _, σ => match ρ x with
    | some d => some (d, σ)
    | none => match cx.isInt x with
      | true => some (.ty "int", σ)
      | false => none
  | .Tuple es _ _, σ => match evEs cx ρ es σ with
    | some (ds, σ₁) => (match small es with
      | true => (match allDat ds with
        | some xs => some (.dat (.tuple xs), σ₁)
        | none => none)
      | false => none)
    | none => none
  | .List es _, σ => match evEs cx ρ es σ with
    | some (ds, σ₁) => (match small es with
      | true => (match allDat ds with
        | some xs => some (.dat (.list xs), σ₁)
        | none => none)
      | false => none)
    | none => none
  | .BinOp l op r _, σ => match evE cx ρ l σ with
    | some (a, σ₁) => (match evE cx ρ r σ₁ with
      | some (b, σ₂) => (match binDD op a b with
        | some d => some (.dat d, σ₂)
        | none => none)
      | none => none)
    | none => none
  | .UnaryOp .USub x _, σ => match evE cx ρ x σ with
    | some (a, σ₁) => (match negD a with
      | some d => some (d, σ₁)
      | none => none)
    | none => none
  | .IfExp t b o _, σ => match evT cx ρ t σ with
    | some (true, σ₁) => evE cx ρ b σ₁
    | some (false, σ₁) => evE cx ρ o σ₁
    | none => none
  | .Call (.Name f _) (a :: as) [] _, σ => match evEs cx ρ (a :: as) σ with
    | some (ds, σ₁) => cx.callAny f ds σ₁
    | none => none
  | .Slice none none none _, σ => some (.sl none, σ)
  | .Slice none (some u) none _, σ => match evE cx ρ u σ with
    | some (k, σ₁) => (match slOf k with
      | some e => some (e, σ₁)
      | none => none)
    | none => none
  | .Subscript v i _, σ => match evE cx ρ v σ with
    | some (a, σ₁) => (match evE cx ρ i σ₁ with
      | some (b, σ₂) => (match subD σ₂ a b with
        | some d => some (.dat d, σ₂)
        | none => none)
      | none => none)
    | none => none
  | _, _ => none
noncomputable def evEs (cx : Cx) (ρ : Loc) : List Expr → St → Option (List D × St)
  | [], σ => some ([], σ)
  | e :: r, σ => match evE cx ρ e σ with
    | some (a, σ₁) => (match evEs cx ρ r σ₁ with
      | some (bs, σ₂) => some (a :: bs, σ₂)
      | none => none)
    | none => none
noncomputable def evT (cx : Cx) (ρ : Loc) : Expr → St → Option (Bool × St)
  | .Compare l [op] [r] _, σ => match evE cx ρ l σ with
    | some (a, σ₁) => (match evE cx ρ r σ₁ with
      | some (b, σ₂) => (match cmpD σ₂ op a b with
        | some c => some (c, σ₂)
        | none => none)
      | none => none)
    | none => none
  | .UnaryOp .Not x _, σ => match evT cx ρ x σ with
    | some (c, σ₁) => some (!c, σ₁)
    | none => none
  | .BoolOp op vs _, σ => evB cx ρ op vs σ
  | _, _ => none
noncomputable def evB (cx : Cx) (ρ : Loc) : BoolOp → List Expr → St → Option (Bool × St)
  | .And, [], σ => some (true, σ)
  | .Or, [], σ => some (false, σ)
  | .And, x :: r, σ => match evT cx ρ x σ with
    | some (true, σ₁) => evB cx ρ .And r σ₁
    | some (false, σ₁) => some (false, σ₁)
    | none => none
  | .Or, x :: r, σ => match evT cx ρ x σ with
    | some (true, σ₁) => some (true, σ₁)
    | some (false, σ₁) => evB cx ρ .Or r σ₁
    | none => none
end

inductive Fl where
  | next
  | ret (d : PyData)

noncomputable def setL (ρ : Loc) (x : Str) (d : D) : Loc := fun y => if y = x then some d else ρ y

noncomputable def bindTup (cx : Cx) : List Expr → List PyData → Loc → Option Loc
  | [], [], ρ => some ρ
  | t :: ts, d :: ds, ρ => (match t with
    | .Name x _ => (match cx.isLocal x with
      | true => bindTup cx ts ds (setL ρ x (.dat d))
      | false => none)
    | _ => none)
  | [], _ :: _, _ => none
  | _ :: _, [], _ => none

noncomputable def retD : D → Option Fl
  | .dat d => some (.ret d)
  | _ => none
noncomputable def tupOf : D → Option (List PyData)
  | .dat (.tuple ds) => some ds
  | _ => none
noncomputable def listOf : D → Option (List PyData)
  | .dat (.list ds) => some ds
  | _ => none
noncomputable def isNil : Expr → Bool
  | .List [] _ => true
  | _ => false
noncomputable def plainVal : Expr → Bool
  | .Subscript .. => true
  | .Call .. => true
  | _ => false
noncomputable def appendD (σ : St) : Option D → D → Option St
  | some .fr, .dat d => match σ with
    | some fs => if fs.length ≤ 4096 then some (some (fs ++ [d])) else none
    | none => none
  | _, _ => none
noncomputable def popD (σ : St) : Option D → D → Option St
  | some .fr, .dat (.int k) => match σ with
    | some fs => if 0 ≤ k ∧ k < 4096 ∧ k + 1 = fs.length then some (some fs.dropLast) else none
    | none => none
  | _, _ => none

noncomputable def newFr : St → Option St
  | none => some (some [])
  | some _ => none

abbrev Res := Option (Fl × Loc × St)

noncomputable def whileD (test : Loc → St → Option (Bool × St)) (body : Loc → St → Res) : Nat → Loc → St → Res
  | 0, _, _ => none
  | n + 1, ρ, σ => (test ρ σ).bind fun c => if c.1 then
      (body ρ c.2).bind fun r => match r.1 with
        | .next => whileD test body n r.2.1 r.2.2
        | .ret d => some (.ret d, r.2.1, r.2.2)
    else some (.next, ρ, c.2)

noncomputable def forD (bind : List PyData → Loc → Option Loc) (body : Loc → St → Res) : List PyData → Loc → St → Res
  | [], ρ, σ => some (.next, ρ, σ)
  | .tuple ds :: r, ρ, σ => (bind ds ρ).bind fun ρ₁ => (body ρ₁ σ).bind fun x => match x.1 with
      | .next => forD bind body r x.2.1 x.2.2
      | .ret d => some (.ret d, x.2.1, x.2.2)
  | _ :: _, _, _ => none

noncomputable def frNil (x : Str) (e : Expr) : Bool := decide (x = Str.ofString "frames") && isNil e
noncomputable def isAppend (m : Str) (ap pos : Pos) : Bool := decide (m = Str.ofString "append") && (ap.endLine == pos.line)

mutual
noncomputable def exS (cx : Cx) : Stmt → Loc → St → Res
  | .Return v _, ρ, σ => (match v with
    | some e => (match evE cx ρ e σ with
      | some (d, σ₁) => (match retD d with
        | some f => some (f, ρ, σ₁)
        | none => none)
      | none => none)
    | none => none)
  | .Assign ts e _, ρ, σ => (match ts with
    | [t] => (match t with
      | .Name x _ => (match cx.isLocal x with
        | true => (match frNil x e with
          | true => (match newFr σ with
            | some σ₁ => some (.next, setL ρ x .fr, σ₁)
            | none => none)
          | false => (match evE cx ρ e σ with
            | some (d, σ₁) => some (.next, setL ρ x d, σ₁)
            | none => none))
        | false => none)
      | .Tuple ts _ _ => (match plainVal e with
        | true => (match evE cx ρ e σ with
          | some (d, σ₁) => (match tupOf d with
            | some ds => (match bindTup cx ts ds ρ with
              | some ρ₁ => some (.next, ρ₁, σ₁)
              | none => none)
            | none => none)
          | none => none)
        | false => none)
      | _ => none)
    | _ => none)
  | .If t b o _, ρ, σ => (match evT cx ρ t σ with
    | some (true, σ₁) => exSs cx b ρ σ₁
    | some (false, σ₁) => exSs cx o ρ σ₁
    | none => none)
  | .While t b o _, ρ, σ => (match o with
    | [] => whileD (evT cx · t) (exSs cx b) cx.N ρ σ
    | _ :: _ => none)
  | .For t it b o _, ρ, σ => (match o with
    | [] => (match t with
      | .Tuple ts _ _ => (match evE cx ρ it σ with
        | some (d, σ₁) => (match listOf d with
          | some ds => forD (bindTup cx ts) (exSs cx b) ds ρ σ₁
          | none => none)
        | none => none)
      | _ => none)
    | _ :: _ => none)
  | .Expr v _, ρ, σ => (match v with
    | .Call f as ks pos => (match ks with
      | [] => (match as with
        | [a] => (match f with
          | .Attribute w m ap => (match w with
            | .Name x _ => (match isAppend m ap pos with
              | true => (match evE cx ρ a σ with
                | some (d, σ₁) => (match appendD σ₁ (ρ x) d with
                  | some σ₂ => some (.next, ρ, σ₂)
                  | none => none)
                | none => none)
              | false => none)
            | _ => none)
          | _ => none)
        | _ => none)
      | _ :: _ => none)
    | _ => none)
  | .Delete ts _, ρ, σ => (match ts with
    | [t] => (match t with
      | .Subscript w i _ => (match w with
        | .Name x _ => (match evE cx ρ i σ with
          | some (d, σ₁) => (match popD σ₁ (ρ x) d with
            | some σ₂ => some (.next, ρ, σ₂)
            | none => none)
          | none => none)
        | _ => none)
      | _ => none)
    | _ => none)
  | _, _, _ => none
noncomputable def exSs (cx : Cx) : List Stmt → Loc → St → Res
  | [], ρ, σ => some (.next, ρ, σ)
  | s :: r, ρ, σ => (match exS cx s ρ σ with
    | some (.next, ρ₁, σ₁) => exSs cx r ρ₁ σ₁
    | some (.ret d, ρ₁, σ₁) => some (.ret d, ρ₁, σ₁)
    | none => none)
end

/-! The text's own defs. -/

structure Fn where
  params : List Str
  sc : Scope
  body : List Stmt

noncomputable def fnOfStmt : Stmt → Option (Str × Fn)
  | .FunctionDef n a b _ _ _ sc _ _ _ => some (n, ⟨a.args.map (·.arg), sc, b⟩)
  | _ => none

noncomputable def theFn (body : List Stmt) (f : Str) : Option Fn := (body.filterMap fnOfStmt).lookup f

noncomputable def bindP : List Str → List D → Option Loc
  | [], [] => some fun _ => none
  | x :: xs, d :: ds => (bindP xs ds).map fun ρ => setL ρ x d
  | _, _ => none

noncomputable def hasFr : List D → Bool
  | [] => false
  | .fr :: _ => true
  | _ :: r => hasFr r
noncomputable def noTy : List D → Bool
  | [] => true
  | .dat _ :: r => noTy r
  | .fr :: r => noTy r
  | _ :: _ => false

noncomputable def resD : Fl → PyData
  | .next => .none
  | .ret d => d

noncomputable def runFn (N : Nat) (call : Str → List D → St → Option (PyData × St)) (fn : Fn) (ds : List D) (σ : St) : Option (PyData × St) :=
  if noTy ds then
    (bindP fn.params ds).bind fun ρ =>
    if hasFr ds then (exSs ⟨fn.sc, call, N⟩ fn.body ρ σ).map fun r => (resD r.1, r.2.2)
    else match σ with
      | none => (exSs ⟨fn.sc, call, N⟩ fn.body ρ none).map fun r => (resD r.1, none)
      | some _ => none
  else none

noncomputable def callD (T : List Stmt) (N : Nat) : Nat → Str → List D → St → Option (PyData × St)
  | 0, _, _, _ => none
  | n + 1, f, ds, σ => (theFn T f).bind fun fn => runFn N (callD T N n) fn ds σ

end Zp
end

section
namespace Zp
open PySem
section
variable {cx : Cx} {ρ : Loc} {σ : St}
theorem oConst {c : Const} {k : Nat} {p : Pos} : evE cx ρ (.Constant c k p) σ = (constD c).map fun d => (.dat d, σ) := by
  show (match constD c with | some d => some (D.dat d, σ) | none => none) = _
  cases constD c <;> rfl
theorem oTuple {es : List Expr} {k : Nat} {p : Pos} : evE cx ρ (.Tuple es k p) σ = (evEs cx ρ es σ).bind fun r => if es.length ≤ 4096 then (allDat r.1).map fun ds => (.dat (.tuple ds), r.2) else none := by
  show (match evEs cx ρ es σ with
    | some (ds, σ₁) => (match small es with
      | true => (match allDat ds with
        | some xs => some (D.dat (.tuple xs), σ₁)
        | none => none)
      | false => none)
    | none => none) = _
  rcases evEs cx ρ es σ with _ | ⟨ds, σ₁⟩
  · rfl
  · simp only [Option.bind_some]
    by_cases h : es.length ≤ 4096
    · have : small es = true := Nat.ble_eq.mpr h
      rw [this, if_pos h]
      cases allDat ds <;> rfl
    · have : small es = false := Bool.eq_false_iff.mpr fun e => h (Nat.ble_eq.mp e)
      rw [this, if_neg h]
theorem oList {es : List Expr} {p : Pos} : evE cx ρ (.List es p) σ = (evEs cx ρ es σ).bind fun r => if es.length ≤ 4096 then (allDat r.1).map fun ds => (.dat (.list ds), r.2) else none := by
  show (match evEs cx ρ es σ with
    | some (ds, σ₁) => (match small es with
      | true => (match allDat ds with
        | some xs => some (D.dat (.list xs), σ₁)
        | none => none)
      | false => none)
    | none => none) = _
  rcases evEs cx ρ es σ with _ | ⟨ds, σ₁⟩
  · rfl
  · simp only [Option.bind_some]
    by_cases h : es.length ≤ 4096
    · have : small es = true := Nat.ble_eq.mpr h
      rw [this, if_pos h]
      cases allDat ds <;> rfl
    · have : small es = false := Bool.eq_false_iff.mpr fun e => h (Nat.ble_eq.mp e)
      rw [this, if_neg h]

/-- the common shape: two steps and an operation -/
theorem two_bindD {x : Option (D × St)} {y : St → Option (D × St)} {f : St → D → D → Option PyData} :
    (match x with
      | some (a, σ₁) => (match y σ₁ with
        | some (b, σ₂) => (match f σ₂ a b with
          | some d => some (D.dat d, σ₂)
          | none => none)
        | none => none)
      | none => none) = x.bind fun a => (y a.2).bind fun b => (f b.2 a.1 b.1).map fun d => (.dat d, b.2) := by
  rcases x with _ | ⟨a, σ₁⟩
  · rfl
  · simp only [Option.bind_some]
    rcases y σ₁ with _ | ⟨b, σ₂⟩
    · rfl
    · simp only [Option.bind_some]
      cases f σ₂ a b <;> rfl
theorem test_bind {α : Type} {x : Option (Bool × St)} {f g : St → Option α} :
    (match x with
      | some (true, σ₁) => f σ₁
      | some (false, σ₁) => g σ₁
      | none => none) = x.bind fun c => if c.1 then f c.2 else g c.2 := by
  rcases x with _ | ⟨c, σ₁⟩
  · rfl
  · cases c <;> rfl

theorem oBin {l r : Expr} {op : Operator} {p : Pos} : evE cx ρ (.BinOp l op r p) σ = (evE cx ρ l σ).bind fun a => (evE cx ρ r a.2).bind fun b => (binDD op a.1 b.1).map fun d => (.dat d, b.2) := two_bindD (x := evE cx ρ l σ) (y := fun σ => evE cx ρ r σ) (f := fun _ a b => binDD op a b)
theorem oSub {v i : Expr} {p : Pos} : evE cx ρ (.Subscript v i p) σ = (evE cx ρ v σ).bind fun a => (evE cx ρ i a.2).bind fun b => (subD b.2 a.1 b.1).map fun d => (.dat d, b.2) := two_bindD (x := evE cx ρ v σ) (y := fun σ => evE cx ρ i σ) (f := subD)
theorem oNeg {x : Expr} {p : Pos} : evE cx ρ (.UnaryOp .USub x p) σ = (evE cx ρ x σ).bind fun a => (negD a.1).map fun d => (d, a.2) := by
  show (match evE cx ρ x σ with
    | some (a, σ₁) => (match negD a with | some d => some (d, σ₁) | none => none)
    | none => none) = _
  rcases evE cx ρ x σ with _ | ⟨a, σ₁⟩
  · rfl
  · simp only [Option.bind_some]
    cases negD a <;> rfl
theorem oSl1 {u : Expr} {p : Pos} : evE cx ρ (.Slice none (some u) none p) σ = (evE cx ρ u σ).bind fun k => (slOf k.1).map fun e => (e, k.2) := by
  show (match evE cx ρ u σ with
    | some (k, σ₁) => (match slOf k with | some e => some (e, σ₁) | none => none)
    | none => none) = _
  rcases evE cx ρ u σ with _ | ⟨a, σ₁⟩
  · rfl
  · simp only [Option.bind_some]
    cases slOf a <;> rfl
theorem oIfExp {t x y : Expr} {p : Pos} : evE cx ρ (.IfExp t x y p) σ = (evT cx ρ t σ).bind fun c => if c.1 then evE cx ρ x c.2 else evE cx ρ y c.2 := test_bind (x := evT cx ρ t σ) (f := fun σ => evE cx ρ x σ) (g := fun σ => evE cx ρ y σ)
theorem oCall {f : Str} {p q : Pos} {a : Expr} {as : List Expr} : evE cx ρ (.Call (.Name f p) (a :: as) [] q) σ = (evEs cx ρ (a :: as) σ).bind fun r => cx.callAny f r.1 r.2 := by
  show (match evEs cx ρ (a :: as) σ with | some (ds, σ₁) => cx.callAny f ds σ₁ | none => none) = _
  rcases evEs cx ρ (a :: as) σ with _ | ⟨ds, σ₁⟩ <;> rfl
theorem oEs0 : evEs cx ρ [] σ = some ([], σ) := rfl
theorem oEs1 {e : Expr} {r : List Expr} : evEs cx ρ (e :: r) σ = (evE cx ρ e σ).bind fun a => (evEs cx ρ r a.2).map fun b => (a.1 :: b.1, b.2) := by
  show (match evE cx ρ e σ with
    | some (a, σ₁) => (match evEs cx ρ r σ₁ with
      | some (bs, σ₂) => some (a :: bs, σ₂)
      | none => none)
    | none => none) = _
  rcases evE cx ρ e σ with _ | ⟨a, σ₁⟩
  · rfl
  · simp only [Option.bind_some]
    rcases evEs cx ρ r σ₁ with _ | ⟨b, σ₂⟩ <;> rfl
theorem oCmp {l r : Expr} {op : CmpOp} {p : Pos} : evT cx ρ (.Compare l [op] [r] p) σ = (evE cx ρ l σ).bind fun a => (evE cx ρ r a.2).bind fun b => (cmpD b.2 op a.1 b.1).map fun c => (c, b.2) := by
  show (match evE cx ρ l σ with
    | some (a, σ₁) => (match evE cx ρ r σ₁ with
      | some (b, σ₂) => (match cmpD σ₂ op a b with | some c => some (c, σ₂) | none => none)
      | none => none)
    | none => none) = _
  rcases evE cx ρ l σ with _ | ⟨a, σ₁⟩
  · rfl
  · simp only [Option.bind_some]
    rcases evE cx ρ r σ₁ with _ | ⟨b, σ₂⟩
    · rfl
    · simp only [Option.bind_some]
      cases cmpD σ₂ op a b <;> rfl
theorem oNot {x : Expr} {p : Pos} : evT cx ρ (.UnaryOp .Not x p) σ = (evT cx ρ x σ).map fun c => (!c.1, c.2) := by
  show (match evT cx ρ x σ with | some (c, σ₁) => some (!c, σ₁) | none => none) = _
  rcases evT cx ρ x σ with _ | ⟨a, σ₁⟩ <;> rfl
theorem oBoolOp {op : BoolOp} {vs : List Expr} {p : Pos} : evT cx ρ (.BoolOp op vs p) σ = evB cx ρ op vs σ := rfl
theorem oAnd0 : evB cx ρ .And [] σ = some (true, σ) := rfl
theorem oOr0 : evB cx ρ .Or [] σ = some (false, σ) := rfl
theorem oAnd1 {x : Expr} {r : List Expr} : evB cx ρ .And (x :: r) σ = (evT cx ρ x σ).bind fun c => if c.1 then evB cx ρ .And r c.2 else some (false, c.2) := test_bind (x := evT cx ρ x σ) (f := fun σ => evB cx ρ .And r σ) (g := fun σ => some (false, σ))
theorem oOr1 {x : Expr} {r : List Expr} : evB cx ρ .Or (x :: r) σ = (evT cx ρ x σ).bind fun c => if c.1 then some (true, c.2) else evB cx ρ .Or r c.2 := test_bind (x := evT cx ρ x σ) (f := fun σ => some (true, σ)) (g := fun σ => evB cx ρ .Or r σ)

theorem oRet {e : Expr} {p : Pos} : exS cx (.Return (some e) p) ρ σ = (evE cx ρ e σ).bind fun r => (retD r.1).map fun f => (f, ρ, r.2) := by
  show (match evE cx ρ e σ with
      | some (d, σ₁) => (match retD d with
        | some f => some (f, ρ, σ₁)
        | none => none)
      | none => none) = _
  rcases evE cx ρ e σ with _ | ⟨a, σ₁⟩
  · rfl
  · simp only [Option.bind_some]
    cases retD a <;> rfl
theorem oAsg {x : Str} {xp : Pos} {e : Expr} {p : Pos} : exS cx (.Assign [.Name x xp] e p) ρ σ = if cx.isLocal x = true then
      (if frNil x e = true then (newFr σ).map fun σ₁ => (.next, setL ρ x .fr, σ₁)
      else (evE cx ρ e σ).bind fun r => some (.next, setL ρ x r.1, r.2)) else none := by
  show (match cx.isLocal x with
        | true => (match frNil x e with
          | true => (match newFr σ with
            | some σ₁ => some (Fl.next, setL ρ x .fr, σ₁)
            | none => none)
          | false => (match evE cx ρ e σ with
            | some (d, σ₁) => some (Fl.next, setL ρ x d, σ₁)
            | none => none))
        | false => none) = _
  cases cx.isLocal x with
  | false => rfl
  | true =>
    simp only [if_true]
    cases frNil x e with
    | true =>
      simp only [if_true]
      cases newFr σ <;> rfl
    | false =>
      simp only [Bool.false_eq_true, if_false]
      rcases evE cx ρ e σ with _ | ⟨a, σ₁⟩ <;> rfl
theorem oAsgT {ts : List Expr} {k : Nat} {xp : Pos} {e : Expr} {p : Pos} : exS cx (.Assign [.Tuple ts k xp] e p) ρ σ = if plainVal e = true then (evE cx ρ e σ).bind fun r => (tupOf r.1).bind fun ds => (bindTup cx ts ds ρ).map fun ρ₁ => (.next, ρ₁, r.2) else none := by
  show (match plainVal e with
        | true => (match evE cx ρ e σ with
          | some (d, σ₁) => (match tupOf d with
            | some ds => (match bindTup cx ts ds ρ with
              | some ρ₁ => some (Fl.next, ρ₁, σ₁)
              | none => none)
            | none => none)
          | none => none)
        | false => none) = _
  cases plainVal e with
  | false => rfl
  | true =>
    simp only [if_true]
    rcases evE cx ρ e σ with _ | ⟨a, σ₁⟩
    · rfl
    · simp only [Option.bind_some]
      cases tupOf a with
      | none => rfl
      | some ds =>
        simp only [Option.bind_some]
        cases bindTup cx ts ds ρ <;> rfl
theorem oIf {t : Expr} {x y : List Stmt} {p : Pos} : exS cx (.If t x y p) ρ σ = (evT cx ρ t σ).bind fun c => if c.1 then exSs cx x ρ c.2 else exSs cx y ρ c.2 := test_bind (x := evT cx ρ t σ) (f := fun σ => exSs cx x ρ σ) (g := fun σ => exSs cx y ρ σ)
theorem oWhile {t : Expr} {x : List Stmt} {p : Pos} : exS cx (.While t x [] p) ρ σ = whileD (evT cx · t) (exSs cx x) cx.N ρ σ := rfl
theorem oFor {ts : List Expr} {k : Nat} {xp : Pos} {it : Expr} {x : List Stmt} {p : Pos} : exS cx (.For (.Tuple ts k xp) it x [] p) ρ σ = (evE cx ρ it σ).bind fun r => (listOf r.1).bind fun ds => forD (bindTup cx ts) (exSs cx x) ds ρ r.2 := by
  show (match evE cx ρ it σ with
        | some (d, σ₁) => (match listOf d with
          | some ds => forD (bindTup cx ts) (exSs cx x) ds ρ σ₁
          | none => none)
        | none => none) = _
  rcases evE cx ρ it σ with _ | ⟨a, σ₁⟩
  · rfl
  · simp only [Option.bind_some]
    cases listOf a <;> rfl
theorem oApp {x m : Str} {xp ap p pos : Pos} {a : Expr} : exS cx (.Expr (.Call (.Attribute (.Name x xp) m ap) [a] [] pos) p) ρ σ = if isAppend m ap pos = true then (evE cx ρ a σ).bind fun r => (appendD r.2 (ρ x) r.1).map fun σ₁ => (.next, ρ, σ₁) else none := by
  show (match isAppend m ap pos with
              | true => (match evE cx ρ a σ with
                | some (d, σ₁) => (match appendD σ₁ (ρ x) d with
                  | some σ₂ => some (Fl.next, ρ, σ₂)
                  | none => none)
                | none => none)
              | false => none) = _
  cases isAppend m ap pos with
  | false => rfl
  | true =>
    simp only [if_true]
    rcases evE cx ρ a σ with _ | ⟨a, σ₁⟩
    · rfl
    · simp only [Option.bind_some]
      cases appendD σ₁ (ρ x) a <;> rfl
theorem oDel {x : Str} {xp sp p : Pos} {i : Expr} : exS cx (.Delete [.Subscript (.Name x xp) i sp] p) ρ σ = (evE cx ρ i σ).bind fun r => (popD r.2 (ρ x) r.1).map fun σ₁ => (.next, ρ, σ₁) := by
  show (match evE cx ρ i σ with
          | some (d, σ₁) => (match popD σ₁ (ρ x) d with
            | some σ₂ => some (Fl.next, ρ, σ₂)
            | none => none)
          | none => none) = _
  rcases evE cx ρ i σ with _ | ⟨a, σ₁⟩
  · rfl
  · simp only [Option.bind_some]
    cases popD σ₁ (ρ x) a <;> rfl
theorem oSs1 {s : Stmt} {r : List Stmt} : exSs cx (s :: r) ρ σ = (exS cx s ρ σ).bind fun x => match x.1 with
      | .next => exSs cx r x.2.1 x.2.2
      | .ret d => some (.ret d, x.2.1, x.2.2) := by
  show (match exS cx s ρ σ with
    | some (.next, ρ₁, σ₁) => exSs cx r ρ₁ σ₁
    | some (.ret d, ρ₁, σ₁) => some (.ret d, ρ₁, σ₁)
    | none => none) = _
  rcases exS cx s ρ σ with _ | ⟨f, ρ₁, σ₁⟩
  · rfl
  · cases f <;> rfl
end
end Zp
end

section
namespace Zp
open PySem PySem.Calls PyProof.Rows

/-! The data in the heap. F: the one mutable list (frames), if there is one. -/

mutual
inductive Rep (F : Option Addr) (h : Heap) : Value → PyData → Prop
  | none : Rep F h .none .none
  | bool (b : Bool) : Rep F h (.bool b) (.bool b)
  | int (i : Int) (t : Tok) : Rep F h (.int i t) (.int i)
  | str (x : Str) (t : Tok) : Rep F h (.str x t) (.str x)
  | list {a : Addr} {o : Obj} {vs : Array Value} {n : Nat} {xs : List PyData} : h.get? a = some o → o.cls = .type "list" → o.data = .seq vs n → F ≠ some a → RepL F h vs.toList xs → Rep F h (.ref a) (.list xs)
  | tuple {a : Addr} {o : Obj} {vs : Array Value} {n : Nat} {xs : List PyData} : h.get? a = some o → o.cls = .type "tuple" → o.data = .seq vs n → F ≠ some a → RepL F h vs.toList xs → Rep F h (.ref a) (.tuple xs)
inductive RepL (F : Option Addr) (h : Heap) : List Value → List PyData → Prop
  | nil : RepL F h [] []
  | cons {v : Value} {vs : List Value} {d : PyData} {ds : List PyData} : Rep F h v d → RepL F h vs ds → RepL F h (v :: vs) (d :: ds)
end

section
variable {F F' : Option Addr} {h h' : Heap}
mutual
theorem Rep.mono (k : ∀ b o, h.get? b = some o → (∃ vs n, o.data = .seq vs n) → F ≠ some b → h'.get? b = some o ∧ F' ≠ some b) : ∀ {v : Value} {d : PyData}, Rep F h v d → Rep F' h' v d
  | _, _, .none => .none
  | _, _, .bool b => .bool b
  | _, _, .int i t => .int i t
  | _, _, .str x t => .str x t
  | _, _, .list ho hc hd hf r => .list (k _ _ ho ⟨_, _, hd⟩ hf).1 hc hd (k _ _ ho ⟨_, _, hd⟩ hf).2 (RepL.mono k r)
  | _, _, .tuple ho hc hd hf r => .tuple (k _ _ ho ⟨_, _, hd⟩ hf).1 hc hd (k _ _ ho ⟨_, _, hd⟩ hf).2 (RepL.mono k r)
theorem RepL.mono (k : ∀ b o, h.get? b = some o → (∃ vs n, o.data = .seq vs n) → F ≠ some b → h'.get? b = some o ∧ F' ≠ some b) : ∀ {vs : List Value} {ds : List PyData}, RepL F h vs ds → RepL F' h' vs ds
  | _, _, .nil => .nil
  | _, _, .cons r rs => .cons (Rep.mono k r) (RepL.mono k rs)
end
mutual
theorem Rep.reads : ∀ {v : Value} {d : PyData}, Rep F h v d → ∃ as, Reads h v d as
  | _, _, .none => ⟨_, .none⟩
  | _, _, .bool b => ⟨_, .bool b⟩
  | _, _, .int i t => ⟨_, .int i t⟩
  | _, _, .str x t => ⟨_, .str x t⟩
  | _, _, .list ho hc hd _ r => let ⟨_, q⟩ := RepL.reads r; ⟨_, .list ho hc hd q⟩
  | _, _, .tuple ho hc hd _ r => let ⟨_, q⟩ := RepL.reads r; ⟨_, .tuple ho hc hd q⟩
theorem RepL.reads : ∀ {vs : List Value} {ds : List PyData}, RepL F h vs ds → ∃ as, ReadsAll h vs ds as
  | _, _, .nil => ⟨_, .nil⟩
  | _, _, .cons r rs => let ⟨_, q⟩ := Rep.reads r; let ⟨_, p⟩ := RepL.reads rs; ⟨_, .cons q p⟩
end
theorem RepL.length : ∀ {vs : List Value} {ds : List PyData}, RepL F h vs ds → vs.length = ds.length
  | _, _, .nil => rfl
  | _, _, .cons _ rs => by rw [List.length_cons, List.length_cons, RepL.length rs]
theorem RepL.get : ∀ {vs : List Value} {ds : List PyData}, RepL F h vs ds → ∀ {i : Nat} {d : PyData}, ds[i]? = some d → ∃ v, vs[i]? = some v ∧ Rep F h v d
  | _, _, .nil, _, _, e => by simp at e
  | _, _, .cons r rs, 0, _, e => by cases e; exact ⟨_, rfl, r⟩
  | _, _, .cons r rs, i + 1, _, e => by
    obtain ⟨v, a, b⟩ := rs.get (by simpa using e)
    exact ⟨v, by simpa using a, b⟩
theorem RepL.append : ∀ {vs ws : List Value} {ds es : List PyData}, RepL F h vs ds → RepL F h ws es → RepL F h (vs ++ ws) (ds ++ es)
  | _, _, _, _, .nil, q => q
  | _, _, _, _, .cons r rs, q => .cons r (rs.append q)
theorem RepL.take : ∀ {vs : List Value} {ds : List PyData}, RepL F h vs ds → ∀ n : Nat, RepL F h (vs.take n) (ds.take n)
  | _, _, .nil, _ => by simp; exact .nil
  | _, _, .cons r rs, 0 => by simp; exact .nil
  | _, _, .cons r rs, n + 1 => by simp only [List.take_succ_cons]; exact .cons r (rs.take n)
end

/-- all stays, but F's object -/
noncomputable def Ex (F : Option Addr) (h h' : Heap) : Prop := ∀ b o, h.get? b = some o → F ≠ some b → h'.get? b = some o
theorem Ex.refl {F h} : Ex F h h := fun _ _ e _ => e
theorem Ex.trans {F h h' h''} (a : Ex F h h') (b : Ex F h' h'') : Ex F h h'' := fun x o e n => b x o (a x o e n) n
theorem Ex.push {F h o} : Ex F h (h.push o) := fun _ _ e _ => Heap.get?_push_of_some _ e
theorem Ex.of_keeps {F h h'} (k : ∀ b o, h.get? b = some o → h'.get? b = some o) : Ex F h h' := fun b o e _ => k b o e

theorem Rep.ex {F h h' v d} (r : Rep F h v d) (e : Ex F h h') : Rep F h' v d := r.mono fun b o q _ n => ⟨e b o q n, n⟩
theorem RepL.ex {F h h' vs ds} (r : RepL F h vs ds) (e : Ex F h h') : RepL F h' vs ds := r.mono fun b o q _ n => ⟨e b o q n, n⟩

noncomputable def RepD (F : Option Addr) (h : Heap) (v : Value) : D → Prop
  | .dat d => Rep F h v d
  | .fr => ∃ a, F = some a ∧ v = .ref a
  | .ty s => v = .type s
  | .sl k => ∃ a u, v = .ref a ∧ F ≠ some a ∧ h.IsSliceOf a .none u .none ∧ IsPart u k
theorem RepD.ex {F h h' v} {d : D} (r : RepD F h v d) (e : Ex F h h') : RepD F h' v d := by
  cases d with
  | dat d => exact Rep.ex r e
  | fr => exact r
  | ty s => exact r
  | sl k =>
    obtain ⟨a, u, rfl, n, ⟨o, ho, hc⟩, p⟩ := r
    exact ⟨a, u, rfl, n, ⟨o, e _ _ ho n, hc⟩, p⟩

inductive RepDL (F : Option Addr) (h : Heap) : List Value → List D → Prop
  | nil : RepDL F h [] []
  | cons {v : Value} {vs : List Value} {d : D} {ds : List D} : RepD F h v d → RepDL F h vs ds → RepDL F h (v :: vs) (d :: ds)
theorem RepDL.ex {F h h'} (e : Ex F h h') : ∀ {vs : List Value} {ds : List D}, RepDL F h vs ds → RepDL F h' vs ds
  | _, _, .nil => .nil
  | _, _, .cons r rs => .cons (r.ex e) (rs.ex e)
theorem RepDL.dats {F h} : ∀ {vs : List Value} {ds : List D} {xs : List PyData}, RepDL F h vs ds → allDat ds = some xs → RepL F h vs xs
  | _, _, _, .nil, e => by cases e; exact .nil
  | _, _, _, .cons (d := .dat d) r rs, e => by
    simp only [allDat, Option.map_eq_some_iff] at e
    obtain ⟨ys, e1, rfl⟩ := e
    exact .cons r (rs.dats e1)
  | _, _, _, .cons (d := .fr) _ _, e => by simp [allDat] at e
  | _, _, _, .cons (d := .ty _) _ _, e => by simp [allDat] at e
  | _, _, _, .cons (d := .sl _) _ _, e => by simp [allDat] at e
theorem RepDL.length {F h} : ∀ {vs : List Value} {ds : List D}, RepDL F h vs ds → vs.length = ds.length
  | _, _, .nil => rfl
  | _, _, .cons _ rs => by rw [List.length_cons, List.length_cons, rs.length]

noncomputable def FrOk (F : Option Addr) (σ : St) (h : Heap) : Prop :=
  match σ with
  | none => F = none
  | some ds => ∃ a vs, F = some a ∧ h.PlainList a vs ∧ RepL F h vs.toList ds
theorem FrOk.keeps {F σ h h'} (f : FrOk F σ h) (k : ∀ b o, h.get? b = some o → h'.get? b = some o) : FrOk F σ h' := by
  cases σ with
  | none => exact f
  | some ds =>
    obtain ⟨a, vs, e, p, r⟩ := f
    exact ⟨a, vs, e, p.at (k a), r.ex (Ex.of_keeps k)⟩
theorem FrOk.fresh {F σ h} (f : FrOk F σ h) : F ≠ some h.objs.size := by
  cases σ with
  | none => rw [show F = none from f]; exact fun e => nomatch e
  | some ds =>
    obtain ⟨a, vs, rfl, ⟨n, ho⟩, r⟩ := f
    intro e
    cases e
    exact absurd (Heap.lt_size ho) (Nat.lt_irrefl _)

structure EnvOk (env : Env) (sc : Scope) (L : Addr) : Prop where
  scp : env.scope = sc
  kind : sc.kind = .function
  loc : env.locals = L
  glob : env.globals = mainGlobals
  bui : env.builtins = builtinsNs

structure Glo (h₀ : Heap) (mg mb : Str → Option Value) : Prop where
  g : h₀.Ns mainGlobals mg
  b : h₀.Ns builtinsNs mb
  lim : h₀.NoLimit
  len : mg (Str.ofString "len") = none ∧ mb (Str.ofString "len") = some (.builtin "len")
  type : mg (Str.ofString "type") = none ∧ mb (Str.ofString "type") = some (.type "type")
  int : mg (Str.ofString "int") = none ∧ mb (Str.ofString "int") = some (.type "int")

/-- the frame at hand -/
structure Fx (sc : Scope) (h₀ : Heap) (L : Addr) (F : Option Addr) (m : Str → Option Value) (ρ : Loc) (σ : St) (h : Heap) : Prop where
  base : ∀ b o, h₀.get? b = some o → h.get? b = some o
  f0 : ∀ a, F = some a → h₀.get? a = none
  l0 : h₀.get? L = none
  ns : h.Ns L m
  lF : F ≠ some L
  loc : ∀ x d, ρ x = some d → ∃ v, m x = some v ∧ RepD F h v d
  fr : FrOk F σ h
  dom : ∀ x d, ρ x = some d → sc.names.lookup x = some .local ∧ x ≠ Str.ofString "__debug__"
theorem Fx.ex {sc h₀ L F m ρ σ h h' σ'} (x : Fx sc h₀ L F m ρ σ h) (e : Ex F h h') (f : FrOk F σ' h') : Fx sc h₀ L F m ρ σ' h' where
  base b o q := e b o (x.base b o q) (fun z => by rw [x.f0 b z] at q; cases q)
  f0 := x.f0
  l0 := x.l0
  ns := by
    obtain ⟨o, es, ep, ho, r⟩ := x.ns
    exact ⟨o, es, ep, e _ _ ho x.lF, r⟩
  lF := x.lF
  loc y d q := let ⟨v, a, b⟩ := x.loc y d q; ⟨v, a, b.ex e⟩
  fr := f
  dom := x.dom

section
variable {prog : Program} {w : World} {A : Around} {h₀ : Heap} {mg mb : Str → Option Value}

/-- the oracle's word on calls -/
noncomputable def CallOk (prog : Program) (w : World) (A : Around) (h₀ : Heap) (mg : Str → Option Value) (call : Str → List D → St → Option (PyData × St)) : Prop :=
  ∀ f ds σ d σ', call f ds σ = some (d, σ') → ∃ fa o fd, mg f = some (.ref fa) ∧ h₀.get? fa = some o ∧ o.data = .func fd ∧
    ∀ (F : Option Addr) (vs : List Value) (s : Shared) (Q E : Value → Shared → Prop), (∀ b o, h₀.get? b = some o → s.heap.get? b = some o) → (∀ a, F = some a → h₀.get? a = none) →
      RepDL F s.heap vs ds → FrOk F σ s.heap →
      (∀ v h' tk', Ex F s.heap h' → Rep F h' v d → FrOk F σ' h' → Q v { s with heap := h', toks := tk' }) → wpAny (model prog w) A (PySem.call (.ref fa) vs) Q E s

noncomputable def OkE (prog : Program) (w : World) (A : Around) (sc : Scope) (h₀ : Heap) (L : Addr) (F : Option Addr) (m : Str → Option Value) (ρ : Loc) (t : Sem Value) (r : Option (D × St)) (σ : St) : Prop :=
  ∀ d σ', r = some (d, σ') → ∀ (s : Shared) (Q E : Value → Shared → Prop), Fx sc h₀ L F m ρ σ s.heap →
    (∀ v h' tk', Ex F s.heap h' → RepD F h' v d → FrOk F σ' h' → Q v { s with heap := h', toks := tk' }) → wpAny (model prog w) A t Q E s
noncomputable def OkEs (prog : Program) (w : World) (A : Around) (sc : Scope) (h₀ : Heap) (L : Addr) (F : Option Addr) (m : Str → Option Value) (ρ : Loc) (t : Sem (List Value)) (r : Option (List D × St)) (σ : St) : Prop :=
  ∀ d σ', r = some (d, σ') → ∀ (s : Shared) (Q : List Value → Shared → Prop) (E : Value → Shared → Prop), Fx sc h₀ L F m ρ σ s.heap →
    (∀ v h' tk', Ex F s.heap h' → RepDL F h' v d → FrOk F σ' h' → Q v { s with heap := h', toks := tk' }) → wpAny (model prog w) A t Q E s
noncomputable def OkT (prog : Program) (w : World) (A : Around) (sc : Scope) (h₀ : Heap) (L : Addr) (F : Option Addr) (m : Str → Option Value) (ρ : Loc) (t : Sem Bool) (r : Option (Bool × St)) (σ : St) : Prop :=
  ∀ c σ', r = some (c, σ') → ∀ (s : Shared) (Q : Bool → Shared → Prop) (E : Value → Shared → Prop), Fx sc h₀ L F m ρ σ s.heap →
    (∀ h' tk', Ex F s.heap h' → FrOk F σ' h' → Q c { s with heap := h', toks := tk' }) → wpAny (model prog w) A t Q E s
end

end Zp
end

section
namespace Zp
open PySem PySem.Calls PyProof.Rows

abbrev Keeps (h h' : Heap) : Prop := ∀ b o, h.get? b = some o → h'.get? b = some o

theorem line4096 {n : Nat} (h : n ≤ 4096) : n ≤ sizeLine := Nat.le_trans h (by decide)

section
variable {prog : Program} {w : World} {A : Around} {E : Value → Shared → Prop} {s : Shared} {F : Option Addr}

theorem add_listsH {l b : Addr} {its its2 : Array Value} {Q : Value → Shared → Prop} (hl : s.heap.IsList l its) (hb : s.heap.IsList b its2)
    (h : Q (.ref s.heap.objs.size) { s with heap := s.heap.push { cls := .type "list", data := .seq (its ++ its2) } })
    (hsz : its.size + its2.size ≤ sizeLine) : wpAny (model prog w) A (binaryOp .Add (.ref l) (.ref b)) Q E s := by
  obtain ⟨⟨cls, dd, data, sl⟩, ho, hc, n, hd⟩ := id hl
  obtain ⟨⟨cls2, dd2, data2, sl2⟩, ho2, hc2, n2, hd2⟩ := id hb
  simp only at hc hd hc2 hd2
  subst hc hd hc2 hd2
  exact concat_meets ⟨_, ho, rfl⟩ ⟨_, ho2, rfl⟩ noFill_list_add seq_list_add PySem.F.slot_list_add PySem.F.entry_list_add (PySem.F.args_list_add_2 _ _) (list_addW l b its its2 n n2 dd dd2 sl sl2 hsz) ⟨ho, ho2, h⟩

theorem rep_newList {h : Heap} {vs : Array Value} {xs : List PyData} (hf : F ≠ some h.objs.size) (r : RepL F h vs.toList xs) : Rep F (h.push { cls := .type "list", data := .seq vs }) (.ref h.objs.size) (.list xs) :=
  .list (Heap.get?_push_size _ rfl) rfl rfl hf (r.ex Ex.push)
theorem rep_newTuple {h : Heap} {vs : Array Value} {xs : List PyData} (hf : F ≠ some h.objs.size) (r : RepL F h vs.toList xs) : Rep F (h.push { cls := .type "tuple", data := .seq vs }) (.ref h.objs.size) (.tuple xs) :=
  .tuple (Heap.get?_push_size _ rfl) rfl rfl hf (r.ex Ex.push)

theorem bin_sound {op : Operator} {a b d : PyData} {va vb : Value} {Q : Value → Shared → Prop} (e : binD op a b = some d) (ra : Rep F s.heap va a) (rb : Rep F s.heap vb b) (hf : F ≠ some s.heap.objs.size)
    (h : ∀ v h' tk', Keeps s.heap h' → Rep F h' v d → Q v { s with heap := h', toks := tk' }) : wpAny (model prog w) A (binaryOp op va vb) Q E s := by
  unfold binD at e
  split at e
  · split at e
    · cases e
      cases ra; cases rb
      exact PyProof.Rows.add_int (h _ _ _ (fun _ _ q => q) (.int _ _))
    · split at e
      · rename_i hle
        cases e
        cases ra with | list ho hc hd hn r => ?_
        cases rb with | list ho2 hc2 hd2 hn2 r2 => ?_
        have l1 := r.length
        have l2 := r2.length
        refine add_listsH ⟨_, ho, hc, _, hd⟩ ⟨_, ho2, hc2, _, hd2⟩ (h _ _ _ (fun _ _ q => Heap.get?_push_of_some _ q) (rep_newList hf ?_)) (line4096 ?_)
        · rw [Array.toList_append]; exact r.append r2
        · simpa [← l1, ← l2] using hle
      · cases e
    · cases e
  · split at e
    · cases e
      cases ra; cases rb
      exact PyProof.Rows.sub_int (h _ _ _ (fun _ _ q => q) (.int _ _))
    · cases e
  · split at e
    · split at e
      · cases e
      · rename_i hj
        cases e
        cases ra; cases rb
        exact PyProof.Rows.mod_int hj (h _ _ _ (fun _ _ q => q) (.int _ _))
    · cases e
  · split at e
    · split at e
      · rename_i hj
        cases e
        cases ra; cases rb
        exact PyProof.Rows.floordiv_int (by omega) (h _ _ _ (fun _ _ q => q) (.int _ _)) (.inl (PyProof.noPylong_small (by omega)))
      · cases e
    · cases e
  · cases e

theorem cmp_sound {op : CmpOp} {σ : St} {a b : D} {c : Bool} {va vb : Value} {Q : Value → Shared → Prop} (e : cmpD σ op a b = some c) (ra : RepD F s.heap va a) (rb : RepD F s.heap vb b) (fr : FrOk F σ s.heap) (hu : A.units + 64 < cLine)
    (h : Q (.bool c) s) : wpAny (model prog w) A (compareOp op va vb) Q E s := by
  unfold cmpD at e
  split at e
  · split at e
    · cases e
      cases ra; cases rb
      exact PyProof.Rows.eq_str h
    · split at e
      · rename_i hs
        cases e
        obtain ⟨as, ra⟩ := Rep.reads ra
        obtain ⟨bs, rb⟩ := Rep.reads rb
        obtain ⟨h1, h2⟩ := Bool.and_eq_true_iff.mp hs
        exact SeqAt.compareEq_shaped ra rb h1 h2 hu h
      · cases e
    · split at e
      · split at e
        · rename_i fs hl
          cases e
          obtain ⟨a, vs, rfl, pl, r⟩ := fr
          obtain ⟨o, ho, hc, n, hd⟩ := pl.isList
          obtain ⟨a', ea, rfl⟩ := ra
          cases ea
          obtain ⟨as, ra⟩ := RepL.reads r
          obtain ⟨bs, rb⟩ := Rep.reads rb
          refine SeqAt.compareEq_reads (.list ho hc hd ra) rb (by simpa [PyData.canLay0] using hl) (by simp [PyData.canLay0, PyData.canLayAll0]) ?_ ?_
          · have : (PyData.list []).depth ≤ 2 := by simp [PyData.depth, PyData.depthAll]
            have := Nat.min_le_right (PyData.list fs).depth (PyData.list []).depth
            omega
          · cases fs <;> simpa [PyData.eqv, PyData.eqvAll] using h
        · cases e
      · cases e
    · cases e
  · split at e
    · cases e
      cases ra; cases rb
      exact PyProof.Rows.ne_str h
    · split at e
      · rename_i hs
        cases e
        obtain ⟨as, ra⟩ := Rep.reads ra
        obtain ⟨bs, rb⟩ := Rep.reads rb
        obtain ⟨h1, h2⟩ := Bool.and_eq_true_iff.mp hs
        exact SeqAt.compareNe_shaped ra rb h1 h2 hu h
      · cases e
    · cases e
  · split at e
    · cases e
      cases ra; cases rb
      exact PyProof.Rows.lt_int h
    · cases e
  · split at e
    · cases e
      cases ra; cases rb
      exact PyProof.Rows.gt_int h
    · cases e
  · split at e
    · rename_i d
      cases e
      cases rb
      cases ra <;> first | exact wpAny_is_self rfl h | exact wpAny_is_other rfl (fun z => nomatch z) h
    · rename_i x y
      cases e
      cases ra; cases rb
      refine wpAny_is_plain rfl ?_
      have : (Value.type x == Value.type y) = (x == y) := by
        by_cases q : x = y
        · subst q; simp
        · rw [beq_eq_false_iff_ne.mpr q, beq_eq_false_iff_ne.mpr (fun z => q (by cases z; rfl))]
      rw [this]; exact h
    · cases e
  · split at e
    · cases e
      cases rb
      cases ra <;> first | exact wpAny_isNot_self rfl h | exact wpAny_isNot_other rfl (fun z => nomatch z) h
    · cases e
  · cases e

end
end Zp
end

section
namespace Zp
open PySem PySem.Calls PyProof.Rows

section
variable {prog : Program} {w : World} {A : Around} {E : Value → Shared → Prop} {s : Shared} {F : Option Addr}

theorem idx_ok {k : Int} {n : Nat} (h0 : 0 ≤ k) (h : k.toNat < n) : seqIndex? k n = some k.toNat := by
  unfold seqIndex?
  have h1 : ¬ k < 0 := by omega
  have h2 : k < (n : Int) := by omega
  simp only [h1, if_false]
  rw [if_pos (by simp [h0, h2])]

theorem lt_of_get {α : Type} {l : List α} {i : Nat} {x : α} (h : l[i]? = some x) : i < l.length := by
  rcases Nat.lt_or_ge i l.length with q | q
  · exact q
  · rw [List.getElem?_eq_none q] at h; cases h

theorem arr_get {vs : Array Value} {i : Nat} {v : Value} (h : vs.toList[i]? = some v) : vs[i]? = some v := by simpa using h

theorem sub_sound {σ : St} {a b : D} {d : PyData} {va vb : Value} {value slice : Expr} {ops : List Value} {Q : Value → Shared → Prop} (e : subD σ a b = some d) (ra : RepD F s.heap va a) (rb : RepD F s.heap vb b) (fr : FrOk F σ s.heap)
    (hs : subscripted slice false va vb = operate ops (getItem va vb))
    (h : ∀ v h', Keeps s.heap h' → Rep F h' v d → Q v { s with heap := h' }) : wpAny (model prog w) A (subscriptTail value slice va vb) Q E s := by
  unfold subD at e
  split at e
  · rename_i xs k
    split at e
    · rename_i hk
      cases ra with | list ho hc hd hn r => ?_
      cases rb
      obtain ⟨v, hv, rv⟩ := r.get e
      exact tail_any ⟨_, ho, hc⟩ slot_list_getitem.lookup (wpAny_getItem_list ⟨_, ho, hc, _, hd⟩ hk.1 (by omega) (arr_get hv) (h v _ (fun _ _ q => q) rv)) hs
    · cases e
  · rename_i xs k
    split at e
    · rename_i hk
      cases ra with | tuple ho hc hd hn r => ?_
      cases rb
      obtain ⟨v, hv, rv⟩ := r.get e
      have hl := lt_of_get hv
      exact tail_any ⟨_, ho, hc⟩ slot_tuple_getitem.lookup (PyProof.Rows.getItem_tuple ⟨_, ho, hc, _, hd⟩ (by omega) (by omega) (idx_ok hk.1 (by simpa using hl)) (arr_get hv) (h v _ (fun _ _ q => q) rv)) hs
    · cases e
  · rename_i k
    split at e
    · rename_i fs
      split at e
      · rename_i hk
        obtain ⟨a, vs, rfl, pl, r⟩ := fr
        obtain ⟨o, ho, hc, n, hd⟩ := pl.isList
        obtain ⟨a', ea, rfl⟩ := ra
        cases ea
        cases rb
        obtain ⟨v, hv, rv⟩ := r.get e
        exact tail_any ⟨_, ho, hc⟩ slot_list_getitem.lookup (wpAny_getItem_list ⟨_, ho, hc, _, hd⟩ hk.1 (by omega) (arr_get hv) (h v _ (fun _ _ q => q) rv)) hs
      · cases e
    · cases e
  · rename_i xs k
    cases ra with | list ho hc hd hn r => ?_
    obtain ⟨sa, u, rfl, hsn, hsl, pu⟩ := rb
    have hlen := r.length
    rw [Array.length_toList] at hlen
    split at e
    · split at e
      · rename_i hle
        cases e
        refine tail_any ⟨_, ho, hc⟩ slot_list_getitem.lookup (wpAny_getItem_list_slice ⟨_, ho, hc, _, hd⟩ hsl .none pu .none (fun z => nomatch z) (h _ _ (fun _ _ q => Heap.get?_push_of_some _ q) (rep_newList fr.fresh ?_)) (line4096 (by omega))) hs
        rw [slicePick_all]; exact r
      · cases e
    · rename_i k
      split at e
      · rename_i hle
        cases e
        obtain ⟨j, rfl⟩ : ∃ j : Nat, k = j := ⟨k.toNat, by omega⟩
        refine tail_any ⟨_, ho, hc⟩ slot_list_getitem.lookup (wpAny_getItem_list_slice ⟨_, ho, hc, _, hd⟩ hsl .none pu .none (fun z => nomatch z) (h _ _ (fun _ _ q => Heap.get?_push_of_some _ q) (rep_newList fr.fresh ?_)) (line4096 (by omega))) hs
        rw [slicePick_upto']
        simpa using r.take j
      · cases e
  · cases e

theorem len_sound {σ : St} {ds : List D} {d : D} {vs : List Value} {Q : Value → Shared → Prop} (e : lenD σ ds = some d) (r : RepDL F s.heap vs ds) (fr : FrOk F σ s.heap)
    (h : ∀ v tk', RepD F s.heap v d → Q v { s with toks := tk' }) : wpAny (model prog w) A (PySem.call (.builtin "len") vs) Q E s := by
  unfold lenD at e
  split at e
  · split at e
    · rename_i hle
      cases e
      cases r with | cons ra r => ?_
      cases r
      cases ra with | list ho hc hd hn r => ?_
      have hlen := r.length
      rw [Array.length_toList] at hlen
      refine PyProof.Rows.len_list ⟨_, ho, hc, _, hd⟩ (by omega) (h _ _ ?_)
      rw [hlen]; exact .int _ _
    · cases e
  · split at e
    · rename_i fs
      split at e
      · rename_i hle
        cases e
        cases r with | cons ra r => ?_
        cases r
        obtain ⟨a, vs, rfl, pl, r⟩ := fr
        obtain ⟨o, ho, hc, n, hd⟩ := pl.isList
        obtain ⟨a', ea, rfl⟩ := ra
        cases ea
        have hlen := r.length
        rw [Array.length_toList] at hlen
        refine PyProof.Rows.len_list ⟨_, ho, hc, _, hd⟩ (by omega) (h _ _ ?_)
        rw [hlen]; exact .int _ _
      · cases e
    · cases e
  · cases e

theorem type_sound {ds : List D} {d : D} {vs : List Value} {Q : Value → Shared → Prop} (e : typeD ds = some d) (r : RepDL F s.heap vs ds)
    (h : ∀ v, RepD F s.heap v d → Q v s) : wpAny (model prog w) A (PySem.call (.type "type") vs) Q E s := by
  unfold typeD at e
  split at e
  · cases e
    cases r with | cons ra r => ?_
    cases r
    cases ra with | int _ t => ?_
    exact call_type_of (typeIs_int s _ t) (by decide +kernel) (h _ rfl)
  · cases e
end
end Zp
end

section
namespace Zp
open PySem PySem.Calls PyProof.Rows

structure Bx where
  prog : Program
  w : World
  A : Around
  h₀ : Heap
  mg : Str → Option Value
  mb : Str → Option Value
  L : Addr
  F : Option Addr
  m : Str → Option Value
  ρ : Loc
  env : Env
  cx : Cx

abbrev Bx.E (b : Bx) := OkE b.prog b.w b.A b.cx.sc b.h₀ b.L b.F b.m b.ρ
abbrev Bx.Es (b : Bx) := OkEs b.prog b.w b.A b.cx.sc b.h₀ b.L b.F b.m b.ρ
abbrev Bx.T (b : Bx) := OkT b.prog b.w b.A b.cx.sc b.h₀ b.L b.F b.m b.ρ

structure Bx.Ok (b : Bx) : Prop where
  G : Glo b.h₀ b.mg b.mb
  env : EnvOk b.env b.cx.sc b.L
  call : CallOk b.prog b.w b.A b.h₀ b.mg b.cx.call
  u : b.A.units + 64 < cLine

theorem evEs_length {cx : Cx} {ρ : Loc} : ∀ {es : List Expr} {ds : List D} {σ σ' : St}, evEs cx ρ es σ = some (ds, σ') → ds.length = es.length
  | [], _, _, _, e1 => by rw [oEs0] at e1; cases e1; rfl
  | e :: r, _, _, _, e1 => by
    rw [oEs1] at e1
    simp only [Option.bind_eq_some_iff, Option.map_eq_some_iff] at e1
    obtain ⟨⟨a, σ₂⟩, e2, ⟨bs, σ₃⟩, e3, e4⟩ := e1
    cases e4
    simp [evEs_length e3]

section
variable {b : Bx} (B : b.Ok)
include B

theorem Bx.Ok.isLocal {x : Str} (h : b.cx.isLocal x = true) : b.env.kindOf x = some .local ∧ (x == ("__debug__" : Str)) = false := by
  unfold Cx.isLocal at h
  simp only [Bool.and_eq_true, decide_eq_true_eq] at h
  refine ⟨?_, beq_eq_false_iff_ne.mpr h.2⟩
  unfold Env.kindOf
  rw [B.env.scp]; exact h.1
theorem Bx.Ok.isGlob {x : Str} (h : b.cx.isGlob x = true) : b.env.kindOf x = some .globalImplicit ∧ (x == ("__debug__" : Str)) = false := by
  unfold Cx.isGlob at h
  simp only [Bool.and_eq_true, decide_eq_true_eq] at h
  refine ⟨?_, beq_eq_false_iff_ne.mpr h.2⟩
  unfold Env.kindOf
  rw [B.env.scp]; exact h.1
theorem Bx.Ok.kind : b.env.scope.kind = .function := by rw [B.env.scp]; exact B.env.kind

theorem load_local {x : Str} {pos : Pos} {d : D} {σ : St} {s : Shared} {Q E : Value → Shared → Prop} (X : Fx b.cx.sc b.h₀ b.L b.F b.m b.ρ σ s.heap) (hd : b.ρ x = some d)
    (h : ∀ v, RepD b.F s.heap v d → Q v s) : wpAny (model b.prog b.w) b.A (eval (.Name x pos) b.env) Q E s := by
  obtain ⟨v, hv, rv⟩ := X.loc x d hd
  obtain ⟨k1, k2⟩ := X.dom x d hd
  refine wpAny_Name (wpAny_loadName_local B.kind (m := b.m) ?_ ?_ hv (h v rv)) (beq_eq_false_iff_ne.mpr k2)
  · unfold Env.kindOf
    rw [B.env.scp]; exact k1
  · rw [B.env.loc]; exact X.ns
theorem load_global {x : Str} {pos : Pos} {v : Value} {σ : St} {s : Shared} {Q E : Value → Shared → Prop} (hx : b.cx.isGlob x = true) (X : Fx b.cx.sc b.h₀ b.L b.F b.m b.ρ σ s.heap) (hv : b.mg x = some v)
    (h : Q v s) : wpAny (model b.prog b.w) b.A (eval (.Name x pos) b.env) Q E s := by
  obtain ⟨k1, k2⟩ := B.isGlob hx
  refine Name_function_global B.kind k1 (loadGlobal_global (mg := b.mg) ?_ hv h) k2
  rw [B.env.glob]; exact B.G.g.keeps X.base
theorem load_builtin {x : Str} {pos : Pos} {v : Value} {σ : St} {s : Shared} {Q E : Value → Shared → Prop} (hx : b.cx.isGlob x = true) (X : Fx b.cx.sc b.h₀ b.L b.F b.m b.ρ σ s.heap) (hn : b.mg x = none) (hv : b.mb x = some v)
    (h : Q v s) : wpAny (model b.prog b.w) b.A (eval (.Name x pos) b.env) Q E s := by
  obtain ⟨k1, k2⟩ := B.isGlob hx
  refine Name_function_global B.kind k1 (loadGlobal_builtin (mg := b.mg) (mb := b.mb) ?_ hn ?_ hv h) k2
  · rw [B.env.glob]; exact B.G.g.keeps X.base
  · rw [B.env.bui]; exact B.G.b.keeps X.base

theorem sE_const {c : Const} {k : Nat} {pos : Pos} {σ : St} : b.E (eval (.Constant c k pos) b.env) (evE b.cx b.ρ (.Constant c k pos) σ) σ := by
  intro d σ' e s Q E X h
  rw [oConst] at e
  simp only [Option.map_eq_some_iff] at e
  obtain ⟨x, e1, e2⟩ := e
  cases e2
  unfold constD at e1
  split at e1 <;> cases e1
  · exact wpAny_Constant_none (h _ _ _ Ex.refl .none X.fr)
  · exact wpAny_Constant_bool (h _ _ _ Ex.refl (.bool _) X.fr)
  · exact wpAny_Constant_int (h _ _ _ Ex.refl (.int _ _) X.fr)
  · exact Constant_str (h _ _ _ Ex.refl (.str _ _) X.fr)

theorem sE_name {x : Str} {pos : Pos} {σ : St} : b.E (eval (.Name x pos) b.env) (evE b.cx b.ρ (.Name x pos) σ) σ := by
  intro d σ' e s Q E X h
  change (match b.ρ x with
    | some d => some (d, σ)
    | none => match b.cx.isInt x with
      | true => some (D.ty "int", σ)
      | false => none) = some (d, σ') at e
  split at e
  · rename_i d' e1
    cases e
    exact load_local B X e1 fun v rv => h _ _ _ Ex.refl rv X.fr
  · split at e
    · rename_i hx
      unfold Cx.isInt at hx
      simp only [Bool.and_eq_true, decide_eq_true_eq] at hx
      obtain ⟨h1, rfl⟩ := hx
      cases e
      exact load_builtin B h1 X B.G.int.1 B.G.int.2 (h _ _ _ Ex.refl rfl X.fr)
    · cases e

theorem sE_binop {l r : Expr} {op : Operator} {pos : Pos} {σ : St} (hl : ∀ σ, b.E (eval l b.env) (evE b.cx b.ρ l σ) σ) (hr : ∀ σ, b.E (eval r b.env) (evE b.cx b.ρ r σ) σ) :
    b.E (eval (.BinOp l op r pos) b.env) (evE b.cx b.ρ (.BinOp l op r pos) σ) σ := by
  intro d σ' e s Q E X h
  rw [oBin] at e
  simp only [Option.bind_eq_some_iff, Option.map_eq_some_iff] at e
  obtain ⟨⟨a, σ₁⟩, e1, ⟨c, σ₂⟩, e2, x, e3, e4⟩ := e
  cases e4
  refine wpAny_BinOp (hl σ a σ₁ e1 s _ E X fun va h₁ t₁ x₁ ra f₁ => ?_)
  refine hr σ₁ c σ₂ e2 _ _ E (X.ex x₁ f₁) fun vc h₂ t₂ x₂ rc f₂ => ?_
  dsimp only at e3 x₂
  unfold binDD at e3
  split at e3
  · refine bin_sound e3 (ra.ex x₂) rc f₂.fresh fun v h₃ t₃ k₃ rv => ?_
    exact h v h₃ t₃ ((x₁.trans x₂).trans (Ex.of_keeps k₃)) rv (f₂.keeps k₃)
  · cases e3

theorem sE_neg {x : Expr} {pos : Pos} {σ : St} (hx : ∀ σ, b.E (eval x b.env) (evE b.cx b.ρ x σ) σ) :
    b.E (eval (.UnaryOp .USub x pos) b.env) (evE b.cx b.ρ (.UnaryOp .USub x pos) σ) σ := by
  intro d σ' e s Q E X h
  rw [oNeg] at e
  simp only [Option.bind_eq_some_iff, Option.map_eq_some_iff] at e
  obtain ⟨⟨a, σ₁⟩, e1, x, e3, e4⟩ := e
  cases e4
  refine wpAny_UnaryOp (hx σ a σ₁ e1 s _ E X fun va h₁ t₁ x₁ ra f₁ => ?_)
  dsimp only at e3
  unfold negD at e3
  split at e3
  · cases e3
    cases ra
    exact PyProof.Rows.neg_int (h _ _ _ x₁ (.int _ _) f₁)
  · cases e3

theorem sE_ifexp {t x y : Expr} {pos : Pos} {σ : St} (ht : ∀ σ, b.T (isTrue t b.env (eval t b.env)) (evT b.cx b.ρ t σ) σ) (hx : ∀ σ, b.E (eval x b.env) (evE b.cx b.ρ x σ) σ) (hy : ∀ σ, b.E (eval y b.env) (evE b.cx b.ρ y σ) σ) :
    b.E (eval (.IfExp t x y pos) b.env) (evE b.cx b.ρ (.IfExp t x y pos) σ) σ := by
  intro d σ' e s Q E X h
  rw [oIfExp] at e
  simp only [Option.bind_eq_some_iff] at e
  obtain ⟨⟨c, σ₁⟩, e1, e2⟩ := e
  refine wpAny_IfExp (ht σ c σ₁ e1 s _ E X fun h₁ t₁ x₁ f₁ => ?_)
  dsimp only at e2
  cases c with
  | true =>
    rw [if_pos rfl] at e2
    rw [if_pos rfl]
    exact hx σ₁ d σ' e2 _ _ _ (X.ex x₁ f₁) fun v h₂ t₂ x₂ r₂ f₂ => h v h₂ t₂ (x₁.trans x₂) r₂ f₂
  | false =>
    rw [if_neg (by decide)] at e2
    rw [if_neg (by decide)]
    exact hy σ₁ d σ' e2 _ _ _ (X.ex x₁ f₁) fun v h₂ t₂ x₂ r₂ f₂ => h v h₂ t₂ (x₁.trans x₂) r₂ f₂

theorem sE_tuple {es : List Expr} {k : Nat} {pos : Pos} {σ : St} (hes : ∀ σ, b.Es (spliced (backTo pos (starEach es b.env))) (evEs b.cx b.ρ es σ) σ) :
    b.E (eval (.Tuple es k pos) b.env) (evE b.cx b.ρ (.Tuple es k pos) σ) σ := by
  intro d σ' e s Q E X h
  rw [oTuple] at e
  simp only [Option.bind_eq_some_iff] at e
  obtain ⟨⟨ds, σ₁⟩, e1, e2⟩ := e
  split at e2
  · rename_i hle
    simp only [Option.map_eq_some_iff] at e2
    obtain ⟨xs, e3, e4⟩ := e2
    cases e4
    refine wpAny_Tuple (hes σ ds _ e1 s _ E X fun vs h₁ t₁ x₁ r₁ f₁ => ?_)
    have hl : vs.length = xs.length := (r₁.dats e3).length
    refine ⟨line4096 ?_, h _ _ _ (x₁.trans Ex.push) (rep_newTuple f₁.fresh (r₁.dats e3)) (f₁.keeps fun _ _ q => Heap.get?_push_of_some _ q)⟩
    rw [r₁.length, evEs_length e1]; exact hle
  · cases e2
theorem sE_list {es : List Expr} {pos : Pos} {σ : St} (hes : ∀ σ, b.Es (spliced (backTo pos (starEach es b.env))) (evEs b.cx b.ρ es σ) σ) :
    b.E (eval (.List es pos) b.env) (evE b.cx b.ρ (.List es pos) σ) σ := by
  intro d σ' e s Q E X h
  rw [oList] at e
  simp only [Option.bind_eq_some_iff] at e
  obtain ⟨⟨ds, σ₁⟩, e1, e2⟩ := e
  split at e2
  · rename_i hle
    simp only [Option.map_eq_some_iff] at e2
    obtain ⟨xs, e3, e4⟩ := e2
    cases e4
    refine wpAny_List (hes σ ds _ e1 s _ E X fun vs h₁ t₁ x₁ r₁ f₁ => ?_)
    have hl : vs.length = xs.length := (r₁.dats e3).length
    refine ⟨line4096 ?_, h _ _ _ (x₁.trans Ex.push) (rep_newList f₁.fresh (r₁.dats e3)) (f₁.keeps fun _ _ q => Heap.get?_push_of_some _ q)⟩
    rw [r₁.length, evEs_length e1]; exact hle
  · cases e2
end
end Zp
end

section
namespace Zp
open PySem PySem.Calls PyProof.Rows

theorem star_of {cx : Cx} {ρ : Loc} {σ : St} {r : D × St} {env : Env} {e : Expr} {rest : List Expr} (h : evE cx ρ e σ = some r) : starEach (e :: rest) env = (false, eval e env) :: starEach rest env := by
  cases e <;> first | rfl | exact nomatch (show (none : Option (D × St)) = some r from h)

theorem subs_of {cx : Cx} {ρ : Loc} {σ : St} {r : D × St} {e : Expr} {o i : Value} (h : evE cx ρ e σ = some r) : ∃ ops, subscripted e false o i = operate ops (getItem o i) := by
  cases e <;> first
    | exact ⟨_, rfl⟩
    | (rename_i lo up st pos
       cases st with
       | none => exact ⟨_, rfl⟩
       | some st => exact ⟨_, rfl⟩)

theorem plain_of {cx : Cx} {ρ : Loc} {env : Env} {pos : Pos} : ∀ {es : List Expr} {ds : List D} {σ σ' : St}, evEs cx ρ es σ = some (ds, σ') → (backTo pos (starEach es env)).any (·.1) = false
  | [], _, _, _, _ => rfl
  | e :: r, _, _, _, e1 => by
    rw [oEs1] at e1
    simp only [Option.bind_eq_some_iff, Option.map_eq_some_iff] at e1
    obtain ⟨⟨a, σ₂⟩, e2, ⟨bs, σ₃⟩, e3, e4⟩ := e1
    rw [star_of e2]
    show (false || (backTo pos (starEach r env)).any (·.1)) = false
    rw [plain_of e3]; rfl

section
variable {b : Bx} (B : b.Ok)
include B

theorem sEs_nil {pos : Pos} {σ : St} : b.Es (spliced (backTo pos (starEach [] b.env))) (evEs b.cx b.ρ [] σ) σ := by
  intro d σ' e s Q E X h
  rw [oEs0] at e
  cases e
  exact wpAny_items_nil (h _ _ _ Ex.refl .nil X.fr)

theorem sEs_cons {x : Expr} {r : List Expr} {pos : Pos} {σ : St} (hx : ∀ σ, b.E (eval x b.env) (evE b.cx b.ρ x σ) σ) (hr : ∀ σ, b.Es (spliced (backTo pos (starEach r b.env))) (evEs b.cx b.ρ r σ) σ) :
    b.Es (spliced (backTo pos (starEach (x :: r) b.env))) (evEs b.cx b.ρ (x :: r) σ) σ := by
  intro d σ' e s Q E X h
  rw [oEs1] at e
  simp only [Option.bind_eq_some_iff, Option.map_eq_some_iff] at e
  obtain ⟨⟨a, σ₁⟩, e1, ⟨bs, σ₂⟩, e2, e3⟩ := e
  cases e3
  refine wpAny_items_cons (hx σ a σ₁ e1 s _ E X fun va h₁ t₁ x₁ ra f₁ => ?_) (star_of e1)
  refine hr σ₁ bs σ₂ e2 _ _ E (X.ex x₁ f₁) fun vs h₂ t₂ x₂ rs f₂ => ?_
  exact h _ _ _ (x₁.trans x₂) (.cons (ra.ex x₂) rs) f₂

theorem sE_slice0 {pos : Pos} {σ : St} : b.E (eval (.Slice none none none pos) b.env) (evE b.cx b.ρ (.Slice none none none pos) σ) σ := by
  intro d σ' e s Q E X h
  change some (D.sl none, σ) = some (d, σ') at e
  cases e
  refine wpAny_Slice ?_
  refine wpAny_evalPart_none (wpAny_evalPart_none (wpAny_evalPart_none ?_))
  exact h _ _ _ Ex.push ⟨_, _, rfl, X.fr.fresh, ⟨_, Heap.get?_push_size _ rfl, rfl, rfl⟩, .none⟩ (X.fr.keeps fun _ _ q => Heap.get?_push_of_some _ q)

theorem sE_slice1 {u : Expr} {pos : Pos} {σ : St} (hu : ∀ σ, b.E (eval u b.env) (evE b.cx b.ρ u σ) σ) : b.E (eval (.Slice none (some u) none pos) b.env) (evE b.cx b.ρ (.Slice none (some u) none pos) σ) σ := by
  intro d σ' e s Q E X h
  rw [oSl1] at e
  simp only [Option.bind_eq_some_iff, Option.map_eq_some_iff] at e
  obtain ⟨⟨a, σ₁⟩, e1, x, e3, e4⟩ := e
  cases e4
  refine wpAny_Slice ?_
  refine wpAny_evalPart_none (wpAny_evalPart_some (hu σ a _ e1 s _ E X fun va h₁ t₁ x₁ ra f₁ => wpAny_evalPart_none ?_))
  dsimp only at e3
  unfold slOf at e3
  split at e3
  · cases e3
    cases ra
    exact h _ _ _ (x₁.trans Ex.push) ⟨_, _, rfl, f₁.fresh, ⟨_, Heap.get?_push_size _ rfl, rfl, rfl⟩, .int _ _⟩ (f₁.keeps fun _ _ q => Heap.get?_push_of_some _ q)
  · cases e3

theorem sE_sub {v i : Expr} {pos : Pos} {σ : St} (hv : ∀ σ, b.E (eval v b.env) (evE b.cx b.ρ v σ) σ) (hi : ∀ σ, b.E (eval i b.env) (evE b.cx b.ρ i σ) σ) :
    b.E (eval (.Subscript v i pos) b.env) (evE b.cx b.ρ (.Subscript v i pos) σ) σ := by
  intro d σ' e s Q E X h
  rw [oSub] at e
  simp only [Option.bind_eq_some_iff, Option.map_eq_some_iff] at e
  obtain ⟨⟨a, σ₁⟩, e1, ⟨c, σ₂⟩, e2, x, e3, e4⟩ := e
  cases e4
  refine Subscript_ (hv σ a σ₁ e1 s _ E X fun va h₁ t₁ x₁ ra f₁ => ?_)
  refine hi σ₁ c _ e2 _ _ E (X.ex x₁ f₁) fun vc h₂ t₂ x₂ rc f₂ => ?_
  dsimp only at e3 x₂
  obtain ⟨ops, hs⟩ := subs_of (o := va) (i := vc) e2
  refine sub_sound e3 (ra.ex x₂) rc f₂ hs fun v h₃ k₃ rv => ?_
  exact h v h₃ _ ((x₁.trans x₂).trans (Ex.of_keeps k₃)) rv (f₂.keeps k₃)

theorem sE_call {f : Str} {p pos : Pos} {x : Expr} {r : List Expr} {σ : St} (hes : ∀ σ, b.Es (spliced (backTo pos (starEach (x :: r) b.env))) (evEs b.cx b.ρ (x :: r) σ) σ) :
    b.E (eval (.Call (.Name f p) (x :: r) [] pos) b.env) (evE b.cx b.ρ (.Call (.Name f p) (x :: r) [] pos) σ) σ := by
  intro d σ' e s Q E X h
  rw [oCall] at e
  simp only [Option.bind_eq_some_iff] at e
  obtain ⟨⟨ds, σ₁⟩, e1, e2⟩ := e
  have e1' := e1
  rw [oEs1] at e1'
  simp only [Option.bind_eq_some_iff, Option.map_eq_some_iff] at e1'
  obtain ⟨⟨a, σ₂⟩, e3, ⟨bs, σ₃⟩, e4, _⟩ := e1'
  have st : starEach (x :: r) b.env = (false, eval x b.env) :: starEach r b.env := star_of e3
  have pl := plain_of (env := b.env) (pos := pos) e4
  refine wpAny_Call_NameR ?_
  dsimp only at e2
  unfold Cx.callAny at e2
  split at e2
  · rename_i hg
    split at e2
    · rename_i hf
      have hf := of_decide_eq_true hf
      subst hf
      refine load_builtin B hg X B.G.len.1 B.G.len.2 ?_
      refine callWith_builtin1 (hes σ ds σ₁ e1 s _ E X fun vs h₁ t₁ x₁ r₁ f₁ => ?_) st pl
      split at e2
      · rename_i d' e5
        cases e2
        exact len_sound e5 r₁ f₁ fun v t rv => h v _ t x₁ rv f₁
      · cases e2
    · split at e2
      · rename_i hf
        have hf := of_decide_eq_true hf
        subst hf
        refine load_builtin B hg X B.G.type.1 B.G.type.2 ?_
        refine PyProof.Rows.callWith_type1 (hes σ ds σ₁ e1 s _ E X fun vs h₁ t₁ x₁ r₁ f₁ => ?_) st pl
        split at e2
        · rename_i d' e5
          cases e2
          exact type_sound e5 r₁ fun v rv => h v _ _ x₁ rv f₁
        · cases e2
      · split at e2
        · rename_i d' σ'' e5
          cases e2
          obtain ⟨fa, o, fd, hm, ho, hd, hc⟩ := B.call f ds σ₁ d' _ e5
          refine load_global B hg X hm ?_
          refine PyProof.Rows.callWith_def hd (hes σ ds σ₁ e1 s _ E X fun vs h₁ t₁ x₁ r₁ f₁ => ?_) st
          have X₁ := X.ex x₁ f₁
          refine ⟨X₁.base _ _ ho, hc b.F vs _ Q E X₁.base X₁.f0 r₁ f₁ fun v h₂ t₂ x₂ rv f₂ => ?_⟩
          exact h v h₂ t₂ (x₁.trans x₂) rv f₂
        · cases e2
  · cases e2

theorem marks_of {cx : Cx} {ρ : Loc} {σ : St} {r : D × St} {op : CmpOp} {e : Expr} (h : evE cx ρ e σ = some r) : behindInMarks op e = false := by
  cases e <;> first | rfl | exact nomatch (show (none : Option (D × St)) = some r from h)

theorem sT_cmp {l r : Expr} {op : CmpOp} {pos : Pos} {whole : Sem Value} {σ : St} (hl : ∀ σ, b.E (eval l b.env) (evE b.cx b.ρ l σ) σ) (hr : ∀ σ, b.E (eval r b.env) (evE b.cx b.ρ r σ) σ) :
    b.T (isTrue (.Compare l [op] [r] pos) b.env whole) (evT b.cx b.ρ (.Compare l [op] [r] pos) σ) σ := by
  intro c σ' e s Q E X h
  rw [oCmp] at e
  simp only [Option.bind_eq_some_iff, Option.map_eq_some_iff] at e
  obtain ⟨⟨a, σ₁⟩, e1, ⟨c, σ₂⟩, e2, x, e3, e4⟩ := e
  cases e4
  refine wpAny_isTrue_Compare1 (hl σ a σ₁ e1 s _ E X fun va h₁ t₁ x₁ ra f₁ => ?_) (marks_of B e2)
  refine hr σ₁ c _ e2 _ _ E (X.ex x₁ f₁) fun vc h₂ t₂ x₂ rc f₂ => ?_
  dsimp only at e3 x₂
  exact cmp_sound e3 (ra.ex x₂) rc f₂ B.u (wpAny_truthy_bool (h _ _ (x₁.trans x₂) f₂))

theorem sT_not {x : Expr} {pos : Pos} {whole : Sem Value} {σ : St} (hx : ∀ σ, b.T (isTrue x b.env (eval x b.env)) (evT b.cx b.ρ x σ) σ) :
    b.T (isTrue (.UnaryOp .Not x pos) b.env whole) (evT b.cx b.ρ (.UnaryOp .Not x pos) σ) σ := by
  intro c σ' e s Q E X h
  rw [oNot] at e
  simp only [Option.map_eq_some_iff] at e
  obtain ⟨⟨c, σ₁⟩, e1, e2⟩ := e
  cases e2
  exact wpAny_isTrue_Not (hx σ c _ e1 s _ E X fun h₁ t₁ x₁ f₁ => h _ _ x₁ f₁)

theorem sB_nil {op : BoolOp} {σ : St} : b.T (allTrue op [] b.env) (evB b.cx b.ρ op [] σ) σ := by
  intro c σ' e s Q E X h
  cases op
  · rw [oAnd0] at e
    cases e
    exact wpAny_allTrue_And_nil (h _ _ Ex.refl X.fr)
  · rw [oOr0] at e
    cases e
    exact wpAny_allTrue_Or_nil (h _ _ Ex.refl X.fr)

theorem sB_cons {op : BoolOp} {x : Expr} {r : List Expr} {σ : St} (hx : ∀ σ, b.T (isTrue x b.env (eval x b.env)) (evT b.cx b.ρ x σ) σ) (hr : ∀ σ, b.T (allTrue op r b.env) (evB b.cx b.ρ op r σ) σ) :
    b.T (allTrue op (x :: r) b.env) (evB b.cx b.ρ op (x :: r) σ) σ := by
  intro c σ' e s Q E X h
  cases op
  · rw [oAnd1] at e
    simp only [Option.bind_eq_some_iff] at e
    obtain ⟨⟨c₁, σ₁⟩, e1, e2⟩ := e
    refine wpAny_allTrue_And_cons (hx σ c₁ σ₁ e1 s _ E X fun h₁ t₁ x₁ f₁ => ?_)
    cases c₁ with
    | true => exact hr σ₁ c σ' e2 _ _ _ (X.ex x₁ f₁) fun h₂ t₂ x₂ f₂ => h _ _ (x₁.trans x₂) f₂
    | false => cases e2; exact h _ _ x₁ f₁
  · rw [oOr1] at e
    simp only [Option.bind_eq_some_iff] at e
    obtain ⟨⟨c₁, σ₁⟩, e1, e2⟩ := e
    refine wpAny_allTrue_Or_cons (hx σ c₁ σ₁ e1 s _ E X fun h₁ t₁ x₁ f₁ => ?_)
    cases c₁ with
    | false => exact hr σ₁ c σ' e2 _ _ _ (X.ex x₁ f₁) fun h₂ t₂ x₂ f₂ => h _ _ (x₁.trans x₂) f₂
    | true => cases e2; exact h _ _ x₁ f₁

theorem noE {t : Sem Value} {e : Option (D × St)} {σ : St} (h : e = none) : b.E t e σ := by
  intro d σ' q; rw [h] at q; cases q
theorem noT {t : Sem Bool} {e : Option (Bool × St)} {σ : St} (h : e = none) : b.T t e σ := by
  intro d σ' q; rw [h] at q; cases q
end
end Zp
end

section
namespace Zp
open PySem PySem.Calls PyProof.Rows

mutual
theorem evE_sound {b : Bx} (B : b.Ok) : ∀ (e : Expr) (σ : St), b.E (eval e b.env) (evE b.cx b.ρ e σ) σ
  | .Constant .., _ => sE_const B
  | .Name .., _ => sE_name B
  | .Tuple es _ pos, _ => sE_tuple B (evEs_sound B es pos)
  | .List es pos, _ => sE_list B (evEs_sound B es pos)
  | .BinOp l _ r _, _ => sE_binop B (evE_sound B l) (evE_sound B r)
  | .UnaryOp .USub x _, _ => sE_neg B (evE_sound B x)
  | .UnaryOp .Not _ _, _ => noE B rfl
  | .UnaryOp .UAdd _ _, _ => noE B rfl
  | .UnaryOp .Invert _ _, _ => noE B rfl
  | .IfExp t x y _, _ => sE_ifexp B (evT_sound B t) (evE_sound B x) (evE_sound B y)
  | .Call (.Name _ _) (x :: r) [] pos, _ => sE_call B (evEs_sound B (x :: r) pos)
  | .Call (.Name _ _) [] _ _, _ => noE B rfl
  | .Call (.Name _ _) (_ :: _) (_ :: _) _, _ => noE B rfl
  | .Call (.BoolOp ..) .., _ => noE B rfl
  | .Call (.NamedExpr ..) .., _ => noE B rfl
  | .Call (.BinOp ..) .., _ => noE B rfl
  | .Call (.UnaryOp ..) .., _ => noE B rfl
  | .Call (.Lambda ..) .., _ => noE B rfl
  | .Call (.IfExp ..) .., _ => noE B rfl
  | .Call (.Dict ..) .., _ => noE B rfl
  | .Call (.Set ..) .., _ => noE B rfl
  | .Call (.ListComp ..) .., _ => noE B rfl
  | .Call (.SetComp ..) .., _ => noE B rfl
  | .Call (.DictComp ..) .., _ => noE B rfl
  | .Call (.GeneratorExp ..) .., _ => noE B rfl
  | .Call (.Await ..) .., _ => noE B rfl
  | .Call (.Yield ..) .., _ => noE B rfl
  | .Call (.YieldFrom ..) .., _ => noE B rfl
  | .Call (.Compare ..) .., _ => noE B rfl
  | .Call (.Call ..) .., _ => noE B rfl
  | .Call (.FormattedValue ..) .., _ => noE B rfl
  | .Call (.JoinedStr ..) .., _ => noE B rfl
  | .Call (.Constant ..) .., _ => noE B rfl
  | .Call (.Attribute ..) .., _ => noE B rfl
  | .Call (.Subscript ..) .., _ => noE B rfl
  | .Call (.Starred ..) .., _ => noE B rfl
  | .Call (.List ..) .., _ => noE B rfl
  | .Call (.Tuple ..) .., _ => noE B rfl
  | .Call (.Slice ..) .., _ => noE B rfl
  | .Slice none none none _, _ => sE_slice0 B
  | .Slice none (some u) none _, _ => sE_slice1 B (evE_sound B u)
  | .Slice (some _) _ _ _, _ => noE B rfl
  | .Slice none none (some _) _, _ => noE B rfl
  | .Slice none (some _) (some _) _, _ => noE B rfl
  | .Subscript v i _, _ => sE_sub B (evE_sound B v) (evE_sound B i)
  | .BoolOp .., _ => noE B rfl
  | .NamedExpr .., _ => noE B rfl
  | .Lambda .., _ => noE B rfl
  | .Dict .., _ => noE B rfl
  | .Set .., _ => noE B rfl
  | .ListComp .., _ => noE B rfl
  | .SetComp .., _ => noE B rfl
  | .DictComp .., _ => noE B rfl
  | .GeneratorExp .., _ => noE B rfl
  | .Await .., _ => noE B rfl
  | .Yield .., _ => noE B rfl
  | .YieldFrom .., _ => noE B rfl
  | .Compare .., _ => noE B rfl
  | .FormattedValue .., _ => noE B rfl
  | .JoinedStr .., _ => noE B rfl
  | .Attribute .., _ => noE B rfl
  | .Starred .., _ => noE B rfl
theorem evEs_sound {b : Bx} (B : b.Ok) : ∀ (es : List Expr) (pos : Pos) (σ : St), b.Es (spliced (backTo pos (starEach es b.env))) (evEs b.cx b.ρ es σ) σ
  | [], _, _ => sEs_nil B
  | x :: r, pos, _ => sEs_cons B (evE_sound B x) (evEs_sound B r pos)
theorem evT_sound {b : Bx} (B : b.Ok) : ∀ (e : Expr) (σ : St), b.T (isTrue e b.env (eval e b.env)) (evT b.cx b.ρ e σ) σ
  | .Compare l [_] [r] _, _ => sT_cmp B (evE_sound B l) (evE_sound B r)
  | .UnaryOp .Not x _, _ => sT_not B (evT_sound B x)
  | .BoolOp op vs pos, σ => fun c σ' e s Q E X h => wpAny_isTrue_BoolOp (evB_sound B op vs σ c σ' e s Q E X h)
  | .Compare _ [] _ _, _ => noT B rfl
  | .Compare _ (_ :: _ :: _) _ _, _ => noT B rfl
  | .Compare _ [_] [] _, _ => noT B rfl
  | .Compare _ [_] (_ :: _ :: _) _, _ => noT B rfl
  | .UnaryOp .USub _ _, _ => noT B rfl
  | .UnaryOp .UAdd _ _, _ => noT B rfl
  | .UnaryOp .Invert _ _, _ => noT B rfl
  | .Constant .., _ => noT B rfl
  | .Name .., _ => noT B rfl
  | .Tuple .., _ => noT B rfl
  | .List .., _ => noT B rfl
  | .BinOp .., _ => noT B rfl
  | .IfExp .., _ => noT B rfl
  | .Call .., _ => noT B rfl
  | .Slice .., _ => noT B rfl
  | .Subscript .., _ => noT B rfl
  | .NamedExpr .., _ => noT B rfl
  | .Lambda .., _ => noT B rfl
  | .Dict .., _ => noT B rfl
  | .Set .., _ => noT B rfl
  | .ListComp .., _ => noT B rfl
  | .SetComp .., _ => noT B rfl
  | .DictComp .., _ => noT B rfl
  | .GeneratorExp .., _ => noT B rfl
  | .Await .., _ => noT B rfl
  | .Yield .., _ => noT B rfl
  | .YieldFrom .., _ => noT B rfl
  | .FormattedValue .., _ => noT B rfl
  | .JoinedStr .., _ => noT B rfl
  | .Attribute .., _ => noT B rfl
  | .Starred .., _ => noT B rfl
theorem evB_sound {b : Bx} (B : b.Ok) : ∀ (op : BoolOp) (es : List Expr) (σ : St), b.T (allTrue op es b.env) (evB b.cx b.ρ op es σ) σ
  | _, [], _ => sB_nil B
  | op, x :: r, _ => sB_cons B (evT_sound B x) (evB_sound B op r)
end
end Zp
end

section
namespace Zp
open PySem PySem.Calls PyProof.Rows

/-- the objects that data lean on -/
noncomputable def Good (o : Obj) : Prop := (∃ vs n, o.data = .seq vs n) ∨ (o.cls = .type "slice" ∧ ∃ vs, o.data = .fields vs)

theorem Rep.good {F F' h h' v d} (k : ∀ b o, h.get? b = some o → Good o → F ≠ some b → h'.get? b = some o ∧ F' ≠ some b) (r : Rep F h v d) : Rep F' h' v d :=
  r.mono fun b o q s n => k b o q (.inl s) n
theorem RepL.good {F F' h h' vs ds} (k : ∀ b o, h.get? b = some o → Good o → F ≠ some b → h'.get? b = some o ∧ F' ≠ some b) (r : RepL F h vs ds) : RepL F' h' vs ds :=
  r.mono fun b o q s n => k b o q (.inl s) n
theorem RepD.good {F F' h h' v} {d : D} (k : ∀ b o, h.get? b = some o → Good o → F ≠ some b → h'.get? b = some o ∧ F' ≠ some b) (kF : ∀ a, F = some a → F' = some a) (r : RepD F h v d) : RepD F' h' v d := by
  cases d with
  | dat d => exact Rep.good k r
  | fr => obtain ⟨a, e, rfl⟩ := r; exact ⟨a, kF a e, rfl⟩
  | ty s => exact r
  | sl j =>
    obtain ⟨a, u, rfl, n, ⟨o, ho, hc, hd⟩, p⟩ := r
    have := k _ _ ho (.inr ⟨hc, _, hd⟩) n
    exact ⟨a, u, rfl, this.2, ⟨o, this.1, hc, hd⟩, p⟩
theorem FrOk.good {F σ h h'} (k : ∀ b o, h.get? b = some o → Good o → h'.get? b = some o) (f : FrOk F σ h) : FrOk F σ h' := by
  cases σ with
  | none => exact f
  | some ds =>
    obtain ⟨a, vs, e, ⟨n, ho⟩, r⟩ := f
    exact ⟨a, vs, e, ⟨n, k _ _ ho (.inl ⟨_, _, rfl⟩)⟩, r.good fun b o q g m => ⟨k b o q g, m⟩⟩

theorem Ns.notGood {h : Heap} {L : Addr} {m : Str → Option Value} (n : h.Ns L m) {o : Obj} (ho : h.get? L = some o) : ¬ Good o := by
  obtain ⟨o', es, ep, ho', hd, _⟩ := n
  rw [ho] at ho'
  cases ho'
  rintro (⟨vs, n, e⟩ | ⟨_, vs, e⟩) <;> rw [hd] at e <;> cases e

theorem same_good {h h' : Heap} {X : Addr} (s : Heap.SameBut X h h') (g : ∀ o, h.get? X = some o → ¬ Good o) : ∀ b o, h.get? b = some o → Good o → h'.get? b = some o := by
  intro b o q go
  by_cases e : b = X
  · subst e; exact absurd go (g o q)
  · exact (s.2 b e).trans q
theorem ext_good {h h' : Heap} {X : Addr} (s : Heap.ExtBut X h h') (g : ∀ o, h.get? X = some o → ¬ Good o) : ∀ b o, h.get? b = some o → Good o → h'.get? b = some o := by
  intro b o q go
  by_cases e : b = X
  · subst e; exact absurd go (g o q)
  · exact s b o e q

/-- what a statement leaves: all but its own names and the frames -/
noncomputable def ExL (L : Addr) (F F' : Option Addr) (h h' : Heap) : Prop :=
  (∀ b o, h.get? b = some o → b ≠ L → F ≠ some b → h'.get? b = some o ∧ F' ≠ some b) ∧ ∀ a, F = some a → F' = some a
theorem ExL.refl {L F h} : ExL L F F h h := ⟨fun _ _ e _ n => ⟨e, n⟩, fun _ e => e⟩
theorem ExL.trans {L F F' F'' h h' h''} (a : ExL L F F' h h') (b : ExL L F' F'' h' h'') : ExL L F F'' h h'' :=
  ⟨fun x o e n m => let q := a.1 x o e n m; b.1 x o q.1 n q.2, fun x e => b.2 x (a.2 x e)⟩
theorem ExL.of_ex {L F h h'} (e : Ex F h h') : ExL L F F h h' := ⟨fun b o q _ n => ⟨e b o q n, n⟩, fun _ e => e⟩
theorem ExL.of_same {L F h h'} (s : Heap.SameBut L h h') : ExL L F F h h' := ⟨fun b _ q n m => ⟨(s.2 b n).trans q, m⟩, fun _ e => e⟩

noncomputable def updM (m : Str → Option Value) (x : Str) (v : Value) : Str → Option Value := fun y => if y = x then some v else m y

theorem Fx.store {sc h₀ L F m ρ σ h h' x v} {d : D} (X : Fx sc h₀ L F m ρ σ h) (hx : sc.names.lookup x = some .local ∧ x ≠ Str.ofString "__debug__") (r : RepD F h v d) (n : h'.Ns L (updM m x v)) (s : Heap.SameBut L h h') : Fx sc h₀ L F (updM m x v) (setL ρ x d) σ h' := by
  have g := same_good s fun o ho => Ns.notGood X.ns ho
  exact {
    base := fun b o q => (s.2 b (fun e => by subst e; rw [X.l0] at q; cases q)).trans (X.base b o q)
    f0 := X.f0
    l0 := X.l0
    ns := n
    lF := X.lF
    loc := fun y e q => by
      unfold setL at q
      unfold updM
      split at q
      · rename_i hy
        cases q
        exact ⟨v, by rw [if_pos hy], r.good (fun b o q g' m => ⟨g b o q g', m⟩) fun _ e => e⟩
      · rename_i hy
        obtain ⟨v', h1, h2⟩ := X.loc y e q
        exact ⟨v', by rw [if_neg hy]; exact h1, h2.good (fun b o q g' m => ⟨g b o q g', m⟩) fun _ e => e⟩
    fr := X.fr.good g
    dom := fun y e q => by
      unfold setL at q
      split at q
      · rename_i hy
        subst hy
        exact hx
      · exact X.dom y e q }

structure Sx where
  prog : Program
  w : World
  A : Around
  h₀ : Heap
  mg : Str → Option Value
  mb : Str → Option Value
  L : Addr
  env : Env
  cx : Cx
abbrev Sx.bx (S : Sx) (F : Option Addr) (m : Str → Option Value) (ρ : Loc) : Bx := ⟨S.prog, S.w, S.A, S.h₀, S.mg, S.mb, S.L, F, m, ρ, S.env, S.cx⟩
structure Sx.Ok (S : Sx) : Prop where
  G : Glo S.h₀ S.mg S.mb
  env : EnvOk S.env S.cx.sc S.L
  call : CallOk S.prog S.w S.A S.h₀ S.mg S.cx.call
  u : S.A.units + 64 < cLine
  hd : S.A.handled = none
theorem Sx.Ok.b {S : Sx} (O : S.Ok) {F m ρ} : (S.bx F m ρ).Ok := ⟨O.G, O.env, O.call, O.u⟩

noncomputable def RepF (F : Option Addr) (h : Heap) (f : Flow) : Fl → Prop
  | .next => f = .next
  | .ret d => ∃ v, f = .ret v ∧ Rep F h v d

noncomputable def Sx.S (S : Sx) (t : Sem Flow) (r : Res) (ρ : Loc) (σ : St) : Prop :=
  ∀ fl ρ' σ', r = some (fl, ρ', σ') → ∀ (F : Option Addr) (m : Str → Option Value) (s : Shared) (Q : Flow → Shared → Prop) (E : Value → Shared → Prop), Fx S.cx.sc S.h₀ S.L F m ρ σ s.heap →
    (∀ f F' m' h' tk', ExL S.L F F' s.heap h' → Fx S.cx.sc S.h₀ S.L F' m' ρ' σ' h' → RepF F' h' f fl → Q f { s with heap := h', toks := tk' }) → wpAny (model S.prog S.w) S.A t Q E s

section
variable {S : Sx} (O : S.Ok)
include O

theorem exp {e : Expr} {ρ : Loc} {σ σ' : St} {d : D} {F : Option Addr} {m : Str → Option Value} {s : Shared} {Q E : Value → Shared → Prop} (q : evE S.cx ρ e σ = some (d, σ')) (X : Fx S.cx.sc S.h₀ S.L F m ρ σ s.heap)
    (h : ∀ v h' tk', Ex F s.heap h' → RepD F h' v d → Fx S.cx.sc S.h₀ S.L F m ρ σ' h' → Q v { s with heap := h', toks := tk' }) : wpAny (model S.prog S.w) S.A (eval e S.env) Q E s :=
  evE_sound (b := S.bx F m ρ) O.b e σ d σ' q s Q E X fun v h' tk' x r f => h v h' tk' x r (X.ex x f)
theorem tst {e : Expr} {ρ : Loc} {σ σ' : St} {c : Bool} {F : Option Addr} {m : Str → Option Value} {s : Shared} {Q : Bool → Shared → Prop} {E : Value → Shared → Prop} (q : evT S.cx ρ e σ = some (c, σ')) (X : Fx S.cx.sc S.h₀ S.L F m ρ σ s.heap)
    (h : ∀ h' tk', Ex F s.heap h' → Fx S.cx.sc S.h₀ S.L F m ρ σ' h' → Q c { s with heap := h', toks := tk' }) : wpAny (model S.prog S.w) S.A (isTrue e S.env (eval e S.env)) Q E s :=
  evT_sound (b := S.bx F m ρ) O.b e σ c σ' q s Q E X fun h' tk' x f => h h' tk' x (X.ex x f)

theorem sto {x : Str} {ρ : Loc} {σ : St} {d : D} {v : Value} {F : Option Addr} {m : Str → Option Value} {s : Shared} {Q : Unit → Shared → Prop} {E : Value → Shared → Prop} (hx : S.cx.isLocal x = true) (X : Fx S.cx.sc S.h₀ S.L F m ρ σ s.heap) (r : RepD F s.heap v d)
    (h : ∀ h' tk', Heap.SameBut S.L s.heap h' → Fx S.cx.sc S.h₀ S.L F (updM m x v) (setL ρ x d) σ h' → Q () { s with heap := h', toks := tk' }) : wpAny (model S.prog S.w) S.A (storeName S.env x v) Q E s := by
  have k := (O.b (F := F) (m := m) (ρ := ρ)).isLocal hx
  refine wpAny_storeName_local (m := m) k.1 ?_ (fun h' n sb => ?_) ?_
  · rw [O.env.loc]; exact X.ns
  · rw [O.env.loc] at n sb
    exact h h' _ sb (X.store (by unfold Cx.isLocal at hx; simpa only [Bool.and_eq_true, decide_eq_true_eq, ne_eq] using hx) r n sb)
  · have := (O.b (F := F) (m := m) (ρ := ρ)).kind
    have this : S.env.scope.kind = .function := this
    rw [this]; rfl

theorem sS_ret {e : Expr} {pos : Pos} {ρ : Loc} {σ : St} : S.S (exec (.Return (some e) pos) S.env) (exS S.cx (.Return (some e) pos) ρ σ) ρ σ := by
  intro fl ρ' σ' q F m s Q E X h
  rw [oRet] at q
  simp only [Option.bind_eq_some_iff, Option.map_eq_some_iff] at q
  obtain ⟨⟨d, σ₁⟩, e1, f, e2, e3⟩ := q
  cases e3
  refine wpAny_Return_some (exp O e1 X fun v h₁ t₁ x₁ r₁ X₁ => ?_)
  dsimp only at e2
  unfold retD at e2
  split at e2
  · cases e2
    exact h _ F m _ _ (ExL.of_ex x₁) X₁ ⟨v, rfl, r₁⟩
  · cases e2

theorem swaps_of {cx : Cx} {ρ : Loc} {σ : St} {r : D × St} {e : Expr} {t : Option Expr} {line : Nat} {env : Env} (h : evE cx ρ e σ = some r) : swapsWith e t line env = pure false := by
  cases e <;> first | rfl | exact nomatch (show (none : Option (D × St)) = some r from h)

theorem sS_asgn {x : Str} {p : Pos} {e : Expr} {pos : Pos} {ρ : Loc} {σ : St} : S.S (exec (.Assign [.Name x p] e pos) S.env) (exS S.cx (.Assign [.Name x p] e pos) ρ σ) ρ σ := by
  intro fl ρ' σ' q F m s Q E X h
  rw [oAsg] at q
  split at q
  · rename_i hx
    split at q
    · rename_i hn
      unfold frNil at hn
      simp only [Bool.and_eq_true, decide_eq_true_eq] at hn
      simp only [Option.map_eq_some_iff] at q
      obtain ⟨σ₁, e1, e2⟩ := q
      cases e2
      unfold newFr at e1
      split at e1
      · cases e1
        have hF : F = none := X.fr
        subst hF
        have he : ∃ lp, e = .List [] lp := by
          have := hn.2
          unfold isNil at this
          split at this
          · exact ⟨_, rfl⟩
          · cases this
        obtain ⟨lp, rfl⟩ := he
        refine wpAny_Assign_Name (wpAny_List (wpAny_items_nil ⟨Nat.zero_le _, ?_⟩)) rfl
        have hL : s.heap.objs.size ≠ S.L := by
          obtain ⟨o, _, _, ho, _⟩ := X.ns
          exact Nat.ne_of_gt (Heap.lt_size ho)
        have hnew : s.heap.get? s.heap.objs.size = none := Heap.get?_none_of_le (Nat.le_refl _)
        have ne_of : ∀ b o, s.heap.get? b = some o → (some s.heap.objs.size : Option Addr) ≠ some b := fun b o q e => by
          cases e; rw [hnew] at q; cases q
        have gk : ∀ b o, s.heap.get? b = some o → Good o → (none : Option Addr) ≠ some b → (s.heap.push { cls := .type "list", data := .seq #[] }).get? b = some o ∧ (some s.heap.objs.size : Option Addr) ≠ some b :=
          fun b o q _ _ => ⟨Heap.get?_push_of_some _ q, ne_of b o q⟩
        have X' : Fx S.cx.sc S.h₀ S.L (some s.heap.objs.size) m ρ (some []) (s.heap.push { cls := .type "list", data := .seq #[] }) := {
          base := fun b o q => Heap.get?_push_of_some _ (X.base b o q)
          f0 := fun a e => by
            cases e
            cases hq : S.h₀.get? s.heap.objs.size with
            | none => rfl
            | some o => rw [X.base _ _ hq] at hnew; cases hnew
          l0 := X.l0
          ns := X.ns.push _
          lF := fun e => hL (Option.some.inj e)
          loc := fun y d q => let ⟨v, h1, h2⟩ := X.loc y d q; ⟨v, h1, h2.good gk fun _ e => nomatch e⟩
          fr := ⟨_, #[], rfl, ⟨0, Heap.get?_push_size _ rfl⟩, .nil⟩
          dom := X.dom }
        refine sto O hx X' (d := .fr) ⟨_, rfl, rfl⟩ fun h' tk' sb X₂ => ?_
        refine h _ _ _ _ _ ?_ X₂ rfl
        exact ⟨fun b o q n _ => ⟨(sb.2 b n).trans (Heap.get?_push_of_some _ q), ne_of b o q⟩, fun _ e => nomatch e⟩
      · cases e1
    · simp only [Option.bind_eq_some_iff] at q
      obtain ⟨⟨d, σ₁⟩, e1, e2⟩ := q
      cases e2
      refine wpAny_Assign_Name (exp O e1 X fun v h₁ t₁ x₁ r₁ X₁ => ?_) (swaps_of O e1)
      refine sto O hx X₁ r₁ fun h' tk' sb X₂ => ?_
      exact h _ _ _ _ _ ((ExL.of_ex x₁).trans (ExL.of_same sb)) X₂ rfl
  · cases q

theorem tup_sound {ts : List Expr} : ∀ {vs : List Value} {ds : List PyData} {ρ ρ' : Loc} {σ : St} {F : Option Addr} {m : Str → Option Value} {s : Shared} {Q : Unit → Shared → Prop} {E : Value → Shared → Prop},
    bindTup S.cx ts ds ρ = some ρ' → Fx S.cx.sc S.h₀ S.L F m ρ σ s.heap → RepL F s.heap vs ds →
    (∀ m' h' tk', ExL S.L F F s.heap h' → Fx S.cx.sc S.h₀ S.L F m' ρ' σ h' → Q () { s with heap := h', toks := tk' }) → wpAny (model S.prog S.w) S.A (assignInOrder ((assignEach ts S.env).map (·.2)) vs) Q E s := by
  induction ts with
  | nil =>
    intro vs ds ρ ρ' σ F m s Q E q X r h
    cases ds with
    | nil => cases r; cases q; exact wpAny_assignInOrder_none (h m _ _ ExL.refl X)
    | cons d ds => cases q
  | cons t ts ih =>
    intro vs ds ρ ρ' σ F m s Q E q X r h
    cases r with
    | nil => cases t <;> exact nomatch (show (none : Option Loc) = some ρ' from q)
    | cons r rs =>
      rename_i v vs d ds
      cases t with
      | Name x p =>
        rw [bindTup] at q
        split at q
        · rename_i hx
          refine wpAny_assignInOrder_more (wpAny_assign_Name (sto O hx X (d := .dat d) r fun h' tk' sb X₁ => ?_))
          have g := same_good sb fun o ho => Ns.notGood X.ns ho
          refine ih q X₁ (rs.good fun b o q g' n => ⟨g b o q g', n⟩) fun m' h₂ t₂ x₂ X₂ => ?_
          exact h m' h₂ t₂ ((ExL.of_same sb).trans x₂) X₂
        · cases q
      | _ => exact nomatch (show (none : Option Loc) = some ρ' from q)

theorem tup_len : ∀ {ts : List Expr} {ds : List PyData} {ρ ρ' : Loc}, bindTup S.cx ts ds ρ = some ρ' → (assignEach ts S.env).length = ds.length ∧ (assignEach ts S.env).findIdx? (·.1) = none
  | [], [], _, _, _ => ⟨rfl, rfl⟩
  | [], _ :: _, _, _, q => by cases q
  | t :: ts, [], _, ρ', q => by cases t <;> exact nomatch (show (none : Option Loc) = some ρ' from q)
  | t :: ts, d :: ds, ρ, ρ', q => by
    cases t with
    | Name x p =>
      rw [bindTup] at q
      split at q
      · obtain ⟨a, b⟩ := tup_len (ts := ts) q
        have e : assignEach (.Name x p :: ts) S.env = (false, assign (.Name x p) S.env) :: assignEach ts S.env := rfl
        rw [e]
        refine ⟨by simp [a], ?_⟩
        rw [List.findIdx?_cons]
        simp [b]
      · cases q
    | _ => exact nomatch (show (none : Option Loc) = some ρ' from q)

theorem asgT_sound {ts : List Expr} {k : Nat} {pos : Pos} {v : Value} {ds : List PyData} {ρ ρ' : Loc} {σ : St} {F : Option Addr} {m : Str → Option Value} {s : Shared} {Q : Unit → Shared → Prop} {E : Value → Shared → Prop}
    (q : bindTup S.cx ts ds ρ = some ρ') (X : Fx S.cx.sc S.h₀ S.L F m ρ σ s.heap) (r : Rep F s.heap v (.tuple ds))
    (h : ∀ m' h' tk', ExL S.L F F s.heap h' → Fx S.cx.sc S.h₀ S.L F m' ρ' σ h' → Q () { s with heap := h', toks := tk' }) : wpAny (model S.prog S.w) S.A (assign (.Tuple ts k pos) S.env v) Q E s := by
  cases r with | tuple ho hc hd hn r => ?_
  obtain ⟨l1, l2⟩ := tup_len O q
  refine wpAny_assign_Tuple O.hd ⟨_, ho, hc, _, hd⟩ (by rw [l1, ← r.length]; simp) l2 fun h' eb => ?_
  have keep : ∀ b o, s.heap.get? b = some o → h'.get? b = some o := fun b o q => eb b o (Nat.ne_of_lt (Heap.lt_size q)) q
  have ex : Ex F s.heap h' := Ex.of_keeps keep
  have X₁ := X.ex ex (X.fr.keeps keep)
  refine tup_sound O q X₁ (r.ex ex) fun m' h₂ t₂ x₂ X₂ => ?_
  exact h m' h₂ t₂ ((ExL.of_ex ex).trans x₂) X₂

theorem sS_asgT {ts : List Expr} {k : Nat} {p : Pos} {e : Expr} {pos : Pos} {ρ : Loc} {σ : St} : S.S (exec (.Assign [.Tuple ts k p] e pos) S.env) (exS S.cx (.Assign [.Tuple ts k p] e pos) ρ σ) ρ σ := by
  intro fl ρ' σ' q F m s Q E X h
  rw [oAsgT] at q
  split at q
  · rename_i hp
    simp only [Option.bind_eq_some_iff, Option.map_eq_some_iff] at q
    obtain ⟨⟨d, σ₁⟩, e1, ds, e2, ρ₁, e3, e4⟩ := q
    cases e4
    have hw : swappedStores [.Tuple ts k p] e S.env = pure none := by
      unfold plainVal at hp
      split at hp
      · rfl
      · rfl
      · cases hp
    have hs : swapsWithSole [.Tuple ts k p] e pos.line S.env = pure false := by
      show swapsWith e (some (.Tuple ts k p)) pos.line S.env = pure false
      exact swaps_of O e1
    refine Assign_Tuple (exp O e1 X fun v h₁ t₁ x₁ r₁ X₁ => ?_) hs hw
    dsimp only at e2
    unfold tupOf at e2
    split at e2
    · cases e2
      refine asgT_sound O e3 X₁ r₁ fun m' h₂ t₂ x₂ X₂ => ?_
      exact h _ _ _ _ _ ((ExL.of_ex x₁).trans x₂) X₂ rfl
    · cases e2
  · cases q

theorem sS_if {t : Expr} {x y : List Stmt} {pos : Pos} {ρ : Loc} {σ : St} (hx : ∀ ρ σ, S.S (execs x S.env) (exSs S.cx x ρ σ) ρ σ) (hy : ∀ ρ σ, S.S (execs y S.env) (exSs S.cx y ρ σ) ρ σ) :
    S.S (exec (.If t x y pos) S.env) (exS S.cx (.If t x y pos) ρ σ) ρ σ := by
  intro fl ρ' σ' q F m s Q E X h
  rw [oIf] at q
  simp only [Option.bind_eq_some_iff] at q
  obtain ⟨⟨c, σ₁⟩, e1, e2⟩ := q
  refine wpAny_If (tst O e1 X fun h₁ t₁ x₁ X₁ => ?_)
  cases c with
  | true => exact hx ρ σ₁ fl ρ' σ' e2 F m _ Q E X₁ fun f F' m' h₂ t₂ x₂ X₂ r₂ => h f F' m' h₂ t₂ ((ExL.of_ex x₁).trans x₂) X₂ r₂
  | false => exact hy ρ σ₁ fl ρ' σ' e2 F m _ Q E X₁ fun f F' m' h₂ t₂ x₂ X₂ r₂ => h f F' m' h₂ t₂ ((ExL.of_ex x₁).trans x₂) X₂ r₂

theorem sSs_nil {ρ : Loc} {σ : St} : S.S (execs [] S.env) (exSs S.cx [] ρ σ) ρ σ := by
  intro fl ρ' σ' q F m s Q E X h
  cases q
  exact wpAny_execs_nil (h _ F m _ _ ExL.refl X rfl)
theorem sSs_cons {st : Stmt} {r : List Stmt} {ρ : Loc} {σ : St} (hs : ∀ ρ σ, S.S (exec st S.env) (exS S.cx st ρ σ) ρ σ) (hr : ∀ ρ σ, S.S (execs r S.env) (exSs S.cx r ρ σ) ρ σ) :
    S.S (execs (st :: r) S.env) (exSs S.cx (st :: r) ρ σ) ρ σ := by
  intro fl ρ' σ' q F m s Q E X h
  rw [oSs1] at q
  simp only [Option.bind_eq_some_iff] at q
  obtain ⟨⟨f, ρ₁, σ₁⟩, e1, e2⟩ := q
  refine wpAny_execs_cons (hs ρ σ f ρ₁ σ₁ e1 F m s _ E X fun g F' m' h₁ t₁ x₁ X₁ r₁ => ?_)
  dsimp only at e2
  cases f with
  | next =>
    have : g = .next := r₁
    subst this
    exact hr ρ₁ σ₁ fl ρ' σ' e2 F' m' _ Q E X₁ fun f F'' m'' h₂ t₂ x₂ X₂ r₂ => h f F'' m'' h₂ t₂ (x₁.trans x₂) X₂ r₂
  | ret d =>
    cases e2
    obtain ⟨v, rfl, rv⟩ := r₁
    exact h _ F' m' h₁ t₁ x₁ X₁ ⟨v, rfl, rv⟩
end
end Zp
end

section
namespace Zp
open PySem PySem.Calls PyProof.Rows

theorem Fx.other {sc h₀ L F m ρ σ h h'} {Y : Addr} (X : Fx sc h₀ L F m ρ σ h) (k : Heap.ExtBut Y h h') (g : ∀ o, h.get? Y = some o → ¬ Good o) (h0 : h₀.get? Y = none) (hL : Y ≠ L) : Fx sc h₀ L F m ρ σ h' := by
  have gk := ext_good k g
  exact {
    base := fun b o q => k b o (fun e => by subst e; rw [h0] at q; cases q) (X.base b o q)
    f0 := X.f0
    l0 := X.l0
    ns := X.ns.extBut k (fun e => hL e.symm)
    lF := X.lF
    loc := fun y d q => let ⟨v, h1, h2⟩ := X.loc y d q; ⟨v, h1, h2.good (fun b o q g' n => ⟨gk b o q g', n⟩) fun _ e => e⟩
    fr := X.fr.good gk
    dom := X.dom }

theorem RepL.erase {F h} : ∀ {vs : List Value} {ds : List PyData}, RepL F h vs ds → ∀ k : Nat, RepL F h (vs.eraseIdx k) (ds.eraseIdx k)
  | _, _, .nil, _ => by simp; exact .nil
  | _, _, .cons r rs, 0 => by simpa using rs
  | _, _, .cons r rs, k + 1 => by simp only [List.eraseIdx_cons_succ]; exact .cons r (rs.erase k)

theorem drop_erase : ∀ {l : List PyData} {k : Nat}, k + 1 = l.length → l.dropLast = l.eraseIdx k
  | [], _, h => by simp at h
  | [x], k, h => by
    have : k = 0 := by simpa using h
    subst this; rfl
  | x :: y :: r, 0, h => by simp at h
  | x :: y :: r, k + 1, h => by
    rw [List.dropLast_cons_cons, List.eraseIdx_cons_succ, drop_erase (k := k) (by simpa using h)]

/-- the frames changed -/
theorem Fx.frames {sc h₀ L m ρ σ σ' h h'} {a : Addr} (X : Fx sc h₀ L (some a) m ρ σ h) (s : Heap.SameBut a h h') (f : FrOk (some a) σ' h') : Fx sc h₀ L (some a) m ρ σ' h' :=
  X.ex (fun b o q n => (s.2 b (fun e => n (by rw [e]))).trans q) f

section
variable {S : Sx} (O : S.Ok)
include O

theorem inter : interactive S.env = false := by
  have : S.env.scope.kind = .function := (O.b (F := none) (m := fun _ => none) (ρ := fun _ => none)).kind
  unfold interactive
  rw [this]; rfl

theorem sS_app {x : Str} {xp : Pos} {mm : Str} {ap : Pos} {a : Expr} {p pos : Pos} {ρ : Loc} {σ : St} :
    S.S (exec (.Expr (.Call (.Attribute (.Name x xp) mm ap) [a] [] p) pos) S.env) (exS S.cx (.Expr (.Call (.Attribute (.Name x xp) mm ap) [a] [] p) pos) ρ σ) ρ σ := by
  intro fl ρ' σ' q F m s Q E X h
  rw [oApp] at q
  split at q
  · rename_i hc
    unfold isAppend at hc
    simp only [Bool.and_eq_true, decide_eq_true_eq] at hc
    obtain ⟨rfl, hline⟩ := hc
    simp only [Option.bind_eq_some_iff, Option.map_eq_some_iff] at q
    obtain ⟨⟨d, σ₁⟩, e1, σ₂, e2, e3⟩ := q
    cases e3
    dsimp only at e2
    unfold appendD at e2
    split at e2
    · rename_i o1 d1 d' hρ
      split at e2
      · rename_i s1 fs
        split at e2
        · rename_i hle
          cases e2
          have st : starEach [a] S.env = (false, eval a S.env) :: starEach [] S.env := star_of e1
          refine wpAny_Expr_any (wpAny_Call_append rfl ?_ hline ?_ ?_) (inter O) rfl
          · rw [st]; rfl
          · rw [st]; rfl
          refine load_local (b := S.bx F m ρ) O.b X hρ fun v rv => ?_
          obtain ⟨fa, rfl, rfl⟩ := rv
          have pl : ∃ its, s.heap.PlainList fa its := by
            have := X.fr
            cases hs : σ with
            | none => rw [hs] at this; exact nomatch (show some fa = none from this)
            | some ds =>
              rw [hs] at this
              obtain ⟨a', vs, ea, p, _⟩ := this
              cases ea
              exact ⟨_, p⟩
          obtain ⟨its, n, ho⟩ := pl
          refine ⟨fa, its, rfl, ⟨_, n, ho, rfl, rfl, rfl⟩, ?_⟩
          refine exp O e1 X fun v h₁ t₁ x₁ r₁ X₁ => ?_
          obtain ⟨a', vs, ea, p₁, r⟩ := X₁.fr
          cases ea
          have hlen := r.length
          rw [Array.length_toList] at hlen
          refine wpAny_list_append_plain p₁ (fun h₂ p₂ sb => ?_) (line4096 (by omega))
          have ex : Ex (some fa) h₁ h₂ := fun b o q n => (sb.2 b (fun e => n (by rw [e]))).trans q
          have X₂ := X₁.frames (σ' := some (fs ++ [d'])) sb ⟨fa, _, rfl, p₂, by rw [Array.toList_push]; exact (r.ex ex).append (.cons (Rep.ex r₁ ex) .nil)⟩
          exact h _ _ _ _ _ (ExL.of_ex (x₁.trans ex)) X₂ rfl
        · cases e2
      · cases e2
    · cases e2
  · cases q

theorem sS_del {x : Str} {xp : Pos} {i : Expr} {p pos : Pos} {ρ : Loc} {σ : St} :
    S.S (exec (.Delete [.Subscript (.Name x xp) i p] pos) S.env) (exS S.cx (.Delete [.Subscript (.Name x xp) i p] pos) ρ σ) ρ σ := by
  intro fl ρ' σ' q F m s Q E X h
  rw [oDel] at q
  simp only [Option.bind_eq_some_iff, Option.map_eq_some_iff] at q
  obtain ⟨⟨d, σ₁⟩, e1, σ₂, e2, e3⟩ := q
  cases e3
  dsimp only at e2
  unfold popD at e2
  split at e2
  · rename_i o1 d1 k hρ
    split at e2
    · rename_i s1 fs
      split at e2
      · rename_i hle
        cases e2
        refine wpAny_Delete (wpAny_deleteEach_cons (wpAny_delete_Subscript ?_))
        refine load_local (b := S.bx F m ρ) O.b X hρ fun v rv => ?_
        obtain ⟨fa, rfl, rfl⟩ := rv
        refine exp O e1 X fun v h₁ t₁ x₁ r₁ X₁ => ?_
        cases r₁
        obtain ⟨a', vs, ea, p₁, r⟩ := X₁.fr
        cases ea
        have hlen := r.length
        rw [Array.length_toList] at hlen
        refine wpAny_delItem_plain p₁ (k := k.toNat) ?_ (idx_ok hle.1 (by omega)) (fun h₂ p₂ sb => ?_) (line4096 (by omega))
        · unfold Builtin.List.listFitsIndex
          simp only [Bool.and_eq_true, decide_eq_true_eq]
          omega
        have ex : Ex (some fa) h₁ h₂ := fun b o q n => (sb.2 b (fun e => n (by rw [e]))).trans q
        have hdl : fs.dropLast = fs.eraseIdx k.toNat := by
          exact drop_erase (by omega)
        have X₂ := X₁.frames (σ' := some fs.dropLast) sb ⟨fa, _, rfl, p₂, by
          rw [hdl]
          have := (r.ex ex).erase k.toNat
          simpa using this⟩
        exact wpAny_deleteEach_nil (h _ _ _ _ _ (ExL.of_ex (x₁.trans ex)) X₂ rfl)
      · cases e2
    · cases e2
  · cases e2

theorem sS_while {t : Expr} {x : List Stmt} {pos : Pos} {ρ : Loc} {σ : St} (hx : ∀ ρ σ, S.S (execs x S.env) (exSs S.cx x ρ σ) ρ σ) :
    S.S (exec (.While t x [] pos) S.env) (exS S.cx (.While t x [] pos) ρ σ) ρ σ := by
  intro fl ρ' σ' q F m s Q E X h
  rw [oWhile] at q
  refine wpAny_While ?_
  refine codeAny_whileLoop (fun n s' => ∃ ρ₁ σ₁ F₁ m₁ h₁ tk, s' = { s with heap := h₁, toks := tk } ∧ ExL S.L F F₁ s.heap h₁ ∧ Fx S.cx.sc S.h₀ S.L F₁ m₁ ρ₁ σ₁ h₁ ∧ whileD (evT S.cx · t) (exSs S.cx x) n ρ₁ σ₁ = some (fl, ρ', σ')) ?_ S.cx.N
    ⟨ρ, σ, F, m, s.heap, s.toks, rfl, ExL.refl, X, q⟩
  rintro n s' ⟨ρ₁, σ₁, F₁, m₁, h₁, tk, rfl, x₁, X₁, e⟩
  cases n with
  | zero => rw [whileD] at e; cases e
  | succ n =>
    rw [whileD] at e
    simp only [Option.bind_eq_some_iff] at e
    obtain ⟨⟨c, σ₂⟩, e1, e2⟩ := e
    refine tst O e1 X₁ fun h₂ t₂ x₂ X₂ => ?_
    have x₂' := x₁.trans (ExL.of_ex x₂)
    cases c with
    | true =>
      dsimp only at e2
      simp only [if_true, Option.bind_eq_some_iff] at e2
      obtain ⟨⟨f, ρ₃, σ₃⟩, e3, e4⟩ := e2
      simp only [if_true]
      refine hx ρ₁ σ₂ f ρ₃ σ₃ e3 F₁ m₁ _ _ _ X₂ fun g F₃ m₃ h₃ t₃ x₃ X₃ r₃ => ?_
      dsimp only at e4
      cases f with
      | next =>
        have : g = .next := r₃
        subst this
        exact ⟨n, Nat.lt_succ_self n, ρ₃, σ₃, F₃, m₃, h₃, t₃, rfl, x₂'.trans x₃, X₃, e4⟩
      | ret d =>
        cases e4
        obtain ⟨v, rfl, rv⟩ := r₃
        exact h _ _ _ _ _ (x₂'.trans x₃) X₃ ⟨v, rfl, rv⟩
    | false =>
      dsimp only at e2
      simp only [Bool.false_eq_true, if_false] at e2 ⊢
      cases e2
      exact wpAny_execs_nil (h _ _ _ _ _ x₂' X₂ rfl)

theorem folded_of {cx : Cx} {ρ : Loc} {σ : St} {r : D × St} {e : Expr} {env : Env} (h : evE cx ρ e σ = some r) : ∀ x, foldedSetIterable e env x = pure x := by
  intro x
  cases e <;> first | rfl | exact nomatch (show (none : Option (D × St)) = some r from h)

theorem sS_for {ts : List Expr} {k : Nat} {p : Pos} {it : Expr} {x : List Stmt} {pos : Pos} {ρ : Loc} {σ : St} (hx : ∀ ρ σ, S.S (execs x S.env) (exSs S.cx x ρ σ) ρ σ) :
    S.S (exec (.For (.Tuple ts k p) it x [] pos) S.env) (exS S.cx (.For (.Tuple ts k p) it x [] pos) ρ σ) ρ σ := by
  intro fl ρ' σ' q F m s Q E X h
  rw [oFor] at q
  simp only [Option.bind_eq_some_iff] at q
  obtain ⟨⟨d, σ₁⟩, e1, ds, e2, e3⟩ := q
  refine wpAny_For (exp O e1 X fun v h₁ t₁ x₁ r₁ X₁ => ?_) (folded_of O e1)
  dsimp only at e2 e3
  unfold listOf at e2
  split at e2
  · cases e2
    cases r₁ with | list ho hc hd hn r => ?_
    rename_i l o vs n
    refine wpAny_pyIter_list ⟨_, ho, hc, _, hd⟩ ?_
    have hnew : h₁.get? h₁.objs.size = none := Heap.get?_none_of_le (Nat.le_refl _)
    have keep : ∀ b o, h₁.get? b = some o → (h₁.push { cls := .type "list_iterator", data := .fields #[.ref l, .int 0 0] }).get? b = some o := fun b o q => Heap.get?_push_of_some _ q
    have hI0 : S.h₀.get? h₁.objs.size = none := by
      cases hq : S.h₀.get? h₁.objs.size with
      | none => rfl
      | some o => rw [X₁.base _ _ hq] at hnew; cases hnew
    have hIL : h₁.objs.size ≠ S.L := by
      obtain ⟨o, _, _, ho, _⟩ := X₁.ns
      exact Nat.ne_of_gt (Heap.lt_size ho)
    have hlL : l ≠ S.L := fun e => by
      subst e
      exact Ns.notGood X₁.ns ho (.inl ⟨_, _, hd⟩)
    have hlI : l ≠ h₁.objs.size := Nat.ne_of_lt (Heap.lt_size ho)
    have hold : ∀ b o, s.heap.get? b = some o → F ≠ some b → b ≠ h₁.objs.size := fun b o q n e => by
      have := x₁ b o q n
      rw [e, hnew] at this
      cases this
    refine codeAny_forLoop_any (fun n s' => ∃ i ρ₁ σ₁ F₁ m₁ h₂ tk, s' = { s with heap := h₂, toks := tk } ∧ n = ds.length - i ∧ i ≤ ds.length ∧ h₂.IsListIter h₁.objs.size l i ∧ h₂.get? l = some o ∧ F₁ ≠ some l ∧ F₁ ≠ some h₁.objs.size ∧
      RepL F₁ h₂ vs.toList ds ∧ ExL S.L F F₁ s.heap h₂ ∧ Fx S.cx.sc S.h₀ S.L F₁ m₁ ρ₁ σ₁ h₂ ∧ forD (bindTup S.cx ts) (exSs S.cx x) (ds.drop i) ρ₁ σ₁ = some (fl, ρ', σ')) ?_ ds.length
      ⟨0, ρ, σ₁, F, m, _, _, rfl, rfl, Nat.zero_le _, ⟨_, Heap.get?_push_size _ rfl, rfl, rfl⟩, keep _ _ ho, hn, X₁.fr.fresh, r.ex Ex.push, (ExL.of_ex x₁).trans (ExL.of_ex Ex.push), X₁.ex Ex.push (X₁.fr.keeps keep), by simpa using e3⟩
    rintro n s' ⟨i, ρ₂, σ₂, F₂, m₂, h₂, tk, rfl, rfl, hi, hit, hl, hFl, hFI, rl, x₂, X₂, e⟩
    have hgI : ∀ o, h₂.get? h₁.objs.size = some o → ¬ Good o := by
      intro o' ho'
      obtain ⟨oi, hoi, hci, hdi⟩ := hit
      rw [ho'] at hoi
      cases hoi
      rintro (⟨vs, n, e⟩ | ⟨e, _⟩)
      · rw [hdi] at e; cases e
      · rw [hci] at e; exact absurd (Value.type.inj e) (by decide)
    cases hds : ds[i]? with
    | none =>
      have hle : ds.length ≤ i := by
        rcases Nat.lt_or_ge i ds.length with q | q
        · rw [List.getElem?_eq_getElem q] at hds; cases hds
        · exact q
      rw [List.drop_eq_nil_of_le hle] at e
      rw [forD] at e
      cases e
      have hnone : vs[i]? = none := by
        have := rl.length
        rw [Array.length_toList] at this
        exact Array.getElem?_eq_none (by omega)
      refine wpAny_pyNext_list_end O.hd hit ⟨_, hl, hc, _, hd⟩ hnone fun h₃ eb => ?_
      have X₃ := X₂.other eb hgI hI0 hIL
      refine wpAny_execs_nil (h _ _ m₂ _ _ ⟨fun b o q n nF => ?_, x₂.2⟩ X₃ rfl)
      have := x₂.1 b o q n nF
      exact ⟨eb b o (hold b o q nF) this.1, this.2⟩
    | some d₁ =>
      have hlt : i < ds.length := lt_of_get hds
      have hdrop : ds.drop i = d₁ :: ds.drop (i + 1) := by
        rw [List.drop_eq_getElem_cons hlt]
        rw [List.getElem?_eq_getElem hlt] at hds
        cases hds
        rfl
      rw [hdrop] at e
      obtain ⟨v, hv, rv⟩ := rl.get hds
      cases d₁ with
      | tuple es =>
        rw [forD] at e
        simp only [Option.bind_eq_some_iff] at e
        obtain ⟨ρ₃, e4, ⟨f, ρ₄, σ₄⟩, e5, e6⟩ := e
        refine wpAny_pyNext_list_item hit ⟨_, hl, hc, _, hd⟩ (arr_get hv) fun h₃ hit₃ sb => ?_
        have X₃ := X₂.other sb.extBut hgI hI0 hIL
        have gk := same_good sb hgI
        have rv₃ : Rep F₂ h₃ v (.tuple es) := rv.good fun b o q g n => ⟨gk b o q g, n⟩
        have rl₃ : RepL F₂ h₃ vs.toList ds := rl.good fun b o q g n => ⟨gk b o q g, n⟩
        have hl₃ : h₃.get? l = some o := (sb.2 l hlI).trans hl
        have hvr : ∃ T, v = .ref T := by cases rv₃; exact ⟨_, rfl⟩
        obtain ⟨T, rfl⟩ := hvr
        refine wpAny_letOwnedTupleGo_listiter hit₃ ?_
        refine asgT_sound O e4 X₃ rv₃ fun m₄ h₄ t₄ x₄ X₄ => ?_
        refine hx ρ₃ σ₂ f ρ₄ σ₄ e5 F₂ m₄ _ _ _ X₄ fun g F₅ m₅ h₅ t₅ x₅ X₅ r₅ => ?_
        have x₄₅ := x₄.trans x₅
        have x₃ : ExL S.L F F₂ s.heap h₃ := ⟨fun b o q n nF => by
          have := x₂.1 b o q n nF
          exact ⟨(sb.2 b (hold b o q nF)).trans this.1, this.2⟩, x₂.2⟩
        dsimp only at e6
        cases f with
        | next =>
          have : g = .next := r₅
          subst this
          have kl := x₄₅.1 l _ hl₃ hlL hFl
          obtain ⟨oi, hoi, hci⟩ := hit₃
          have kI := x₄₅.1 _ _ hoi hIL hFI
          refine ⟨ds.length - (i + 1), by omega, i + 1, ρ₄, σ₄, F₅, m₅, h₅, t₅, rfl, rfl, hlt, ⟨oi, kI.1, hci⟩, kl.1, kl.2, kI.2, ?_, x₃.trans x₄₅, X₅, e6⟩
          refine rl₃.good fun b o q g n => x₄₅.1 b o q (fun e => ?_) n
          subst e
          exact Ns.notGood X₃.ns q g
        | ret d =>
          cases e6
          obtain ⟨v, rfl, rv⟩ := r₅
          exact h _ _ _ _ _ (x₃.trans x₄₅) X₅ ⟨v, rfl, rv⟩
      | _ => rw [forD] at e <;> first | cases e | simp
  · cases e2
end
end Zp
end

section
namespace Zp
open PySem PySem.Calls PyProof.Rows

section
variable {S : Sx} (O : S.Ok)
include O

theorem noS {t : Sem Flow} {r : Res} {ρ : Loc} {σ : St} (h : r = none) : S.S t r ρ σ := by
  intro fl ρ' σ' q; rw [h] at q; cases q

theorem sS_assign {ts : List Expr} {e : Expr} {pos : Pos} {ρ : Loc} {σ : St} : S.S (exec (.Assign ts e pos) S.env) (exS S.cx (.Assign ts e pos) ρ σ) ρ σ := by
  cases ts with
  | nil => exact noS O rfl
  | cons t r =>
    cases r with
    | cons _ _ => exact noS O rfl
    | nil =>
      cases t with
      | Name x p => exact sS_asgn O
      | Tuple ts k p => exact sS_asgT O
      | _ => exact noS O rfl

theorem sS_ret' {e : Option Expr} {pos : Pos} {ρ : Loc} {σ : St} : S.S (exec (.Return e pos) S.env) (exS S.cx (.Return e pos) ρ σ) ρ σ := by
  cases e with
  | none => exact noS O rfl
  | some e => exact sS_ret O

theorem sS_while' {t : Expr} {x y : List Stmt} {pos : Pos} {ρ : Loc} {σ : St} (hx : ∀ ρ σ, S.S (execs x S.env) (exSs S.cx x ρ σ) ρ σ) :
    S.S (exec (.While t x y pos) S.env) (exS S.cx (.While t x y pos) ρ σ) ρ σ := by
  cases y with
  | nil => exact sS_while O hx
  | cons _ _ => exact noS O rfl

theorem sS_for' {t it : Expr} {x y : List Stmt} {pos : Pos} {ρ : Loc} {σ : St} (hx : ∀ ρ σ, S.S (execs x S.env) (exSs S.cx x ρ σ) ρ σ) :
    S.S (exec (.For t it x y pos) S.env) (exS S.cx (.For t it x y pos) ρ σ) ρ σ := by
  cases y with
  | nil =>
    cases t with
    | Tuple ts k p => exact sS_for O hx
    | _ => exact noS O rfl
  | cons _ _ => exact noS O rfl

theorem sS_expr {e : Expr} {pos : Pos} {ρ : Loc} {σ : St} : S.S (exec (.Expr e pos) S.env) (exS S.cx (.Expr e pos) ρ σ) ρ σ := by
  cases e with
  | Call f args kws p =>
    cases kws with
    | cons _ _ => exact noS O rfl
    | nil =>
      cases args with
      | nil => exact noS O rfl
      | cons a r =>
        cases r with
        | cons _ _ => exact noS O rfl
        | nil =>
          cases f with
          | Attribute v m ap =>
            cases v with
            | Name x xp => exact sS_app O
            | _ => exact noS O rfl
          | _ => exact noS O rfl
  | _ => exact noS O rfl

theorem sS_del' {ts : List Expr} {pos : Pos} {ρ : Loc} {σ : St} : S.S (exec (.Delete ts pos) S.env) (exS S.cx (.Delete ts pos) ρ σ) ρ σ := by
  cases ts with
  | nil => exact noS O rfl
  | cons t r =>
    cases r with
    | cons _ _ => exact noS O rfl
    | nil =>
      cases t with
      | Subscript v i p =>
        cases v with
        | Name x xp => exact sS_del O
        | _ => exact noS O rfl
      | _ => exact noS O rfl
end

mutual
theorem exS_sound {S : Sx} (O : S.Ok) : ∀ (st : Stmt) (ρ : Loc) (σ : St), S.S (exec st S.env) (exS S.cx st ρ σ) ρ σ
  | .Return .., _, _ => sS_ret' O
  | .Assign .., _, _ => sS_assign O
  | .If _ x y _, _, _ => sS_if O (exSs_sound O x) (exSs_sound O y)
  | .While _ x _ _, _, _ => sS_while' O (exSs_sound O x)
  | .For _ _ x _ _, _, _ => sS_for' O (exSs_sound O x)
  | .Expr .., _, _ => sS_expr O
  | .Delete .., _, _ => sS_del' O
  | .FunctionDef .., _, _ => noS O rfl
  | .AsyncFunctionDef .., _, _ => noS O rfl
  | .ClassDef .., _, _ => noS O rfl
  | .TypeAlias .., _, _ => noS O rfl
  | .AugAssign .., _, _ => noS O rfl
  | .AnnAssign .., _, _ => noS O rfl
  | .AsyncFor .., _, _ => noS O rfl
  | .With .., _, _ => noS O rfl
  | .AsyncWith .., _, _ => noS O rfl
  | .Match .., _, _ => noS O rfl
  | .Raise .., _, _ => noS O rfl
  | .Try .., _, _ => noS O rfl
  | .TryStar .., _, _ => noS O rfl
  | .Assert .., _, _ => noS O rfl
  | .Import .., _, _ => noS O rfl
  | .ImportFrom .., _, _ => noS O rfl
  | .Global .., _, _ => noS O rfl
  | .Nonlocal .., _, _ => noS O rfl
  | .Pass .., _, _ => noS O rfl
  | .Break .., _, _ => noS O rfl
  | .Continue .., _, _ => noS O rfl
theorem exSs_sound {S : Sx} (O : S.Ok) : ∀ (st : List Stmt) (ρ : Loc) (σ : St), S.S (execs st S.env) (exSs S.cx st ρ σ) ρ σ
  | [], _, _ => sSs_nil O
  | s :: r, _, _ => sSs_cons O (exS_sound O s) (exSs_sound O r)
end

/-! Calls of the text's own defs. -/

structure FnAt (h₀ : Heap) (fa : Addr) (fn : Fn) : Prop where
  ex : ∃ o fd, h₀.get? fa = some o ∧ o.data = .func fd ∧ h₀.CodeRec fd.code fd.qualname ∧ fd.body = .stmts fn.body ∧ fd.scope = fn.sc ∧ fd.globals = mainGlobals ∧ fd.builtins = builtinsNs ∧
    ∀ (s : Shared) (vs : List Value), vs.length = fn.params.length → BindsTo s fd ⟨vs, []⟩ (fn.params.zip vs)
  kind : fn.sc.kind = .function
  co : fn.sc.isCoroutine = false
  gen : fn.sc.isGenerator = false
  cell : ∀ x ∈ fn.sc.names, x.2 ≠ .cell
  loc : ∀ x ∈ fn.params, fn.sc.names.lookup x = some .local
  nd : fn.params.Nodup
  nb : ∀ x ∈ fn.params, x ≠ Str.ofString "__debug__"

theorem bindP_len : ∀ {xs : List Str} {ds : List D} {ρ : Loc}, bindP xs ds = some ρ → xs.length = ds.length
  | [], [], _, _ => rfl
  | [], _ :: _, _, q => by cases q
  | _ :: _, [], _, q => by cases q
  | x :: xs, d :: ds, _, q => by
    rw [bindP] at q
    simp only [Option.map_eq_some_iff] at q
    obtain ⟨ρ, e, _⟩ := q
    simp [bindP_len e]

theorem zip_lookup_none : ∀ {xs : List Str} {vs : List Value} {y : Str}, y ∉ xs → (xs.zip vs).reverse.lookup y = none
  | xs, vs, y, h => by
    rw [List.lookup_eq_none_iff]
    intro p hp
    have := List.of_mem_zip (List.mem_reverse.mp hp)
    simp only [ne_eq, bne_iff_ne]
    intro e
    exact h (e ▸ this.1)

theorem lookup_append_some {y : Str} {v : Value} : ∀ {l r : List (Str × Value)}, l.lookup y = some v → (l ++ r).lookup y = some v
  | [], _, h => by cases h
  | p :: l, r, h => by
    rw [List.cons_append, List.lookup_cons] at *
    split at h
    · exact h
    · exact lookup_append_some h
theorem lookup_append_none {y : Str} : ∀ {l r : List (Str × Value)}, l.lookup y = none → (l ++ r).lookup y = r.lookup y
  | [], _, _ => rfl
  | p :: l, r, h => by
    rw [List.cons_append, List.lookup_cons] at *
    split at h
    · cases h
    · exact lookup_append_none h

theorem bindP_loc {F : Option Addr} {h : Heap} : ∀ {xs : List Str} {ds : List D} {vs : List Value} {ρ : Loc}, xs.Nodup → bindP xs ds = some ρ → RepDL F h vs ds →
    ∀ y d, ρ y = some d → ∃ v, (xs.zip vs).reverse.lookup y = some v ∧ RepD F h v d
  | [], [], _, _, _, q, _, _, _, e => by cases q; cases e
  | [], _ :: _, _, _, _, q, _, _, _, _ => by cases q
  | _ :: _, [], _, _, _, q, _, _, _, _ => by cases q
  | x :: xs, d :: ds, _, _, nd, q, .cons (v := v) (vs := vs) r rs, y, e, hy => by
    rw [bindP] at q
    simp only [Option.map_eq_some_iff] at q
    obtain ⟨ρ, e1, rfl⟩ := q
    rw [List.nodup_cons] at nd
    unfold setL at hy
    rw [List.zip_cons_cons, List.reverse_cons]
    split at hy
    · rename_i hyx
      subst hyx
      cases hy
      refine ⟨v, ?_, r⟩
      rw [lookup_append_none (zip_lookup_none nd.1)]
      simp
    · obtain ⟨v', h1, h2⟩ := bindP_loc nd.2 e1 rs y e hy
      exact ⟨v', lookup_append_some h1, h2⟩

theorem bindP_dom : ∀ {xs : List Str} {ds : List D} {ρ : Loc}, bindP xs ds = some ρ → ∀ y d, ρ y = some d → y ∈ xs
  | [], [], _, q, _, _, e => by cases q; cases e
  | [], _ :: _, _, q, _, _, _ => by cases q
  | _ :: _, [], _, q, _, _, _ => by cases q
  | x :: xs, d :: ds, _, q, y, e, hy => by
    rw [bindP] at q
    simp only [Option.map_eq_some_iff] at q
    obtain ⟨ρ, e1, rfl⟩ := q
    unfold setL at hy
    split at hy
    · rename_i h; subst h; exact .head _
    · exact .tail _ (bindP_dom e1 y e hy)

theorem zip_mem {xs : List Str} {vs : List Value} {p : Str × Value} (h : p ∈ xs.zip vs) : p.1 ∈ xs := (List.of_mem_zip h).1

theorem hasFr_none {h : Heap} : ∀ {vs : List Value} {ds : List D}, RepDL none h vs ds → hasFr ds = false
  | _, _, .nil => rfl
  | _, _, .cons (d := .dat _) _ rs => by rw [hasFr]; exact hasFr_none rs; simp
  | _, _, .cons (d := .fr) r _ => by obtain ⟨a, e, _⟩ := r; cases e
  | _, _, .cons (d := .ty _) _ rs => by rw [hasFr]; exact hasFr_none rs; simp
  | _, _, .cons (d := .sl _) _ rs => by rw [hasFr]; exact hasFr_none rs; simp

theorem fn_sound {prog : Program} {w : World} {A : Around} {h₀ : Heap} {mg mb : Str → Option Value} {N : Nat} {call : Str → List D → St → Option (PyData × St)} {fn : Fn} {fa : Addr} (G : Glo h₀ mg mb) (at_ : FnAt h₀ fa fn)
    (C : ∀ env, CallOk prog w (A.deeper env) h₀ mg call) (hd : A.handled = none) (hu : A.units + 70 < cLine) (hroom : A.depth < recursionLimit)
    {ds : List D} {σ σ' : St} {d : PyData} (q : runFn N call fn ds σ = some (d, σ')) {F : Option Addr} {vs : List Value} {s : Shared} {Q E : Value → Shared → Prop} (base : ∀ b o, h₀.get? b = some o → s.heap.get? b = some o)
    (f0 : ∀ a, F = some a → h₀.get? a = none) (r : RepDL F s.heap vs ds) (fr : FrOk F σ s.heap)
    (h : ∀ v h' tk', Ex F s.heap h' → Rep F h' v d → FrOk F σ' h' → Q v { s with heap := h', toks := tk' }) : wpAny (model prog w) A (PySem.call (.ref fa) vs) Q E s := by
  unfold runFn at q
  split at q
  · simp only [Option.bind_eq_some_iff] at q
    obtain ⟨ρ, e1, e2⟩ := q
    obtain ⟨⟨o, fd, ho, hdat, hcd, hbody, hsc, hgl, hbu, hbind⟩, kind, co, gen, cell, loc, nd, nb⟩ := at_
    have hlen : vs.length = fn.params.length := by rw [r.length, bindP_len e1]
    refine wpAny_call (codeAny_call_def hroom (base _ _ ho) hdat (G.lim.keeps base) (hcd.keeps base) hbody (hbind s vs hlen) (by rw [hsc]; exact cell) ?_ (fun h₁ ns keep => ?_) (by rw [hsc]; exact co) (by rw [hsc]; exact gen) (by rw [hsc]; exact kind))
    · intro x hx
      rw [hsc]; exact loc _ (zip_mem hx)
    have hnew : s.heap.get? s.heap.objs.size = none := Heap.get?_none_of_le (Nat.le_refl _)
    have O : (Sx.mk prog w (A.deeper (callEnv fd s.heap.objs.size fa)) h₀ mg mb s.heap.objs.size (callEnv fd s.heap.objs.size fa) ⟨fn.sc, call, N⟩).Ok := {
      G := G
      env := ⟨hsc, kind, rfl, hgl, hbu⟩
      call := C _
      u := by show A.units + 3 + 64 < cLine; omega
      hd := hd }
    have X : Fx fn.sc h₀ s.heap.objs.size F (fun x => (fn.params.zip vs).reverse.lookup x) ρ σ h₁ := {
      base := fun b o q => keep b o (base b o q)
      f0 := f0
      l0 := by
        cases hq : h₀.get? s.heap.objs.size with
        | none => rfl
        | some o => rw [base _ _ hq] at hnew; cases hnew
      ns := ns
      lF := fr.fresh
      loc := bindP_loc nd e1 (r.ex (Ex.of_keeps keep))
      fr := fr.keeps keep
      dom := fun y d q => have hy := bindP_dom e1 y d q; ⟨loc y hy, nb y hy⟩ }
    have fin : ∀ F' h' v, ExL s.heap.objs.size F F' h₁ h' → Rep F' h' v d → Ex F s.heap h' ∧ Rep F h' v d := by
      intro F' h' v x rv
      refine ⟨fun b o q n => (x.1 b o (keep b o q) (Nat.ne_of_lt (Heap.lt_size q)) n).1, ?_⟩
      refine rv.mono fun b o q _ n => ⟨q, fun e => n (x.2 b e)⟩
    split at e2
    · rename_i hfr
      simp only [Option.map_eq_some_iff] at e2
      obtain ⟨⟨fl, ρ', σ''⟩, e3, e4⟩ := e2
      cases e4
      refine exSs_sound O fn.body ρ σ fl ρ' σ'' e3 F _ _ _ _ X fun f F' m' h' tk' x X' rf => ?_
      have hF : F' = F := by
        cases F with
        | none => rw [hasFr_none r] at hfr; cases hfr
        | some a => exact x.2 a rfl
      subst hF
      cases fl with
      | next =>
        have : f = .next := rf
        subst this
        have z := fin _ h' _ x Rep.none
        exact h _ _ _ z.1 z.2 X'.fr
      | ret d' =>
        obtain ⟨v, rfl, rv⟩ := rf
        have z := fin _ h' _ x rv
        exact h _ _ _ z.1 z.2 X'.fr
    · split at e2
      · simp only [Option.map_eq_some_iff] at e2
        obtain ⟨⟨fl, ρ', σ''⟩, e3, e4⟩ := e2
        cases e4
        have hF : F = none := fr
        subst hF
        refine exSs_sound O fn.body ρ none fl ρ' σ'' e3 none _ _ _ _ X fun f F' m' h' tk' x X' rf => ?_
        cases fl with
        | next =>
          have : f = .next := rf
          subst this
          have z := fin _ h' _ x Rep.none
          exact h _ _ _ z.1 z.2 rfl
        | ret d' =>
          obtain ⟨v, rfl, rv⟩ := rf
          have z := fin _ h' _ x rv
          exact h _ _ _ z.1 z.2 rfl
      · cases e2
  · cases q

/-- all defs of the text stand in h₀ -/
noncomputable def Defs (T : List Stmt) (h₀ : Heap) (mg : Str → Option Value) : Prop := ∀ f fn, theFn T f = some fn → ∃ fa, mg f = some (.ref fa) ∧ FnAt h₀ fa fn

theorem callD_ok {prog : Program} {w : World} {h₀ : Heap} {mg mb : Str → Option Value} {T : List Stmt} {N : Nat} (G : Glo h₀ mg mb) (K : Defs T h₀ mg) :
    ∀ (n : Nat) (A : Around), A.handled = none → A.units + 70 + 3 * n < cLine → A.depth + n ≤ recursionLimit → CallOk prog w A h₀ mg (callD T N n)
  | 0, _, _, _, _ => fun f ds σ d σ' q => by cases q
  | n + 1, A, hd, hu, hr => fun f ds σ d σ' q => by
    rw [callD] at q
    simp only [Option.bind_eq_some_iff] at q
    obtain ⟨fn, e1, e2⟩ := q
    obtain ⟨fa, hm, at_⟩ := K f fn e1
    obtain ⟨o, fd, ho, hdat, _⟩ := at_.ex
    refine ⟨fa, o, fd, hm, ho, hdat, fun F vs s Q E base f0 r fr h => ?_⟩
    refine fn_sound G at_ (fun env => callD_ok G K n (A.deeper env) hd ?_ ?_) hd (by omega) (by omega) e2 base f0 r fr h
    · show A.units + 3 + 70 + 3 * n < cLine
      omega
    · show A.depth + 1 + n ≤ recursionLimit
      omega
end Zp
end

section
namespace Zp
open PySem

/-! The plain things as data. -/
mutual
noncomputable def V.toD : V → PyData
  | .int n => .tuple [.str (Str.ofString "int"), .int n]
  | .bool n => .tuple [.str (Str.ofString "bool"), .int n]
  | .clo p env => .tuple [.str (Str.ofString "clo"), .int p, .list (V.toDs env)]
  | .pair a b => .tuple [.str (Str.ofString "pair"), a.toD, b.toD]
noncomputable def V.toDs : List V → List PyData
  | [] => []
  | v :: r => v.toD :: V.toDs r
end

noncomputable def ndD (k : String) (a b c : Int) : PyData := .tuple [.str (Str.ofString k), .int a, .int b, .int c]
noncomputable def Nd.toD : Nd → PyData
  | .num n => ndD "num" n 0 0
  | .boo n => ndD "bool" n 0 0
  | .ref i => ndD "ref" i 0 0
  | .lam b => ndD "lam" b 0 0
  | .bnd a b => ndD "let" a b 0
  | .app a b => ndD "app" a b 0
  | .ite a b c => ndD "if" a b c
  | .fst a => ndD "fst" a 0 0
  | .snd a => ndD "snd" a 0 0
  | .pair a b => ndD "pair" a b 0
  | .add a b => ndD "add" a b 0
  | .less a b => ndD "less" a b 0

noncomputable def optD : Option V → PyData
  | none => .none
  | some v => v.toD
noncomputable def Fm.toD (f : Fm) : PyData := .tuple [.int f.1, .list (V.toDs f.2.1), optD f.2.2]
noncomputable def frD (fs : List Fm) : List PyData := (fs.map Fm.toD).reverse

noncomputable def S.toD : S → PyData
  | .ev p env => .tuple [.str (Str.ofString "eval"), .int p, .list (V.toDs env)]
  | .back v => .tuple [.str (Str.ofString "back"), v.toD, .list []]
  | .stuck => .tuple [.str (Str.ofString "stuck"), .none, .list []]

theorem ofString_inj {a b : String} : Str.ofString a = Str.ofString b ↔ a = b := by
  refine ⟨fun h => ?_, fun h => h ▸ rfl⟩
  rw [Str.ofString_eq_toList, Str.ofString_eq_toList] at h
  have h1 := congrArg (fun s : Str => s.cps.toList) h
  simp only at h1
  have h2 : a.toList = b.toList := by
    have inj : ∀ (x y : List Char), x.map Char.toNat = y.map Char.toNat → x = y := by
      intro x
      induction x with
      | nil => intro y h; cases y <;> simp_all
      | cons c r ih =>
        intro y h
        cases y with
        | nil => simp at h
        | cons d q =>
          simp only [List.map_cons, List.cons.injEq] at h
          rw [ih q h.2]
          have : c = d := by
            have := h.1
            exact Char.ext (UInt32.toNat_inj.mp this)
          rw [this]
    exact inj _ _ h1
  exact String.toList_inj.mp h2
theorem ofString_beq {a b : String} : (Str.ofString a == Str.ofString b) = (a == b) := by
  by_cases h : a = b
  · subst h; simp
  · rw [beq_eq_false_iff_ne.mpr h, beq_eq_false_iff_ne.mpr (fun e => h (ofString_inj.mp e))]

noncomputable abbrev Text : List Stmt := PySem.Challenge.pw_sx_zprincipal_5.main.body

noncomputable def fBegin : { f : Fn // (Text[1]?).bind fnOfStmt = some (Str.ofString "begin_node", f) } := ⟨_, rfl⟩
noncomputable def fResume : { f : Fn // (Text[2]?).bind fnOfStmt = some (Str.ofString "resume_frame", f) } := ⟨_, rfl⟩
noncomputable def fRun : { f : Fn // (Text[3]?).bind fnOfStmt = some (Str.ofString "run", f) } := ⟨_, rfl⟩
noncomputable def fLeaf : { f : Fn // (Text[5]?).bind fnOfStmt = some (Str.ofString "_law_leaf", f) } := ⟨_, rfl⟩
noncomputable def fSides : { f : Fn // (Text[6]?).bind fnOfStmt = some (Str.ofString "_law_sides", f) } := ⟨_, rfl⟩
noncomputable def fBoth : { f : Fn // (Text[7]?).bind fnOfStmt = some (Str.ofString "_law_both", f) } := ⟨_, rfl⟩
noncomputable def fClosure : { f : Fn // (Text[8]?).bind fnOfStmt = some (Str.ofString "_law_closure", f) } := ⟨_, rfl⟩
noncomputable def fPart : { f : Fn // (Text[9]?).bind fnOfStmt = some (Str.ofString "_law_part", f) } := ⟨_, rfl⟩
noncomputable def fIf : { f : Fn // (Text[10]?).bind fnOfStmt = some (Str.ofString "_law_if", f) } := ⟨_, rfl⟩
noncomputable def fBound : { f : Fn // (Text[11]?).bind fnOfStmt = some (Str.ofString "_law_bound", f) } := ⟨_, rfl⟩
noncomputable def fPlain : { f : Fn // (Text[12]?).bind fnOfStmt = some (Str.ofString "_law_plain", f) } := ⟨_, rfl⟩
noncomputable def fCalls : { f : Fn // (Text[13]?).bind fnOfStmt = some (Str.ofString "_law_calls", f) } := ⟨_, rfl⟩
noncomputable def fEnd : { f : Fn // (Text[14]?).bind fnOfStmt = some (Str.ofString "_law_end", f) } := ⟨_, rfl⟩
noncomputable def fLaw : { f : Fn // (Text[15]?).bind fnOfStmt = some (Str.ofString "law", f) } := ⟨_, rfl⟩

end Zp
end

section
namespace Zp
open PySem

/-! The interpreter's equations, by rfl (so that simp goes from the head on, without proofs). -/

theorem lookup_nil' {α : Type} {x : Str} : List.lookup x ([] : List (Str × α)) = none := rfl
theorem lookup_cons' {α : Type} {x y : Str} {b : α} {r : List (Str × α)} : List.lookup x ((y, b) :: r) = if x = y then some b else List.lookup x r := by
  rw [List.lookup_cons]
  by_cases h : x = y
  · subst h; simp
  · rw [if_neg h, beq_eq_false_iff_ne.mpr h]

section
variable {cx : Cx} {ρ : Loc} {σ : St}
theorem qInt {i : Int} {k : Nat} {p : Pos} : evE cx ρ (.Constant (.int i) k p) σ = some (.dat (.int i), σ) := rfl
theorem qStr {i : Str} {k : Nat} {p : Pos} : evE cx ρ (.Constant (.str i) k p) σ = some (.dat (.str i), σ) := rfl
theorem qBool {i : Bool} {k : Nat} {p : Pos} : evE cx ρ (.Constant (.bool i) k p) σ = some (.dat (.bool i), σ) := rfl
theorem qNone {k : Nat} {p : Pos} : evE cx ρ (.Constant .none k p) σ = some (.dat .none, σ) := rfl
theorem qName {x : Str} {p : Pos} : evE cx ρ (.Name x p) σ = match ρ x with
    | some d => some (d, σ)
    | none => match cx.isInt x with
      | true => some (.ty "int", σ)
      | false => none := rfl
theorem qTuple {es : List Expr} {k : Nat} {p : Pos} : evE cx ρ (.Tuple es k p) σ = match evEs cx ρ es σ with
    | some (ds, σ₁) => (match small es with
      | true => (match allDat ds with
        | some xs => some (.dat (.tuple xs), σ₁)
        | none => none)
      | false => none)
    | none => none := rfl
theorem qList {es : List Expr} {p : Pos} : evE cx ρ (.List es p) σ = match evEs cx ρ es σ with
    | some (ds, σ₁) => (match small es with
      | true => (match allDat ds with
        | some xs => some (.dat (.list xs), σ₁)
        | none => none)
      | false => none)
    | none => none := rfl
theorem qBin {l r : Expr} {op : Operator} {p : Pos} : evE cx ρ (.BinOp l op r p) σ = match evE cx ρ l σ with
    | some (a, σ₁) => (match evE cx ρ r σ₁ with
      | some (b, σ₂) => (match binDD op a b with | some d => some (.dat d, σ₂) | none => none)
      | none => none)
    | none => none := rfl
theorem qNeg {x : Expr} {p : Pos} : evE cx ρ (.UnaryOp .USub x p) σ = match evE cx ρ x σ with
    | some (a, σ₁) => (match negD a with | some d => some (d, σ₁) | none => none)
    | none => none := rfl
theorem qIfExp {t x y : Expr} {p : Pos} : evE cx ρ (.IfExp t x y p) σ = match evT cx ρ t σ with
    | some (true, σ₁) => evE cx ρ x σ₁
    | some (false, σ₁) => evE cx ρ y σ₁
    | none => none := rfl
theorem qCall {f : Str} {p q : Pos} {a : Expr} {as : List Expr} : evE cx ρ (.Call (.Name f p) (a :: as) [] q) σ = match evEs cx ρ (a :: as) σ with
    | some (ds, σ₁) => cx.callAny f ds σ₁
    | none => none := rfl
theorem qSl0 {p : Pos} : evE cx ρ (.Slice none none none p) σ = some (.sl none, σ) := rfl
theorem qSl1 {u : Expr} {p : Pos} : evE cx ρ (.Slice none (some u) none p) σ = match evE cx ρ u σ with
    | some (k, σ₁) => (match slOf k with | some e => some (e, σ₁) | none => none)
    | none => none := rfl
theorem qSub {v i : Expr} {p : Pos} : evE cx ρ (.Subscript v i p) σ = match evE cx ρ v σ with
    | some (a, σ₁) => (match evE cx ρ i σ₁ with
      | some (b, σ₂) => (match subD σ₂ a b with | some d => some (.dat d, σ₂) | none => none)
      | none => none)
    | none => none := rfl
theorem qEs0 : evEs cx ρ [] σ = some ([], σ) := rfl
theorem qEs1 {e : Expr} {r : List Expr} : evEs cx ρ (e :: r) σ = match evE cx ρ e σ with
    | some (a, σ₁) => (match evEs cx ρ r σ₁ with
      | some (bs, σ₂) => some (a :: bs, σ₂)
      | none => none)
    | none => none := rfl
theorem qCmp {l r : Expr} {op : CmpOp} {p : Pos} : evT cx ρ (.Compare l [op] [r] p) σ = match evE cx ρ l σ with
    | some (a, σ₁) => (match evE cx ρ r σ₁ with
      | some (b, σ₂) => (match cmpD σ₂ op a b with | some c => some (c, σ₂) | none => none)
      | none => none)
    | none => none := rfl
theorem qNot {x : Expr} {p : Pos} : evT cx ρ (.UnaryOp .Not x p) σ = match evT cx ρ x σ with
    | some (c, σ₁) => some (!c, σ₁)
    | none => none := rfl
theorem qBoolOp {op : BoolOp} {vs : List Expr} {p : Pos} : evT cx ρ (.BoolOp op vs p) σ = evB cx ρ op vs σ := rfl
theorem qAnd0 : evB cx ρ .And [] σ = some (true, σ) := rfl
theorem qOr0 : evB cx ρ .Or [] σ = some (false, σ) := rfl
theorem qAnd1 {x : Expr} {r : List Expr} : evB cx ρ .And (x :: r) σ = match evT cx ρ x σ with
    | some (true, σ₁) => evB cx ρ .And r σ₁
    | some (false, σ₁) => some (false, σ₁)
    | none => none := rfl
theorem qOr1 {x : Expr} {r : List Expr} : evB cx ρ .Or (x :: r) σ = match evT cx ρ x σ with
    | some (true, σ₁) => some (true, σ₁)
    | some (false, σ₁) => evB cx ρ .Or r σ₁
    | none => none := rfl
theorem qRet {e : Expr} {p : Pos} : exS cx (.Return (some e) p) ρ σ = match evE cx ρ e σ with
    | some (d, σ₁) => (match retD d with | some f => some (f, ρ, σ₁) | none => none)
    | none => none := rfl
theorem qAsg {x : Str} {xp : Pos} {e : Expr} {p : Pos} : exS cx (.Assign [.Name x xp] e p) ρ σ = match cx.isLocal x with
    | true => (match frNil x e with
      | true => (match newFr σ with | some σ₁ => some (.next, setL ρ x .fr, σ₁) | none => none)
      | false => (match evE cx ρ e σ with | some (d, σ₁) => some (.next, setL ρ x d, σ₁) | none => none))
    | false => none := rfl
theorem qAsgT {ts : List Expr} {k : Nat} {xp : Pos} {e : Expr} {p : Pos} : exS cx (.Assign [.Tuple ts k xp] e p) ρ σ = match plainVal e with
    | true => (match evE cx ρ e σ with
      | some (d, σ₁) => (match tupOf d with
        | some ds => (match bindTup cx ts ds ρ with | some ρ₁ => some (.next, ρ₁, σ₁) | none => none)
        | none => none)
      | none => none)
    | false => none := rfl
theorem qIf {t : Expr} {x y : List Stmt} {p : Pos} : exS cx (.If t x y p) ρ σ = match evT cx ρ t σ with
    | some (true, σ₁) => exSs cx x ρ σ₁
    | some (false, σ₁) => exSs cx y ρ σ₁
    | none => none := rfl
theorem qWhile {t : Expr} {x : List Stmt} {p : Pos} : exS cx (.While t x [] p) ρ σ = whileD (evT cx · t) (exSs cx x) cx.N ρ σ := rfl
theorem qFor {ts : List Expr} {k : Nat} {xp : Pos} {it : Expr} {x : List Stmt} {p : Pos} : exS cx (.For (.Tuple ts k xp) it x [] p) ρ σ = match evE cx ρ it σ with
    | some (d, σ₁) => (match listOf d with
      | some ds => forD (bindTup cx ts) (exSs cx x) ds ρ σ₁
      | none => none)
    | none => none := rfl
theorem qApp {x m : Str} {xp ap p pos : Pos} {a : Expr} : exS cx (.Expr (.Call (.Attribute (.Name x xp) m ap) [a] [] pos) p) ρ σ = match isAppend m ap pos with
    | true => (match evE cx ρ a σ with
      | some (d, σ₁) => (match appendD σ₁ (ρ x) d with | some σ₂ => some (.next, ρ, σ₂) | none => none)
      | none => none)
    | false => none := rfl
theorem qApp1 {a b c d e f g : Nat} {h : Nat} : isAppend (Str.ofString "append") ⟨a, b, c, d⟩ ⟨e, f, g, h⟩ = (c == e) := rfl
theorem qDel {x : Str} {xp sp p : Pos} {i : Expr} : exS cx (.Delete [.Subscript (.Name x xp) i sp] p) ρ σ = match evE cx ρ i σ with
    | some (d, σ₁) => (match popD σ₁ (ρ x) d with | some σ₂ => some (.next, ρ, σ₂) | none => none)
    | none => none := rfl
theorem qSs0 : exSs cx [] ρ σ = some (.next, ρ, σ) := rfl
theorem qSs1 {s : Stmt} {r : List Stmt} : exSs cx (s :: r) ρ σ = match exS cx s ρ σ with
    | some (.next, ρ₁, σ₁) => exSs cx r ρ₁ σ₁
    | some (.ret d, ρ₁, σ₁) => some (.ret d, ρ₁, σ₁)
    | none => none := rfl
theorem qTup0 : bindTup cx [] [] ρ = some ρ := rfl
theorem qTup1 {x : Str} {p : Pos} {ts : List Expr} {d : PyData} {ds : List PyData} : bindTup cx (.Name x p :: ts) (d :: ds) ρ = match cx.isLocal x with
    | true => bindTup cx ts ds (setL ρ x (.dat d))
    | false => none := rfl
theorem qSet {x y : String} {d : D} : setL ρ (Str.ofString x) d (Str.ofString y) = if y = x then some d else ρ (Str.ofString y) := by
  unfold setL
  simp only [ofString_inj]
theorem qLt {a b : Int} : cmpD σ .Lt (.dat (.int a)) (.dat (.int b)) = some (decide (a < b)) := rfl
theorem qGt {a b : Int} : cmpD σ .Gt (.dat (.int a)) (.dat (.int b)) = some (decide (b < a)) := rfl
theorem qIs {a : PyData} : cmpD σ .Is (.dat a) (.dat .none) = some (isNoneD a) := rfl
theorem qIsNot {a : PyData} : cmpD σ .IsNot (.dat a) (.dat .none) = some (!isNoneD a) := rfl
theorem qIsTy : cmpD σ .Is (.ty "int") (.ty "int") = some true := rfl
theorem qEqI {a b : Int} : cmpD σ .Eq (.dat (.int a)) (.dat (.int b)) = some (decide (a = b)) := by
  have : PyData.eqv (.int a) (.int b) = decide (a = b) := by
    rw [PyData.eqv]
    by_cases h : a = b
    · subst h; simp
    · simp [h]
  show (if SeqAt.shaped (.int a) && SeqAt.shaped (.int b) then some (PyData.eqv (.int a) (.int b)) else none) = _
  rw [this]
  simp [SeqAt.shaped, PyData.canLay0, PyData.depth]
theorem qNeT {a b : List PyData} (ha : SeqAt.shaped (.tuple a) = true) (hb : SeqAt.shaped (.tuple b) = true) (h : PyData.eqv (.tuple a) (.tuple b) = true) : cmpD σ .NotEq (.dat (.tuple a)) (.dat (.tuple b)) = some false := by
  show (if SeqAt.shaped (.tuple a) && SeqAt.shaped (.tuple b) then some (!PyData.eqv (.tuple a) (.tuple b)) else none) = _
  rw [ha, hb, h]; rfl
theorem qNeL {a b : List PyData} (ha : SeqAt.shaped (.list a) = true) (hb : SeqAt.shaped (.list b) = true) (h : PyData.eqv (.list a) (.list b) = true) : cmpD σ .NotEq (.dat (.list a)) (.dat (.list b)) = some false := by
  show (if SeqAt.shaped (.list a) && SeqAt.shaped (.list b) then some (!PyData.eqv (.list a) (.list b)) else none) = _
  rw [ha, hb, h]; rfl
theorem qFrNil {fs : List PyData} (h : PyData.canLayAll0 fs = true) : cmpD (some fs) .Eq .fr (.dat (.list [])) = some fs.isEmpty := by
  show (if PyData.canLayAll0 fs then some fs.isEmpty else none) = _
  rw [h]; rfl
theorem qGetT0 {a : PyData} {r : List PyData} : subD σ (.dat (.tuple (a :: r))) (.dat (.int 0)) = some a := rfl
theorem qGetT1 {a b : PyData} {r : List PyData} : subD σ (.dat (.tuple (a :: b :: r))) (.dat (.int 1)) = some b := rfl
theorem qGetT2 {a b c : PyData} {r : List PyData} : subD σ (.dat (.tuple (a :: b :: c :: r))) (.dat (.int 2)) = some c := rfl
theorem qGetT3 {a b c d : PyData} {r : List PyData} : subD σ (.dat (.tuple (a :: b :: c :: d :: r))) (.dat (.int 3)) = some d := rfl
theorem qGetL {xs : List PyData} {k : Nat} {d : PyData} (h : k < 4096) (e : xs[k]? = some d) : subD σ (.dat (.list xs)) (.dat (.int k)) = some d := by
  show (if 0 ≤ (k : Int) ∧ (k : Int) < 4096 then xs[(k : Int).toNat]? else none) = _
  rw [if_pos (by omega), Int.toNat_natCast, e]
theorem qCut0 {xs : List PyData} (h : xs.length ≤ 4096) : subD σ (.dat (.list xs)) (.sl none) = some (.list xs) := if_pos h
theorem qCut1 {xs : List PyData} {k : Int} (h : xs.length ≤ 4096) (h0 : 0 ≤ k) : subD σ (.dat (.list xs)) (.sl (some k)) = some (.list (xs.take k.toNat)) := if_pos ⟨h, h0⟩
theorem qAddI {a b : Int} : binDD .Add (.dat (.int a)) (.dat (.int b)) = some (.int (a + b)) := rfl
theorem qSubI {a b : Int} : binDD .Sub (.dat (.int a)) (.dat (.int b)) = some (.int (a - b)) := rfl
theorem qAddL {xs ys : List PyData} (h : xs.length + ys.length ≤ 4096) : binDD .Add (.dat (.list xs)) (.dat (.list ys)) = some (.list (xs ++ ys)) := if_pos h
theorem qMod2 {a : Int} : binDD .Mod (.dat (.int a)) (.dat (.int 2)) = some (.int (a.fmod 2)) := rfl
theorem qMod3 {a : Int} : binDD .Mod (.dat (.int a)) (.dat (.int 3)) = some (.int (a.fmod 3)) := rfl
theorem qMod4 {a : Int} : binDD .Mod (.dat (.int a)) (.dat (.int 4)) = some (.int (a.fmod 4)) := rfl
theorem qMod5 {a : Int} : binDD .Mod (.dat (.int a)) (.dat (.int 5)) = some (.int (a.fmod 5)) := rfl
theorem qMod12 {a : Int} : binDD .Mod (.dat (.int a)) (.dat (.int 12)) = some (.int (a.fmod 12)) := rfl
theorem qLenL {xs : List PyData} (h : xs.length ≤ 4096) : lenD σ [.dat (.list xs)] = some (.dat (.int xs.length)) := if_pos h
theorem qLenF {fs : List PyData} (h : fs.length ≤ 4096) : lenD (some fs) [.fr] = some (.dat (.int fs.length)) := if_pos h
theorem qTypeI {i : Int} : typeD [.dat (.int i)] = some (.ty "int") := rfl
theorem qNegI {i : Int} : negD (.dat (.int i)) = some (.dat (.int (-i))) := rfl
theorem qSlI {k : Int} : slOf (.dat (.int k)) = some (.sl (some k)) := rfl
theorem qRetD {d : PyData} : retD (.dat d) = some (.ret d) := rfl
theorem qTupD {l : List PyData} : tupOf (.dat (.tuple l)) = some l := rfl
theorem qLisD {l : List PyData} : listOf (.dat (.list l)) = some l := rfl
theorem qNewFr : newFr none = some (some []) := rfl
theorem qAppF {fs : List PyData} {d : PyData} (h : fs.length ≤ 4096) : appendD (some fs) (some .fr) (.dat d) = some (some (fs ++ [d])) := if_pos h
theorem qPopF {fs : List PyData} {k : Int} (h : 0 ≤ k ∧ k < 4096 ∧ k + 1 = fs.length) : popD (some fs) (some .fr) (.dat (.int k)) = some (some fs.dropLast) := if_pos h
theorem qPV1 {v i : Expr} {p : Pos} : plainVal (.Subscript v i p) = true := rfl
theorem qPV2 {f : Expr} {a : List Expr} {k : List Keyword} {p : Pos} : plainVal (.Call f a k p) = true := rfl
theorem qNil {p : Pos} : frNil (Str.ofString "frames") (.List [] p) = true := rfl
theorem qN0 : isNoneD .none = true := rfl
theorem qN1 {l : List PyData} : isNoneD (.tuple l) = false := rfl
theorem aD0 : allDat [] = some [] := rfl
theorem aD1 {x0 : PyData} : allDat [.dat x0] = some [x0] := rfl
theorem aD2 {x0 x1 : PyData} : allDat [.dat x0, .dat x1] = some [x0, x1] := rfl
theorem aD3 {x0 x1 x2 : PyData} : allDat [.dat x0, .dat x1, .dat x2] = some [x0, x1, x2] := rfl
theorem aD4 {x0 x1 x2 x3 : PyData} : allDat [.dat x0, .dat x1, .dat x2, .dat x3] = some [x0, x1, x2, x3] := rfl
theorem aD5 {x0 x1 x2 x3 x4 : PyData} : allDat [.dat x0, .dat x1, .dat x2, .dat x3, .dat x4] = some [x0, x1, x2, x3, x4] := rfl
theorem aD6 {x0 x1 x2 x3 x4 x5 : PyData} : allDat [.dat x0, .dat x1, .dat x2, .dat x3, .dat x4, .dat x5] = some [x0, x1, x2, x3, x4, x5] := rfl
theorem aD7 {x0 x1 x2 x3 x4 x5 x6 : PyData} : allDat [.dat x0, .dat x1, .dat x2, .dat x3, .dat x4, .dat x5, .dat x6] = some [x0, x1, x2, x3, x4, x5, x6] := rfl
theorem aD8 {x0 x1 x2 x3 x4 x5 x6 x7 : PyData} : allDat [.dat x0, .dat x1, .dat x2, .dat x3, .dat x4, .dat x5, .dat x6, .dat x7] = some [x0, x1, x2, x3, x4, x5, x6, x7] := rfl
theorem aD9 {x0 x1 x2 x3 x4 x5 x6 x7 x8 : PyData} : allDat [.dat x0, .dat x1, .dat x2, .dat x3, .dat x4, .dat x5, .dat x6, .dat x7, .dat x8] = some [x0, x1, x2, x3, x4, x5, x6, x7, x8] := rfl
theorem aD10 {x0 x1 x2 x3 x4 x5 x6 x7 x8 x9 : PyData} : allDat [.dat x0, .dat x1, .dat x2, .dat x3, .dat x4, .dat x5, .dat x6, .dat x7, .dat x8, .dat x9] = some [x0, x1, x2, x3, x4, x5, x6, x7, x8, x9] := rfl
theorem aD11 {x0 x1 x2 x3 x4 x5 x6 x7 x8 x9 x10 : PyData} : allDat [.dat x0, .dat x1, .dat x2, .dat x3, .dat x4, .dat x5, .dat x6, .dat x7, .dat x8, .dat x9, .dat x10] = some [x0, x1, x2, x3, x4, x5, x6, x7, x8, x9, x10] := rfl
theorem aD12 {x0 x1 x2 x3 x4 x5 x6 x7 x8 x9 x10 x11 : PyData} : allDat [.dat x0, .dat x1, .dat x2, .dat x3, .dat x4, .dat x5, .dat x6, .dat x7, .dat x8, .dat x9, .dat x10, .dat x11] = some [x0, x1, x2, x3, x4, x5, x6, x7, x8, x9, x10, x11] := rfl
theorem sM0 : small [] = true := rfl
theorem sM1 {x0 : Expr} : small [x0] = true := rfl
theorem sM2 {x0 x1 : Expr} : small [x0, x1] = true := rfl
theorem sM3 {x0 x1 x2 : Expr} : small [x0, x1, x2] = true := rfl
theorem sM4 {x0 x1 x2 x3 : Expr} : small [x0, x1, x2, x3] = true := rfl
theorem sM5 {x0 x1 x2 x3 x4 : Expr} : small [x0, x1, x2, x3, x4] = true := rfl
theorem sM6 {x0 x1 x2 x3 x4 x5 : Expr} : small [x0, x1, x2, x3, x4, x5] = true := rfl
theorem sM7 {x0 x1 x2 x3 x4 x5 x6 : Expr} : small [x0, x1, x2, x3, x4, x5, x6] = true := rfl
theorem sM8 {x0 x1 x2 x3 x4 x5 x6 x7 : Expr} : small [x0, x1, x2, x3, x4, x5, x6, x7] = true := rfl
theorem sM9 {x0 x1 x2 x3 x4 x5 x6 x7 x8 : Expr} : small [x0, x1, x2, x3, x4, x5, x6, x7, x8] = true := rfl
theorem sM10 {x0 x1 x2 x3 x4 x5 x6 x7 x8 x9 : Expr} : small [x0, x1, x2, x3, x4, x5, x6, x7, x8, x9] = true := rfl
theorem sM11 {x0 x1 x2 x3 x4 x5 x6 x7 x8 x9 x10 : Expr} : small [x0, x1, x2, x3, x4, x5, x6, x7, x8, x9, x10] = true := rfl
theorem sM12 {x0 x1 x2 x3 x4 x5 x6 x7 x8 x9 x10 x11 : Expr} : small [x0, x1, x2, x3, x4, x5, x6, x7, x8, x9, x10, x11] = true := rfl
end
end Zp
end

section
namespace Zp
open PySem

/-! Facts on names, by rfl. -/
theorem se_nodes {ρ : Loc} {d : D} : setL ρ (Str.ofString "nodes") d (Str.ofString "nodes") = some d := rfl
theorem sn_nodes_place {ρ : Loc} {d : D} : setL ρ (Str.ofString "nodes") d (Str.ofString "place") = ρ (Str.ofString "place") := rfl
theorem sn_nodes_env {ρ : Loc} {d : D} : setL ρ (Str.ofString "nodes") d (Str.ofString "env") = ρ (Str.ofString "env") := rfl
theorem sn_nodes_frames {ρ : Loc} {d : D} : setL ρ (Str.ofString "nodes") d (Str.ofString "frames") = ρ (Str.ofString "frames") := rfl
theorem se_place {ρ : Loc} {d : D} : setL ρ (Str.ofString "place") d (Str.ofString "place") = some d := rfl
theorem sn_place_nodes {ρ : Loc} {d : D} : setL ρ (Str.ofString "place") d (Str.ofString "nodes") = ρ (Str.ofString "nodes") := rfl
theorem sn_place_env {ρ : Loc} {d : D} : setL ρ (Str.ofString "place") d (Str.ofString "env") = ρ (Str.ofString "env") := rfl
theorem sn_place_frames {ρ : Loc} {d : D} : setL ρ (Str.ofString "place") d (Str.ofString "frames") = ρ (Str.ofString "frames") := rfl
theorem se_env {ρ : Loc} {d : D} : setL ρ (Str.ofString "env") d (Str.ofString "env") = some d := rfl
theorem sn_env_nodes {ρ : Loc} {d : D} : setL ρ (Str.ofString "env") d (Str.ofString "nodes") = ρ (Str.ofString "nodes") := rfl
theorem sn_env_place {ρ : Loc} {d : D} : setL ρ (Str.ofString "env") d (Str.ofString "place") = ρ (Str.ofString "place") := rfl
theorem sn_env_frames {ρ : Loc} {d : D} : setL ρ (Str.ofString "env") d (Str.ofString "frames") = ρ (Str.ofString "frames") := rfl
theorem se_frames {ρ : Loc} {d : D} : setL ρ (Str.ofString "frames") d (Str.ofString "frames") = some d := rfl
theorem sn_frames_nodes {ρ : Loc} {d : D} : setL ρ (Str.ofString "frames") d (Str.ofString "nodes") = ρ (Str.ofString "nodes") := rfl
theorem se_node {ρ : Loc} {d : D} : setL ρ (Str.ofString "node") d (Str.ofString "node") = some d := rfl
theorem sn_node_place {ρ : Loc} {d : D} : setL ρ (Str.ofString "node") d (Str.ofString "place") = ρ (Str.ofString "place") := rfl
theorem sn_node_env {ρ : Loc} {d : D} : setL ρ (Str.ofString "node") d (Str.ofString "env") = ρ (Str.ofString "env") := rfl
theorem sn_node_frames {ρ : Loc} {d : D} : setL ρ (Str.ofString "node") d (Str.ofString "frames") = ρ (Str.ofString "frames") := rfl
theorem loBegin_node {call : Str → List D → St → Option (PyData × St)} {N : Nat} : (Cx.mk fBegin.1.sc call N).isLocal (Str.ofString "node") = true := rfl
theorem fn_node {e : Expr} : frNil (Str.ofString "node") e = false := rfl
noncomputable def bBegin : { l : List Stmt // (Text[1]?).bind fnOfStmt = some (Str.ofString "begin_node", ⟨fBegin.1.params, fBegin.1.sc, l⟩) } := ⟨_, rfl⟩
theorem eBegin : fBegin.1.body = bBegin.1 := rfl
theorem sn_nodes_value {ρ : Loc} {d : D} : setL ρ (Str.ofString "nodes") d (Str.ofString "value") = ρ (Str.ofString "value") := rfl
theorem se_value {ρ : Loc} {d : D} : setL ρ (Str.ofString "value") d (Str.ofString "value") = some d := rfl
theorem sn_value_frames {ρ : Loc} {d : D} : setL ρ (Str.ofString "value") d (Str.ofString "frames") = ρ (Str.ofString "frames") := rfl
theorem sn_place_value {ρ : Loc} {d : D} : setL ρ (Str.ofString "place") d (Str.ofString "value") = ρ (Str.ofString "value") := rfl
theorem sn_env_value {ρ : Loc} {d : D} : setL ρ (Str.ofString "env") d (Str.ofString "value") = ρ (Str.ofString "value") := rfl
theorem se_first {ρ : Loc} {d : D} : setL ρ (Str.ofString "first") d (Str.ofString "first") = some d := rfl
theorem sn_first_nodes {ρ : Loc} {d : D} : setL ρ (Str.ofString "first") d (Str.ofString "nodes") = ρ (Str.ofString "nodes") := rfl
theorem sn_first_value {ρ : Loc} {d : D} : setL ρ (Str.ofString "first") d (Str.ofString "value") = ρ (Str.ofString "value") := rfl
theorem sn_first_frames {ρ : Loc} {d : D} : setL ρ (Str.ofString "first") d (Str.ofString "frames") = ρ (Str.ofString "frames") := rfl
theorem sn_first_place {ρ : Loc} {d : D} : setL ρ (Str.ofString "first") d (Str.ofString "place") = ρ (Str.ofString "place") := rfl
theorem sn_first_env {ρ : Loc} {d : D} : setL ρ (Str.ofString "first") d (Str.ofString "env") = ρ (Str.ofString "env") := rfl
theorem sn_node_value {ρ : Loc} {d : D} : setL ρ (Str.ofString "node") d (Str.ofString "value") = ρ (Str.ofString "value") := rfl
theorem sn_node_first {ρ : Loc} {d : D} : setL ρ (Str.ofString "node") d (Str.ofString "first") = ρ (Str.ofString "first") := rfl
theorem se_kind {ρ : Loc} {d : D} : setL ρ (Str.ofString "kind") d (Str.ofString "kind") = some d := rfl
theorem sn_kind_nodes {ρ : Loc} {d : D} : setL ρ (Str.ofString "kind") d (Str.ofString "nodes") = ρ (Str.ofString "nodes") := rfl
theorem sn_kind_value {ρ : Loc} {d : D} : setL ρ (Str.ofString "kind") d (Str.ofString "value") = ρ (Str.ofString "value") := rfl
theorem sn_kind_env {ρ : Loc} {d : D} : setL ρ (Str.ofString "kind") d (Str.ofString "env") = ρ (Str.ofString "env") := rfl
theorem sn_kind_first {ρ : Loc} {d : D} : setL ρ (Str.ofString "kind") d (Str.ofString "first") = ρ (Str.ofString "first") := rfl
theorem sn_kind_node {ρ : Loc} {d : D} : setL ρ (Str.ofString "kind") d (Str.ofString "node") = ρ (Str.ofString "node") := rfl
theorem se_wanted {ρ : Loc} {d : D} : setL ρ (Str.ofString "wanted") d (Str.ofString "wanted") = some d := rfl
theorem sn_wanted_value {ρ : Loc} {d : D} : setL ρ (Str.ofString "wanted") d (Str.ofString "value") = ρ (Str.ofString "value") := rfl
theorem sn_wanted_env {ρ : Loc} {d : D} : setL ρ (Str.ofString "wanted") d (Str.ofString "env") = ρ (Str.ofString "env") := rfl
theorem sn_wanted_node {ρ : Loc} {d : D} : setL ρ (Str.ofString "wanted") d (Str.ofString "node") = ρ (Str.ofString "node") := rfl
theorem sn_wanted_kind {ρ : Loc} {d : D} : setL ρ (Str.ofString "wanted") d (Str.ofString "kind") = ρ (Str.ofString "kind") := rfl
theorem fn_kind {e : Expr} : frNil (Str.ofString "kind") e = false := rfl
theorem loResume_node {call : Str → List D → St → Option (PyData × St)} {N : Nat} : (Cx.mk fResume.1.sc call N).isLocal (Str.ofString "node") = true := rfl
theorem loResume_wanted {call : Str → List D → St → Option (PyData × St)} {N : Nat} : (Cx.mk fResume.1.sc call N).isLocal (Str.ofString "wanted") = true := rfl
theorem fn_wanted {e : Expr} : frNil (Str.ofString "wanted") e = false := rfl
theorem caResume_len {call : Str → List D → St → Option (PyData × St)} {N : Nat} {ds : List D} {σ : St} : (Cx.mk fResume.1.sc call N).callAny (Str.ofString "len") ds σ = match lenD σ ds with | some d => some (d, σ) | none => none := rfl
noncomputable def bResume : { l : List Stmt // (Text[2]?).bind fnOfStmt = some (Str.ofString "resume_frame", ⟨fResume.1.params, fResume.1.sc, l⟩) } := ⟨_, rfl⟩
theorem eResume : fResume.1.body = bResume.1 := rfl
theorem sn_fuel_nodes {ρ : Loc} {d : D} : setL ρ (Str.ofString "fuel") d (Str.ofString "nodes") = ρ (Str.ofString "nodes") := rfl
theorem sn_fuel_frames {ρ : Loc} {d : D} : setL ρ (Str.ofString "fuel") d (Str.ofString "frames") = ρ (Str.ofString "frames") := rfl
theorem sn_fuel_state {ρ : Loc} {d : D} : setL ρ (Str.ofString "fuel") d (Str.ofString "state") = ρ (Str.ofString "state") := rfl
theorem se_state {ρ : Loc} {d : D} : setL ρ (Str.ofString "state") d (Str.ofString "state") = some d := rfl
theorem sn_state_frames {ρ : Loc} {d : D} : setL ρ (Str.ofString "state") d (Str.ofString "frames") = ρ (Str.ofString "frames") := rfl
theorem loRun_fuel {call : Str → List D → St → Option (PyData × St)} {N : Nat} : (Cx.mk fRun.1.sc call N).isLocal (Str.ofString "fuel") = true := rfl
theorem fn_fuel {e : Expr} : frNil (Str.ofString "fuel") e = false := rfl
theorem loRun_state {call : Str → List D → St → Option (PyData × St)} {N : Nat} : (Cx.mk fRun.1.sc call N).isLocal (Str.ofString "state") = true := rfl
theorem fn_state {e : Expr} : frNil (Str.ofString "state") e = false := rfl
theorem caRun_len {call : Str → List D → St → Option (PyData × St)} {N : Nat} {ds : List D} {σ : St} : (Cx.mk fRun.1.sc call N).callAny (Str.ofString "len") ds σ = match lenD σ ds with | some d => some (d, σ) | none => none := rfl
theorem caRun_beginunode {call : Str → List D → St → Option (PyData × St)} {N : Nat} {ds : List D} {σ : St} : (Cx.mk fRun.1.sc call N).callAny (Str.ofString "begin_node") ds σ = match call (Str.ofString "begin_node") ds σ with | some (d, σ₁) => some (.dat d, σ₁) | none => none := rfl
theorem caRun_resumeuframe {call : Str → List D → St → Option (PyData × St)} {N : Nat} {ds : List D} {σ : St} : (Cx.mk fRun.1.sc call N).callAny (Str.ofString "resume_frame") ds σ = match call (Str.ofString "resume_frame") ds σ with | some (d, σ₁) => some (.dat d, σ₁) | none => none := rfl
noncomputable def bRun : { l : List Stmt // (Text[3]?).bind fnOfStmt = some (Str.ofString "run", ⟨fRun.1.params, fRun.1.sc, l⟩) } := ⟨_, rfl⟩
theorem eRun : fRun.1.body = bRun.1 := rfl
theorem se_way {ρ : Loc} {d : D} : setL ρ (Str.ofString "way") d (Str.ofString "way") = some d := rfl
theorem sn_way_leaf {ρ : Loc} {d : D} : setL ρ (Str.ofString "way") d (Str.ofString "leaf") = ρ (Str.ofString "leaf") := rfl
theorem sn_way_turned {ρ : Loc} {d : D} : setL ρ (Str.ofString "way") d (Str.ofString "turned") = ρ (Str.ofString "turned") := rfl
theorem se_leaf {ρ : Loc} {d : D} : setL ρ (Str.ofString "leaf") d (Str.ofString "leaf") = some d := rfl
theorem sn_leaf_turned {ρ : Loc} {d : D} : setL ρ (Str.ofString "leaf") d (Str.ofString "turned") = ρ (Str.ofString "turned") := rfl
theorem se_turned {ρ : Loc} {d : D} : setL ρ (Str.ofString "turned") d (Str.ofString "turned") = some d := rfl
theorem se_n {ρ : Loc} {d : D} : setL ρ (Str.ofString "n") d (Str.ofString "n") = some d := rfl
theorem sn_n_way {ρ : Loc} {d : D} : setL ρ (Str.ofString "n") d (Str.ofString "way") = ρ (Str.ofString "way") := rfl
theorem sn_n_leaf {ρ : Loc} {d : D} : setL ρ (Str.ofString "n") d (Str.ofString "leaf") = ρ (Str.ofString "leaf") := rfl
theorem sn_n_turned {ρ : Loc} {d : D} : setL ρ (Str.ofString "n") d (Str.ofString "turned") = ρ (Str.ofString "turned") := rfl
theorem loSides_n {call : Str → List D → St → Option (PyData × St)} {N : Nat} : (Cx.mk fSides.1.sc call N).isLocal (Str.ofString "n") = true := rfl
theorem fn_n {e : Expr} : frNil (Str.ofString "n") e = false := rfl
theorem caSides_len {call : Str → List D → St → Option (PyData × St)} {N : Nat} {ds : List D} {σ : St} : (Cx.mk fSides.1.sc call N).callAny (Str.ofString "len") ds σ = match lenD σ ds with | some d => some (d, σ) | none => none := rfl
noncomputable def bSides : { l : List Stmt // (Text[6]?).bind fnOfStmt = some (Str.ofString "_law_sides", ⟨fSides.1.params, fSides.1.sc, l⟩) } := ⟨_, rfl⟩
theorem eSides : fSides.1.body = bSides.1 := rfl
theorem sn_kind_a {ρ : Loc} {d : D} : setL ρ (Str.ofString "kind") d (Str.ofString "a") = ρ (Str.ofString "a") := rfl
theorem sn_kind_b {ρ : Loc} {d : D} : setL ρ (Str.ofString "kind") d (Str.ofString "b") = ρ (Str.ofString "b") := rfl
theorem se_a {ρ : Loc} {d : D} : setL ρ (Str.ofString "a") d (Str.ofString "a") = some d := rfl
theorem sn_a_b {ρ : Loc} {d : D} : setL ρ (Str.ofString "a") d (Str.ofString "b") = ρ (Str.ofString "b") := rfl
theorem se_b {ρ : Loc} {d : D} : setL ρ (Str.ofString "b") d (Str.ofString "b") = some d := rfl
theorem sn_b_a {ρ : Loc} {d : D} : setL ρ (Str.ofString "b") d (Str.ofString "a") = ρ (Str.ofString "a") := rfl
theorem se_cost {ρ : Loc} {d : D} : setL ρ (Str.ofString "cost") d (Str.ofString "cost") = some d := rfl
theorem sn_cost_kind {ρ : Loc} {d : D} : setL ρ (Str.ofString "cost") d (Str.ofString "kind") = ρ (Str.ofString "kind") := rfl
theorem sn_cost_a {ρ : Loc} {d : D} : setL ρ (Str.ofString "cost") d (Str.ofString "a") = ρ (Str.ofString "a") := rfl
theorem sn_cost_b {ρ : Loc} {d : D} : setL ρ (Str.ofString "cost") d (Str.ofString "b") = ρ (Str.ofString "b") := rfl
theorem loBoth_cost {call : Str → List D → St → Option (PyData × St)} {N : Nat} : (Cx.mk fBoth.1.sc call N).isLocal (Str.ofString "cost") = true := rfl
theorem fn_cost {e : Expr} : frNil (Str.ofString "cost") e = false := rfl
noncomputable def bBoth : { l : List Stmt // (Text[7]?).bind fnOfStmt = some (Str.ofString "_law_both", ⟨fBoth.1.params, fBoth.1.sc, l⟩) } := ⟨_, rfl⟩
theorem eBoth : fBoth.1.body = bBoth.1 := rfl
theorem se_c {ρ : Loc} {d : D} : setL ρ (Str.ofString "c") d (Str.ofString "c") = some d := rfl
theorem sn_c_t {ρ : Loc} {d : D} : setL ρ (Str.ofString "c") d (Str.ofString "t") = ρ (Str.ofString "t") := rfl
theorem sn_c_e {ρ : Loc} {d : D} : setL ρ (Str.ofString "c") d (Str.ofString "e") = ρ (Str.ofString "e") := rfl
theorem se_t {ρ : Loc} {d : D} : setL ρ (Str.ofString "t") d (Str.ofString "t") = some d := rfl
theorem sn_t_e {ρ : Loc} {d : D} : setL ρ (Str.ofString "t") d (Str.ofString "e") = ρ (Str.ofString "e") := rfl
theorem se_e {ρ : Loc} {d : D} : setL ρ (Str.ofString "e") d (Str.ofString "e") = some d := rfl
theorem se_taken {ρ : Loc} {d : D} : setL ρ (Str.ofString "taken") d (Str.ofString "taken") = some d := rfl
theorem sn_taken_c {ρ : Loc} {d : D} : setL ρ (Str.ofString "taken") d (Str.ofString "c") = ρ (Str.ofString "c") := rfl
theorem loIf_taken {call : Str → List D → St → Option (PyData × St)} {N : Nat} : (Cx.mk fIf.1.sc call N).isLocal (Str.ofString "taken") = true := rfl
theorem fn_taken {e : Expr} : frNil (Str.ofString "taken") e = false := rfl
noncomputable def bIf : { l : List Stmt // (Text[10]?).bind fnOfStmt = some (Str.ofString "_law_if", ⟨fIf.1.params, fIf.1.sc, l⟩) } := ⟨_, rfl⟩
theorem eIf : fIf.1.body = bIf.1 := rfl
theorem se_r {ρ : Loc} {d : D} : setL ρ (Str.ofString "r") d (Str.ofString "r") = some d := rfl
theorem sn_r_y {ρ : Loc} {d : D} : setL ρ (Str.ofString "r") d (Str.ofString "y") = ρ (Str.ofString "y") := rfl
theorem sn_r_kind {ρ : Loc} {d : D} : setL ρ (Str.ofString "r") d (Str.ofString "kind") = ρ (Str.ofString "kind") := rfl
theorem sn_r_around {ρ : Loc} {d : D} : setL ρ (Str.ofString "r") d (Str.ofString "around") = ρ (Str.ofString "around") := rfl
theorem se_y {ρ : Loc} {d : D} : setL ρ (Str.ofString "y") d (Str.ofString "y") = some d := rfl
theorem sn_y_kind {ρ : Loc} {d : D} : setL ρ (Str.ofString "y") d (Str.ofString "kind") = ρ (Str.ofString "kind") := rfl
theorem sn_y_around {ρ : Loc} {d : D} : setL ρ (Str.ofString "y") d (Str.ofString "around") = ρ (Str.ofString "around") := rfl
theorem sn_kind_y {ρ : Loc} {d : D} : setL ρ (Str.ofString "kind") d (Str.ofString "y") = ρ (Str.ofString "y") := rfl
theorem sn_kind_around {ρ : Loc} {d : D} : setL ρ (Str.ofString "kind") d (Str.ofString "around") = ρ (Str.ofString "around") := rfl
theorem sn_before_around {ρ : Loc} {d : D} : setL ρ (Str.ofString "before") d (Str.ofString "around") = ρ (Str.ofString "around") := rfl
theorem se_around {ρ : Loc} {d : D} : setL ρ (Str.ofString "around") d (Str.ofString "around") = some d := rfl
theorem se_body {ρ : Loc} {d : D} : setL ρ (Str.ofString "body") d (Str.ofString "body") = some d := rfl
theorem sn_body_r {ρ : Loc} {d : D} : setL ρ (Str.ofString "body") d (Str.ofString "r") = ρ (Str.ofString "r") := rfl
theorem sn_body_y {ρ : Loc} {d : D} : setL ρ (Str.ofString "body") d (Str.ofString "y") = ρ (Str.ofString "y") := rfl
theorem sn_body_kind {ρ : Loc} {d : D} : setL ρ (Str.ofString "body") d (Str.ofString "kind") = ρ (Str.ofString "kind") := rfl
theorem sn_body_around {ρ : Loc} {d : D} : setL ρ (Str.ofString "body") d (Str.ofString "around") = ρ (Str.ofString "around") := rfl
theorem loBound_body {call : Str → List D → St → Option (PyData × St)} {N : Nat} : (Cx.mk fBound.1.sc call N).isLocal (Str.ofString "body") = true := rfl
theorem fn_body {e : Expr} : frNil (Str.ofString "body") e = false := rfl
theorem caBound_ulawuboth {call : Str → List D → St → Option (PyData × St)} {N : Nat} {ds : List D} {σ : St} : (Cx.mk fBound.1.sc call N).callAny (Str.ofString "_law_both") ds σ = match call (Str.ofString "_law_both") ds σ with | some (d, σ₁) => some (.dat d, σ₁) | none => none := rfl
noncomputable def bBound : { l : List Stmt // (Text[11]?).bind fnOfStmt = some (Str.ofString "_law_bound", ⟨fBound.1.params, fBound.1.sc, l⟩) } := ⟨_, rfl⟩
theorem eBound : fBound.1.body = bBound.1 := rfl
theorem sn_way_op {ρ : Loc} {d : D} : setL ρ (Str.ofString "way") d (Str.ofString "op") = ρ (Str.ofString "op") := rfl
theorem sn_way_x {ρ : Loc} {d : D} : setL ρ (Str.ofString "way") d (Str.ofString "x") = ρ (Str.ofString "x") := rfl
theorem sn_way_y {ρ : Loc} {d : D} : setL ρ (Str.ofString "way") d (Str.ofString "y") = ρ (Str.ofString "y") := rfl
theorem se_op {ρ : Loc} {d : D} : setL ρ (Str.ofString "op") d (Str.ofString "op") = some d := rfl
theorem sn_op_leaf {ρ : Loc} {d : D} : setL ρ (Str.ofString "op") d (Str.ofString "leaf") = ρ (Str.ofString "leaf") := rfl
theorem sn_op_x {ρ : Loc} {d : D} : setL ρ (Str.ofString "op") d (Str.ofString "x") = ρ (Str.ofString "x") := rfl
theorem sn_op_y {ρ : Loc} {d : D} : setL ρ (Str.ofString "op") d (Str.ofString "y") = ρ (Str.ofString "y") := rfl
theorem sn_leaf_x {ρ : Loc} {d : D} : setL ρ (Str.ofString "leaf") d (Str.ofString "x") = ρ (Str.ofString "x") := rfl
theorem sn_leaf_y {ρ : Loc} {d : D} : setL ρ (Str.ofString "leaf") d (Str.ofString "y") = ρ (Str.ofString "y") := rfl
theorem se_x {ρ : Loc} {d : D} : setL ρ (Str.ofString "x") d (Str.ofString "x") = some d := rfl
theorem sn_x_y {ρ : Loc} {d : D} : setL ρ (Str.ofString "x") d (Str.ofString "y") = ρ (Str.ofString "y") := rfl
theorem sn_nodes_way {ρ : Loc} {d : D} : setL ρ (Str.ofString "nodes") d (Str.ofString "way") = ρ (Str.ofString "way") := rfl
theorem sn_nodes_op {ρ : Loc} {d : D} : setL ρ (Str.ofString "nodes") d (Str.ofString "op") = ρ (Str.ofString "op") := rfl
theorem sn_nodes_x {ρ : Loc} {d : D} : setL ρ (Str.ofString "nodes") d (Str.ofString "x") = ρ (Str.ofString "x") := rfl
theorem sn_nodes_y {ρ : Loc} {d : D} : setL ρ (Str.ofString "nodes") d (Str.ofString "y") = ρ (Str.ofString "y") := rfl
theorem sn_n_op {ρ : Loc} {d : D} : setL ρ (Str.ofString "n") d (Str.ofString "op") = ρ (Str.ofString "op") := rfl
theorem sn_n_x {ρ : Loc} {d : D} : setL ρ (Str.ofString "n") d (Str.ofString "x") = ρ (Str.ofString "x") := rfl
theorem sn_n_y {ρ : Loc} {d : D} : setL ρ (Str.ofString "n") d (Str.ofString "y") = ρ (Str.ofString "y") := rfl
theorem sn_n_nodes {ρ : Loc} {d : D} : setL ρ (Str.ofString "n") d (Str.ofString "nodes") = ρ (Str.ofString "nodes") := rfl
theorem se_p {ρ : Loc} {d : D} : setL ρ (Str.ofString "p") d (Str.ofString "p") = some d := rfl
theorem sn_p_way {ρ : Loc} {d : D} : setL ρ (Str.ofString "p") d (Str.ofString "way") = ρ (Str.ofString "way") := rfl
theorem sn_p_op {ρ : Loc} {d : D} : setL ρ (Str.ofString "p") d (Str.ofString "op") = ρ (Str.ofString "op") := rfl
theorem sn_p_x {ρ : Loc} {d : D} : setL ρ (Str.ofString "p") d (Str.ofString "x") = ρ (Str.ofString "x") := rfl
theorem sn_p_y {ρ : Loc} {d : D} : setL ρ (Str.ofString "p") d (Str.ofString "y") = ρ (Str.ofString "y") := rfl
theorem sn_p_nodes {ρ : Loc} {d : D} : setL ρ (Str.ofString "p") d (Str.ofString "nodes") = ρ (Str.ofString "nodes") := rfl
theorem sn_p_n {ρ : Loc} {d : D} : setL ρ (Str.ofString "p") d (Str.ofString "n") = ρ (Str.ofString "n") := rfl
theorem se_q {ρ : Loc} {d : D} : setL ρ (Str.ofString "q") d (Str.ofString "q") = some d := rfl
theorem sn_q_way {ρ : Loc} {d : D} : setL ρ (Str.ofString "q") d (Str.ofString "way") = ρ (Str.ofString "way") := rfl
theorem sn_q_op {ρ : Loc} {d : D} : setL ρ (Str.ofString "q") d (Str.ofString "op") = ρ (Str.ofString "op") := rfl
theorem sn_q_x {ρ : Loc} {d : D} : setL ρ (Str.ofString "q") d (Str.ofString "x") = ρ (Str.ofString "x") := rfl
theorem sn_q_y {ρ : Loc} {d : D} : setL ρ (Str.ofString "q") d (Str.ofString "y") = ρ (Str.ofString "y") := rfl
theorem sn_q_nodes {ρ : Loc} {d : D} : setL ρ (Str.ofString "q") d (Str.ofString "nodes") = ρ (Str.ofString "nodes") := rfl
theorem sn_q_n {ρ : Loc} {d : D} : setL ρ (Str.ofString "q") d (Str.ofString "n") = ρ (Str.ofString "n") := rfl
theorem sn_q_p {ρ : Loc} {d : D} : setL ρ (Str.ofString "q") d (Str.ofString "p") = ρ (Str.ofString "p") := rfl
theorem sn_a_way {ρ : Loc} {d : D} : setL ρ (Str.ofString "a") d (Str.ofString "way") = ρ (Str.ofString "way") := rfl
theorem sn_a_op {ρ : Loc} {d : D} : setL ρ (Str.ofString "a") d (Str.ofString "op") = ρ (Str.ofString "op") := rfl
theorem sn_a_x {ρ : Loc} {d : D} : setL ρ (Str.ofString "a") d (Str.ofString "x") = ρ (Str.ofString "x") := rfl
theorem sn_a_y {ρ : Loc} {d : D} : setL ρ (Str.ofString "a") d (Str.ofString "y") = ρ (Str.ofString "y") := rfl
theorem sn_a_nodes {ρ : Loc} {d : D} : setL ρ (Str.ofString "a") d (Str.ofString "nodes") = ρ (Str.ofString "nodes") := rfl
theorem sn_a_n {ρ : Loc} {d : D} : setL ρ (Str.ofString "a") d (Str.ofString "n") = ρ (Str.ofString "n") := rfl
theorem sn_a_p {ρ : Loc} {d : D} : setL ρ (Str.ofString "a") d (Str.ofString "p") = ρ (Str.ofString "p") := rfl
theorem sn_a_q {ρ : Loc} {d : D} : setL ρ (Str.ofString "a") d (Str.ofString "q") = ρ (Str.ofString "q") := rfl
theorem sn_b_way {ρ : Loc} {d : D} : setL ρ (Str.ofString "b") d (Str.ofString "way") = ρ (Str.ofString "way") := rfl
theorem sn_b_op {ρ : Loc} {d : D} : setL ρ (Str.ofString "b") d (Str.ofString "op") = ρ (Str.ofString "op") := rfl
theorem sn_b_x {ρ : Loc} {d : D} : setL ρ (Str.ofString "b") d (Str.ofString "x") = ρ (Str.ofString "x") := rfl
theorem sn_b_y {ρ : Loc} {d : D} : setL ρ (Str.ofString "b") d (Str.ofString "y") = ρ (Str.ofString "y") := rfl
theorem sn_b_nodes {ρ : Loc} {d : D} : setL ρ (Str.ofString "b") d (Str.ofString "nodes") = ρ (Str.ofString "nodes") := rfl
theorem sn_b_n {ρ : Loc} {d : D} : setL ρ (Str.ofString "b") d (Str.ofString "n") = ρ (Str.ofString "n") := rfl
theorem sn_b_p {ρ : Loc} {d : D} : setL ρ (Str.ofString "b") d (Str.ofString "p") = ρ (Str.ofString "p") := rfl
theorem sn_b_q {ρ : Loc} {d : D} : setL ρ (Str.ofString "b") d (Str.ofString "q") = ρ (Str.ofString "q") := rfl
theorem sn_kind_way {ρ : Loc} {d : D} : setL ρ (Str.ofString "kind") d (Str.ofString "way") = ρ (Str.ofString "way") := rfl
theorem sn_kind_n {ρ : Loc} {d : D} : setL ρ (Str.ofString "kind") d (Str.ofString "n") = ρ (Str.ofString "n") := rfl
theorem sn_kind_p {ρ : Loc} {d : D} : setL ρ (Str.ofString "kind") d (Str.ofString "p") = ρ (Str.ofString "p") := rfl
theorem sn_kind_q {ρ : Loc} {d : D} : setL ρ (Str.ofString "kind") d (Str.ofString "q") = ρ (Str.ofString "q") := rfl
theorem sn_body_way {ρ : Loc} {d : D} : setL ρ (Str.ofString "body") d (Str.ofString "way") = ρ (Str.ofString "way") := rfl
theorem loPlain_a {call : Str → List D → St → Option (PyData × St)} {N : Nat} : (Cx.mk fPlain.1.sc call N).isLocal (Str.ofString "a") = true := rfl
theorem loPlain_b {call : Str → List D → St → Option (PyData × St)} {N : Nat} : (Cx.mk fPlain.1.sc call N).isLocal (Str.ofString "b") = true := rfl
theorem loPlain_body {call : Str → List D → St → Option (PyData × St)} {N : Nat} : (Cx.mk fPlain.1.sc call N).isLocal (Str.ofString "body") = true := rfl
theorem loPlain_kind {call : Str → List D → St → Option (PyData × St)} {N : Nat} : (Cx.mk fPlain.1.sc call N).isLocal (Str.ofString "kind") = true := rfl
theorem loPlain_n {call : Str → List D → St → Option (PyData × St)} {N : Nat} : (Cx.mk fPlain.1.sc call N).isLocal (Str.ofString "n") = true := rfl
theorem loPlain_nodes {call : Str → List D → St → Option (PyData × St)} {N : Nat} : (Cx.mk fPlain.1.sc call N).isLocal (Str.ofString "nodes") = true := rfl
theorem loPlain_p {call : Str → List D → St → Option (PyData × St)} {N : Nat} : (Cx.mk fPlain.1.sc call N).isLocal (Str.ofString "p") = true := rfl
theorem loPlain_q {call : Str → List D → St → Option (PyData × St)} {N : Nat} : (Cx.mk fPlain.1.sc call N).isLocal (Str.ofString "q") = true := rfl
theorem caPlain_ulawusides {call : Str → List D → St → Option (PyData × St)} {N : Nat} {ds : List D} {σ : St} : (Cx.mk fPlain.1.sc call N).callAny (Str.ofString "_law_sides") ds σ = match call (Str.ofString "_law_sides") ds σ with | some (d, σ₁) => some (.dat d, σ₁) | none => none := rfl
theorem caPlain_ulawuboth {call : Str → List D → St → Option (PyData × St)} {N : Nat} {ds : List D} {σ : St} : (Cx.mk fPlain.1.sc call N).callAny (Str.ofString "_law_both") ds σ = match call (Str.ofString "_law_both") ds σ with | some (d, σ₁) => some (.dat d, σ₁) | none => none := rfl
theorem caPlain_ulawupart {call : Str → List D → St → Option (PyData × St)} {N : Nat} {ds : List D} {σ : St} : (Cx.mk fPlain.1.sc call N).callAny (Str.ofString "_law_part") ds σ = match call (Str.ofString "_law_part") ds σ with | some (d, σ₁) => some (.dat d, σ₁) | none => none := rfl
theorem caPlain_ulawuif {call : Str → List D → St → Option (PyData × St)} {N : Nat} {ds : List D} {σ : St} : (Cx.mk fPlain.1.sc call N).callAny (Str.ofString "_law_if") ds σ = match call (Str.ofString "_law_if") ds σ with | some (d, σ₁) => some (.dat d, σ₁) | none => none := rfl
theorem caPlain_ulawubound {call : Str → List D → St → Option (PyData × St)} {N : Nat} {ds : List D} {σ : St} : (Cx.mk fPlain.1.sc call N).callAny (Str.ofString "_law_bound") ds σ = match call (Str.ofString "_law_bound") ds σ with | some (d, σ₁) => some (.dat d, σ₁) | none => none := rfl
noncomputable def bPlain : { l : List Stmt // (Text[12]?).bind fnOfStmt = some (Str.ofString "_law_plain", ⟨fPlain.1.params, fPlain.1.sc, l⟩) } := ⟨_, rfl⟩
theorem ePlain : fPlain.1.body = bPlain.1 := rfl
theorem se_maker {ρ : Loc} {d : D} : setL ρ (Str.ofString "maker") d (Str.ofString "maker") = some d := rfl
theorem sn_maker_x {ρ : Loc} {d : D} : setL ρ (Str.ofString "maker") d (Str.ofString "x") = ρ (Str.ofString "x") := rfl
theorem sn_maker_y {ρ : Loc} {d : D} : setL ρ (Str.ofString "maker") d (Str.ofString "y") = ρ (Str.ofString "y") := rfl
theorem sn_maker_nodes {ρ : Loc} {d : D} : setL ρ (Str.ofString "maker") d (Str.ofString "nodes") = ρ (Str.ofString "nodes") := rfl
theorem sn_maker_n {ρ : Loc} {d : D} : setL ρ (Str.ofString "maker") d (Str.ofString "n") = ρ (Str.ofString "n") := rfl
theorem sn_maker_p {ρ : Loc} {d : D} : setL ρ (Str.ofString "maker") d (Str.ofString "p") = ρ (Str.ofString "p") := rfl
theorem sn_maker_q {ρ : Loc} {d : D} : setL ρ (Str.ofString "maker") d (Str.ofString "q") = ρ (Str.ofString "q") := rfl
theorem sn_maker_a {ρ : Loc} {d : D} : setL ρ (Str.ofString "maker") d (Str.ofString "a") = ρ (Str.ofString "a") := rfl
theorem sn_maker_b {ρ : Loc} {d : D} : setL ρ (Str.ofString "maker") d (Str.ofString "b") = ρ (Str.ofString "b") := rfl
theorem se_pick {ρ : Loc} {d : D} : setL ρ (Str.ofString "pick") d (Str.ofString "pick") = some d := rfl
theorem sn_pick_way {ρ : Loc} {d : D} : setL ρ (Str.ofString "pick") d (Str.ofString "way") = ρ (Str.ofString "way") := rfl
theorem sn_pick_op {ρ : Loc} {d : D} : setL ρ (Str.ofString "pick") d (Str.ofString "op") = ρ (Str.ofString "op") := rfl
theorem se_flip {ρ : Loc} {d : D} : setL ρ (Str.ofString "flip") d (Str.ofString "flip") = some d := rfl
theorem sn_flip_x {ρ : Loc} {d : D} : setL ρ (Str.ofString "flip") d (Str.ofString "x") = ρ (Str.ofString "x") := rfl
theorem sn_flip_nodes {ρ : Loc} {d : D} : setL ρ (Str.ofString "flip") d (Str.ofString "nodes") = ρ (Str.ofString "nodes") := rfl
theorem sn_flip_n {ρ : Loc} {d : D} : setL ρ (Str.ofString "flip") d (Str.ofString "n") = ρ (Str.ofString "n") := rfl
theorem sn_flip_p {ρ : Loc} {d : D} : setL ρ (Str.ofString "flip") d (Str.ofString "p") = ρ (Str.ofString "p") := rfl
theorem sn_flip_q {ρ : Loc} {d : D} : setL ρ (Str.ofString "flip") d (Str.ofString "q") = ρ (Str.ofString "q") := rfl
theorem sn_flip_b {ρ : Loc} {d : D} : setL ρ (Str.ofString "flip") d (Str.ofString "b") = ρ (Str.ofString "b") := rfl
theorem se_test {ρ : Loc} {d : D} : setL ρ (Str.ofString "test") d (Str.ofString "test") = some d := rfl
theorem sn_test_x {ρ : Loc} {d : D} : setL ρ (Str.ofString "test") d (Str.ofString "x") = ρ (Str.ofString "x") := rfl
theorem sn_test_nodes {ρ : Loc} {d : D} : setL ρ (Str.ofString "test") d (Str.ofString "nodes") = ρ (Str.ofString "nodes") := rfl
theorem sn_test_b {ρ : Loc} {d : D} : setL ρ (Str.ofString "test") d (Str.ofString "b") = ρ (Str.ofString "b") := rfl
theorem sn_test_flip {ρ : Loc} {d : D} : setL ρ (Str.ofString "test") d (Str.ofString "flip") = ρ (Str.ofString "flip") := rfl
theorem loCalls_a {call : Str → List D → St → Option (PyData × St)} {N : Nat} : (Cx.mk fCalls.1.sc call N).isLocal (Str.ofString "a") = true := rfl
theorem loCalls_b {call : Str → List D → St → Option (PyData × St)} {N : Nat} : (Cx.mk fCalls.1.sc call N).isLocal (Str.ofString "b") = true := rfl
theorem loCalls_body {call : Str → List D → St → Option (PyData × St)} {N : Nat} : (Cx.mk fCalls.1.sc call N).isLocal (Str.ofString "body") = true := rfl
theorem loCalls_flip {call : Str → List D → St → Option (PyData × St)} {N : Nat} : (Cx.mk fCalls.1.sc call N).isLocal (Str.ofString "flip") = true := rfl
theorem fn_flip {e : Expr} : frNil (Str.ofString "flip") e = false := rfl
theorem loCalls_kind {call : Str → List D → St → Option (PyData × St)} {N : Nat} : (Cx.mk fCalls.1.sc call N).isLocal (Str.ofString "kind") = true := rfl
theorem loCalls_maker {call : Str → List D → St → Option (PyData × St)} {N : Nat} : (Cx.mk fCalls.1.sc call N).isLocal (Str.ofString "maker") = true := rfl
theorem fn_maker {e : Expr} : frNil (Str.ofString "maker") e = false := rfl
theorem loCalls_n {call : Str → List D → St → Option (PyData × St)} {N : Nat} : (Cx.mk fCalls.1.sc call N).isLocal (Str.ofString "n") = true := rfl
theorem loCalls_nodes {call : Str → List D → St → Option (PyData × St)} {N : Nat} : (Cx.mk fCalls.1.sc call N).isLocal (Str.ofString "nodes") = true := rfl
theorem loCalls_p {call : Str → List D → St → Option (PyData × St)} {N : Nat} : (Cx.mk fCalls.1.sc call N).isLocal (Str.ofString "p") = true := rfl
theorem loCalls_pick {call : Str → List D → St → Option (PyData × St)} {N : Nat} : (Cx.mk fCalls.1.sc call N).isLocal (Str.ofString "pick") = true := rfl
theorem fn_pick {e : Expr} : frNil (Str.ofString "pick") e = false := rfl
theorem loCalls_q {call : Str → List D → St → Option (PyData × St)} {N : Nat} : (Cx.mk fCalls.1.sc call N).isLocal (Str.ofString "q") = true := rfl
theorem loCalls_test {call : Str → List D → St → Option (PyData × St)} {N : Nat} : (Cx.mk fCalls.1.sc call N).isLocal (Str.ofString "test") = true := rfl
theorem fn_test {e : Expr} : frNil (Str.ofString "test") e = false := rfl
theorem caCalls_ulawusides {call : Str → List D → St → Option (PyData × St)} {N : Nat} {ds : List D} {σ : St} : (Cx.mk fCalls.1.sc call N).callAny (Str.ofString "_law_sides") ds σ = match call (Str.ofString "_law_sides") ds σ with | some (d, σ₁) => some (.dat d, σ₁) | none => none := rfl
theorem caCalls_ulawuboth {call : Str → List D → St → Option (PyData × St)} {N : Nat} {ds : List D} {σ : St} : (Cx.mk fCalls.1.sc call N).callAny (Str.ofString "_law_both") ds σ = match call (Str.ofString "_law_both") ds σ with | some (d, σ₁) => some (.dat d, σ₁) | none => none := rfl
theorem caCalls_ulawuclosure {call : Str → List D → St → Option (PyData × St)} {N : Nat} {ds : List D} {σ : St} : (Cx.mk fCalls.1.sc call N).callAny (Str.ofString "_law_closure") ds σ = match call (Str.ofString "_law_closure") ds σ with | some (d, σ₁) => some (.dat d, σ₁) | none => none := rfl
theorem caCalls_ulawupart {call : Str → List D → St → Option (PyData × St)} {N : Nat} {ds : List D} {σ : St} : (Cx.mk fCalls.1.sc call N).callAny (Str.ofString "_law_part") ds σ = match call (Str.ofString "_law_part") ds σ with | some (d, σ₁) => some (.dat d, σ₁) | none => none := rfl
theorem caCalls_ulawuif {call : Str → List D → St → Option (PyData × St)} {N : Nat} {ds : List D} {σ : St} : (Cx.mk fCalls.1.sc call N).callAny (Str.ofString "_law_if") ds σ = match call (Str.ofString "_law_if") ds σ with | some (d, σ₁) => some (.dat d, σ₁) | none => none := rfl
theorem caCalls_ulawubound {call : Str → List D → St → Option (PyData × St)} {N : Nat} {ds : List D} {σ : St} : (Cx.mk fCalls.1.sc call N).callAny (Str.ofString "_law_bound") ds σ = match call (Str.ofString "_law_bound") ds σ with | some (d, σ₁) => some (.dat d, σ₁) | none => none := rfl
noncomputable def bCalls : { l : List Stmt // (Text[13]?).bind fnOfStmt = some (Str.ofString "_law_calls", ⟨fCalls.1.params, fCalls.1.sc, l⟩) } := ⟨_, rfl⟩
theorem eCalls : fCalls.1.body = bCalls.1 := rfl
noncomputable def bLaw : { l : List Stmt // (Text[15]?).bind fnOfStmt = some (Str.ofString "law", ⟨fLaw.1.params, fLaw.1.sc, l⟩) } := ⟨_, rfl⟩
theorem eLaw : fLaw.1.body = bLaw.1 := rfl
theorem tEq_app_app {σ : St} : cmpD σ .Eq (.dat (.str (Str.ofString "app"))) (.dat (.str (Str.ofString "app"))) = some true := rfl
theorem tEq_back_back {σ : St} : cmpD σ .Eq (.dat (.str (Str.ofString "back"))) (.dat (.str (Str.ofString "back"))) = some true := rfl
theorem tEq_back_stuck {σ : St} : cmpD σ .Eq (.dat (.str (Str.ofString "back"))) (.dat (.str (Str.ofString "stuck"))) = some false := rfl
theorem tEq_eval_eval {σ : St} : cmpD σ .Eq (.dat (.str (Str.ofString "eval"))) (.dat (.str (Str.ofString "eval"))) = some true := rfl
theorem tEq_if_app {σ : St} : cmpD σ .Eq (.dat (.str (Str.ofString "if"))) (.dat (.str (Str.ofString "app"))) = some false := rfl
theorem tEq_if_if {σ : St} : cmpD σ .Eq (.dat (.str (Str.ofString "if"))) (.dat (.str (Str.ofString "if"))) = some true := rfl
theorem tEq_if_let {σ : St} : cmpD σ .Eq (.dat (.str (Str.ofString "if"))) (.dat (.str (Str.ofString "let"))) = some false := rfl
theorem tEq_if_pair {σ : St} : cmpD σ .Eq (.dat (.str (Str.ofString "if"))) (.dat (.str (Str.ofString "pair"))) = some false := rfl
theorem tEq_lam_bool {σ : St} : cmpD σ .Eq (.dat (.str (Str.ofString "lam"))) (.dat (.str (Str.ofString "bool"))) = some false := rfl
theorem tEq_lam_lam {σ : St} : cmpD σ .Eq (.dat (.str (Str.ofString "lam"))) (.dat (.str (Str.ofString "lam"))) = some true := rfl
theorem tEq_lam_num {σ : St} : cmpD σ .Eq (.dat (.str (Str.ofString "lam"))) (.dat (.str (Str.ofString "num"))) = some false := rfl
theorem tEq_lam_ref {σ : St} : cmpD σ .Eq (.dat (.str (Str.ofString "lam"))) (.dat (.str (Str.ofString "ref"))) = some false := rfl
theorem tEq_less_add {σ : St} : cmpD σ .Eq (.dat (.str (Str.ofString "less"))) (.dat (.str (Str.ofString "add"))) = some false := rfl
theorem tEq_less_app {σ : St} : cmpD σ .Eq (.dat (.str (Str.ofString "less"))) (.dat (.str (Str.ofString "app"))) = some false := rfl
theorem tEq_less_pair {σ : St} : cmpD σ .Eq (.dat (.str (Str.ofString "less"))) (.dat (.str (Str.ofString "pair"))) = some false := rfl
theorem tEq_let_let {σ : St} : cmpD σ .Eq (.dat (.str (Str.ofString "let"))) (.dat (.str (Str.ofString "let"))) = some true := rfl
theorem tEq_ref_bool {σ : St} : cmpD σ .Eq (.dat (.str (Str.ofString "ref"))) (.dat (.str (Str.ofString "bool"))) = some false := rfl
theorem tEq_ref_num {σ : St} : cmpD σ .Eq (.dat (.str (Str.ofString "ref"))) (.dat (.str (Str.ofString "num"))) = some false := rfl
theorem tEq_ref_ref {σ : St} : cmpD σ .Eq (.dat (.str (Str.ofString "ref"))) (.dat (.str (Str.ofString "ref"))) = some true := rfl
theorem tNotEq_bool_bool {σ : St} : cmpD σ .NotEq (.dat (.str (Str.ofString "bool"))) (.dat (.str (Str.ofString "bool"))) = some false := rfl
theorem tNotEq_int_int {σ : St} : cmpD σ .NotEq (.dat (.str (Str.ofString "int"))) (.dat (.str (Str.ofString "int"))) = some false := rfl
theorem tNotEq_less_pair {σ : St} : cmpD σ .NotEq (.dat (.str (Str.ofString "less"))) (.dat (.str (Str.ofString "pair"))) = some true := rfl
theorem ei_0_1 {σ : St} : cmpD σ .Eq (.dat (.int 0)) (.dat (.int 1)) = some false := rfl
theorem ei_1_1 {σ : St} : cmpD σ .Eq (.dat (.int 1)) (.dat (.int 1)) = some true := rfl
end Zp
end

section
namespace Zp
open PySem

theorem strOk_all (a : String) : PyData.strOk (Str.ofString a) = true := by
  rw [Str.ofString_eq_toList]
  unfold PyData.strOk
  simp only [List.all_toArray, List.all_map, List.all_eq_true, Function.comp, decide_eq_true_eq]
  intro c _
  have h := c.valid
  simp only [UInt32.isValidChar, Nat.isValidChar] at h
  show c.val.toNat < 1114112
  omega

theorem toDs_map : ∀ l : List V, V.toDs l = l.map V.toD
  | [] => rfl
  | v :: r => by rw [V.toDs, toDs_map r]; rfl
theorem toDs_len (l : List V) : (V.toDs l).length = l.length := by rw [toDs_map]; simp
theorem toDs_get {l : List V} {i : Nat} {v : V} (h : l[i]? = some v) : (V.toDs l)[i]? = some v.toD := by rw [toDs_map, List.getElem?_map, h]; rfl
theorem toDs_cons (v : V) (l : List V) : V.toDs (v :: l) = [v.toD] ++ V.toDs l := by rw [V.toDs]; rfl
theorem frD_len (fs : List Fm) : (frD fs).length = fs.length := by simp [frD]
theorem frD_cons (f : Fm) (fs : List Fm) : frD (f :: fs) = frD fs ++ [f.toD] := by simp [frD]
theorem toNat_cast (n : Nat) : ((n : Nat) : Int).toNat = n := Int.toNat_natCast n

theorem qRunFr {N : Nat} {call : Str → List D → St → Option (PyData × St)} {fn : Fn} {ds : List D} {σ : St} {ρ : Loc} (h1 : noTy ds = true) (h2 : hasFr ds = true) (h3 : bindP fn.params ds = some ρ) :
    runFn N call fn ds σ = match exSs ⟨fn.sc, call, N⟩ fn.body ρ σ with | some (f, _, σ') => some (resD f, σ') | none => none := by
  unfold runFn
  rw [if_pos h1, h3, Option.bind_some, if_pos h2]
  rcases exSs ⟨fn.sc, call, N⟩ fn.body ρ σ with _ | ⟨f, a, b⟩ <;> rfl
theorem qRun0 {N : Nat} {call : Str → List D → St → Option (PyData × St)} {fn : Fn} {ds : List D} {ρ : Loc} (h1 : noTy ds = true) (h2 : hasFr ds = false) (h3 : bindP fn.params ds = some ρ) :
    runFn N call fn ds none = match exSs ⟨fn.sc, call, N⟩ fn.body ρ none with | some (f, _, _) => some (resD f, none) | none => none := by
  unfold runFn
  rw [if_pos h1, h3, Option.bind_some, if_neg (by rw [h2]; decide)]
  rcases exSs ⟨fn.sc, call, N⟩ fn.body ρ none with _ | ⟨f, a, b⟩ <;> rfl

theorem getP {P : List Nd} {p : Nat} {nd : Nd} (h : P[p]? = some nd) : (P.map Nd.toD)[p]? = some nd.toD := by rw [List.getElem?_map, h]; rfl
theorem get_lt {α : Type} {P : List α} {p : Nat} {nd : α} (hp : P[p]? = some nd) : p < P.length := by
  rcases Nat.lt_or_ge p P.length with q | q
  · exact q
  · rw [List.getElem?_eq_none q] at hp; cases hp

/-- one statement, then the rest -/
theorem seqN {cx : Cx} {s : Stmt} {r : List Stmt} {ρ ρ₁ : Loc} {σ σ₁ : St} (h : exS cx s ρ σ = some (.next, ρ₁, σ₁)) : exSs cx (s :: r) ρ σ = exSs cx r ρ₁ σ₁ := by
  rw [qSs1, h]

noncomputable def ρBegin (P : List PyData) (p : Int) (env nd : PyData) : Loc :=
  setL (setL (setL (setL (setL (fun _ => none) (Str.ofString "frames") .fr) (Str.ofString "env") (.dat env)) (Str.ofString "place") (.dat (.int p))) (Str.ofString "nodes") (.dat (.list P))) (Str.ofString "node") (.dat nd)

section
variable {call : Str → List D → St → Option (PyData × St)} {N : Nat} {P fs env : List PyData} {p : Nat}
theorem begin_pre {nd : PyData} (hp : p < 4096) (h : P[p]? = some nd) :
    runFn N call fBegin.1 [.dat (.list P), .dat (.int p), .dat (.list env), .fr] (some fs) = match exSs ⟨fBegin.1.sc, call, N⟩ (bBegin.1.drop 1) (ρBegin P p (.list env) nd) (some fs) with | some (f, _, σ') => some (resD f, σ') | none => none := by
  rw [qRunFr rfl rfl rfl, eBegin]
  refine congrArg (fun r : Res => match r with | some (f, _, σ') => some (resD f, σ') | none => none) (seqN ?_)
  simp only [↓qInt, ↓qStr, ↓qBool, ↓qNone, ↓qName, ↓qTuple, ↓qList, ↓qBin, ↓qNeg, ↓qIfExp, ↓qCall, ↓qSl0, ↓qSl1, ↓qSub, ↓qEs0, ↓qEs1, ↓qCmp, ↓qNot, ↓qBoolOp, ↓qAnd0, ↓qOr0, ↓qAnd1, ↓qOr1, ↓qRet, ↓qAsg, ↓qAsgT, ↓qIf, ↓qSs0, ↓qSs1, ↓qTup0, ↓qTup1, ↓qApp, ↓qDel, qApp1, qIs, qIsNot, qIsTy, qGetT0, qGetT1, qGetT2, qGetT3, qAddI, qSubI, qTypeI, qNegI, qSlI, qRetD, qTupD, qLisD, qNewFr, qPV1, qPV2, qNil, qN0, qN1, aD0, aD1, aD2, aD3, aD4, aD5, aD6, aD7, aD8, aD9, aD10, aD11, aD12, sM0, sM1, sM2, sM3, sM4, sM5, sM6, sM7, sM8, sM9, sM10, sM11, sM12, Bool.not_true, Bool.not_false, Nat.reduceBEq, resD, se_nodes, sn_nodes_place, sn_nodes_env, sn_nodes_frames, se_place, sn_place_nodes, sn_place_env, sn_place_frames, se_env, sn_env_nodes, sn_env_place, sn_env_frames, se_frames, sn_frames_nodes, se_node, sn_node_place, sn_node_env, sn_node_frames, loBegin_node, fn_node, qGetL hp h]
  rfl
variable {a b c : Int} {ρ : Loc}
theorem begin_num : exSs ⟨fBegin.1.sc, call, N⟩ (bBegin.1.drop 1) (ρBegin P p (.list env) (ndD "num" a b c)) (some fs) = some (.ret (.tuple [.str (Str.ofString "back"), .tuple [.str (Str.ofString "int"), .int a], .list []]), ρBegin P p (.list env) (ndD "num" a b c), some fs) := rfl
theorem begin_boo : exSs ⟨fBegin.1.sc, call, N⟩ (bBegin.1.drop 1) (ρBegin P p (.list env) (ndD "bool" a b c)) (some fs) = some (.ret (.tuple [.str (Str.ofString "back"), .tuple [.str (Str.ofString "bool"), .int a], .list []]), ρBegin P p (.list env) (ndD "bool" a b c), some fs) := rfl
theorem begin_ref {i : Nat} {d : PyData} (hi : i < 4096) (h : env[i]? = some d) : exSs ⟨fBegin.1.sc, call, N⟩ (bBegin.1.drop 1) (ρBegin P p (.list env) (ndD "ref" i b c)) (some fs) = some (.ret (.tuple [.str (Str.ofString "back"), d, .list []]), ρBegin P p (.list env) (ndD "ref" i b c), some fs) := by
  simp only [ndD, bBegin, List.drop_succ_cons, List.drop_zero, ρBegin, ↓qInt, ↓qStr, ↓qBool, ↓qNone, ↓qName, ↓qTuple, ↓qList, ↓qBin, ↓qNeg, ↓qIfExp, ↓qCall, ↓qSl0, ↓qSl1, ↓qSub, ↓qEs0, ↓qEs1, ↓qCmp, ↓qNot, ↓qBoolOp, ↓qAnd0, ↓qOr0, ↓qAnd1, ↓qOr1, ↓qRet, ↓qAsg, ↓qAsgT, ↓qIf, ↓qSs0, ↓qSs1, ↓qTup0, ↓qTup1, ↓qApp, ↓qDel, qApp1, qIs, qIsNot, qIsTy, qGetT0, qGetT1, qGetT2, qGetT3, qAddI, qSubI, qTypeI, qNegI, qSlI, qRetD, qTupD, qLisD, qNewFr, qPV1, qPV2, qNil, qN0, qN1, aD0, aD1, aD2, aD3, aD4, aD5, aD6, aD7, aD8, aD9, aD10, aD11, aD12, sM0, sM1, sM2, sM3, sM4, sM5, sM6, sM7, sM8, sM9, sM10, sM11, sM12, Bool.not_true, Bool.not_false, Nat.reduceBEq, resD, se_nodes, sn_nodes_place, sn_nodes_env, sn_nodes_frames, se_place, sn_place_nodes, sn_place_env, sn_place_frames, se_env, sn_env_nodes, sn_env_place, sn_env_frames, se_frames, sn_frames_nodes, se_node, sn_node_place, sn_node_env, sn_node_frames, loBegin_node, fn_node, tEq_ref_bool, tEq_ref_num, tEq_ref_ref, qGetL hi h]
theorem begin_lam (he : env.length ≤ 4096) : exSs ⟨fBegin.1.sc, call, N⟩ (bBegin.1.drop 1) (ρBegin P p (.list env) (ndD "lam" a b c)) (some fs) = some (.ret (.tuple [.str (Str.ofString "back"), .tuple [.str (Str.ofString "clo"), .int a, .list env], .list []]), ρBegin P p (.list env) (ndD "lam" a b c), some fs) := by
  simp only [ndD, bBegin, List.drop_succ_cons, List.drop_zero, ρBegin, ↓qInt, ↓qStr, ↓qBool, ↓qNone, ↓qName, ↓qTuple, ↓qList, ↓qBin, ↓qNeg, ↓qIfExp, ↓qCall, ↓qSl0, ↓qSl1, ↓qSub, ↓qEs0, ↓qEs1, ↓qCmp, ↓qNot, ↓qBoolOp, ↓qAnd0, ↓qOr0, ↓qAnd1, ↓qOr1, ↓qRet, ↓qAsg, ↓qAsgT, ↓qIf, ↓qSs0, ↓qSs1, ↓qTup0, ↓qTup1, ↓qApp, ↓qDel, qApp1, qIs, qIsNot, qIsTy, qGetT0, qGetT1, qGetT2, qGetT3, qAddI, qSubI, qTypeI, qNegI, qSlI, qRetD, qTupD, qLisD, qNewFr, qPV1, qPV2, qNil, qN0, qN1, aD0, aD1, aD2, aD3, aD4, aD5, aD6, aD7, aD8, aD9, aD10, aD11, aD12, sM0, sM1, sM2, sM3, sM4, sM5, sM6, sM7, sM8, sM9, sM10, sM11, sM12, Bool.not_true, Bool.not_false, Nat.reduceBEq, resD, se_nodes, sn_nodes_place, sn_nodes_env, sn_nodes_frames, se_place, sn_place_nodes, sn_place_env, sn_place_frames, se_env, sn_env_nodes, sn_env_place, sn_env_frames, se_frames, sn_frames_nodes, se_node, sn_node_place, sn_node_env, sn_node_frames, loBegin_node, fn_node, tEq_lam_bool, tEq_lam_lam, tEq_lam_num, tEq_lam_ref, qCut0 he]
theorem begin_oth {k : String} (h1 : ∀ t ∈ ["num", "bool", "ref", "lam"], cmpD (some fs) .Eq (.dat (.str (Str.ofString k))) (.dat (.str (Str.ofString t))) = some false) (hf : fs.length ≤ 4096) (he : env.length ≤ 4096) :
    exSs ⟨fBegin.1.sc, call, N⟩ (bBegin.1.drop 1) (ρBegin P p (.list env) (ndD k a b c)) (some fs) = some (.ret (.tuple [.str (Str.ofString "eval"), .int a, .list env]), ρBegin P p (.list env) (ndD k a b c), some (fs ++ [.tuple [.int p, .list env, .none]])) := by
  have t1 := h1 "num" (by decide)
  have t2 := h1 "bool" (by decide)
  have t3 := h1 "ref" (by decide)
  have t4 := h1 "lam" (by decide)
  clear h1
  simp only [ndD, bBegin, List.drop_succ_cons, List.drop_zero, ρBegin, ↓qInt, ↓qStr, ↓qBool, ↓qNone, ↓qName, ↓qTuple, ↓qList, ↓qBin, ↓qNeg, ↓qIfExp, ↓qCall, ↓qSl0, ↓qSl1, ↓qSub, ↓qEs0, ↓qEs1, ↓qCmp, ↓qNot, ↓qBoolOp, ↓qAnd0, ↓qOr0, ↓qAnd1, ↓qOr1, ↓qRet, ↓qAsg, ↓qAsgT, ↓qIf, ↓qSs0, ↓qSs1, ↓qTup0, ↓qTup1, ↓qApp, ↓qDel, qApp1, qIs, qIsNot, qIsTy, qGetT0, qGetT1, qGetT2, qGetT3, qAddI, qSubI, qTypeI, qNegI, qSlI, qRetD, qTupD, qLisD, qNewFr, qPV1, qPV2, qNil, qN0, qN1, aD0, aD1, aD2, aD3, aD4, aD5, aD6, aD7, aD8, aD9, aD10, aD11, aD12, sM0, sM1, sM2, sM3, sM4, sM5, sM6, sM7, sM8, sM9, sM10, sM11, sM12, Bool.not_true, Bool.not_false, Nat.reduceBEq, resD, se_nodes, sn_nodes_place, sn_nodes_env, sn_nodes_frames, se_place, sn_place_nodes, sn_place_env, sn_place_frames, se_env, sn_env_nodes, sn_env_place, sn_env_frames, se_frames, sn_frames_nodes, se_node, sn_node_place, sn_node_env, sn_node_frames, loBegin_node, fn_node, t1, t2, t3, t4, qCut0 he, qAppF hf]
end

theorem begin_spec {call : Str → List D → St → Option (PyData × St)} {N : Nat} {P : List Nd} {p : Nat} {env : List V} {fs : List Fm} {x : S × List Fm} (hb : begin P p env fs = some x) (hP : P.length ≤ 4000) (hfs : fs.length ≤ 4000) :
    runFn N call fBegin.1 [.dat (.list (P.map Nd.toD)), .dat (.int p), .dat (.list (V.toDs env)), .fr] (some (frD fs)) = some (x.1.toD, some (frD x.2)) := by
  unfold begin at hb
  split at hb
  · rename_i hen
    cases hp : P[p]? with
    | none => rw [hp] at hb; cases hb
    | some nd =>
      rw [hp] at hb
      have hlt := get_lt hp
      have h2 : (frD fs).length ≤ 4096 := by rw [frD_len]; omega
      have h3 : (V.toDs env).length ≤ 4096 := by rw [toDs_len]; omega
      rw [begin_pre (by omega) (getP hp)]
      cases nd
      case num n => cases hb; rfl
      case boo n => cases hb; rfl
      case ref i =>
        simp only [Option.map_eq_some_iff] at hb
        obtain ⟨v, hv, e⟩ := hb
        cases e
        have hi := get_lt hv
        rw [show (Nd.ref i).toD = ndD "ref" i 0 0 from rfl, begin_ref (by omega) (toDs_get hv)]
        rfl
      case lam b =>
        cases hb
        rw [show (Nd.lam b).toD = ndD "lam" b 0 0 from rfl, begin_lam h3]
        rfl
      all_goals
        cases hb
        rw [Nd.toD, begin_oth (by intro t ht; simp only [List.mem_cons, List.mem_nil_iff, or_false] at ht; rcases ht with rfl | rfl | rfl | rfl <;> rfl) h2 h3, frD_cons]
        rfl
  · cases hb
end Zp
end

section
namespace Zp
open PySem

theorem exSs_split {cx : Cx} : ∀ (k : Nat) {l : List Stmt} {ρ : Loc} {σ : St}, exSs cx l ρ σ = match exSs cx (l.take k) ρ σ with
    | some (.next, ρ₁, σ₁) => exSs cx (l.drop k) ρ₁ σ₁
    | some (.ret d, ρ₁, σ₁) => some (.ret d, ρ₁, σ₁)
    | none => none
  | 0, l, ρ, σ => by simp only [List.take_zero, qSs0, List.drop_zero]
  | k + 1, [], ρ, σ => by simp only [List.take_nil, qSs0, List.drop_nil]
  | k + 1, s :: r, ρ, σ => by
    rw [List.take_succ_cons, List.drop_succ_cons, qSs1, qSs1]
    rcases exS cx s ρ σ with _ | ⟨f, ρ₁, σ₁⟩
    · rfl
    · cases f with
      | next => exact exSs_split k
      | ret d => rfl

noncomputable def rResume1 (P : List PyData) (v : PyData) (p : Int) (env first : PyData) : Loc :=
  setL (setL (setL (setL (setL (setL (fun _ => none) (Str.ofString "frames") .fr) (Str.ofString "value") (.dat v)) (Str.ofString "nodes") (.dat (.list P))) (Str.ofString "place") (.dat (.int p))) (Str.ofString "env") (.dat env)) (Str.ofString "first") (.dat first)
noncomputable def rResume (P : List PyData) (v nd kind : PyData) (p : Int) (env first : PyData) : Loc :=
  setL (setL (rResume1 P v p env first) (Str.ofString "node") (.dat nd)) (Str.ofString "kind") (.dat kind)

theorem resume_pre {call : Str → List D → St → Option (PyData × St)} {N : Nat} {P G : List PyData} {v kind env first : PyData} {p : Nat} {k : Nat} {a b c : PyData} (h1 : p < 4096) (hp : P[p]? = some (.tuple [kind, a, b, c])) (hG : G.length ≤ 4096) (hk : (G.length : Int) - 1 = (k : Int)) (hk1 : k < 4096)
    (hg : G[k]? = some (.tuple [.int p, env, first])) :
    runFn N call fResume.1 [.dat (.list P), .dat v, .fr] (some G) = match exSs ⟨fResume.1.sc, call, N⟩ (bResume.1.drop 4) (rResume P v (.tuple [kind, a, b, c]) kind p env first) (some G.dropLast) with | some (f, _, σ') => some (resD f, σ') | none => none := by
  rw [qRunFr rfl rfl rfl, eResume]
  refine congrArg (fun r : Res => match r with | some (f, _, σ') => some (resD f, σ') | none => none) ((seqN (ρ₁ := rResume1 P v p env first) (σ₁ := some G) ?_).trans ((seqN (ρ₁ := rResume1 P v p env first) (σ₁ := some G.dropLast) ?_).trans ((seqN (ρ₁ := setL (rResume1 P v p env first) (Str.ofString "node") (.dat (.tuple [kind, a, b, c]))) (σ₁ := some G.dropLast) ?_).trans (seqN ?_))))
  · simp only [↓qInt, ↓qStr, ↓qBool, ↓qNone, ↓qName, ↓qTuple, ↓qList, ↓qBin, ↓qNeg, ↓qIfExp, ↓qCall, ↓qSl0, ↓qSl1, ↓qSub, ↓qEs0, ↓qEs1, ↓qCmp, ↓qNot, ↓qBoolOp, ↓qAnd0, ↓qOr0, ↓qAnd1, ↓qOr1, ↓qRet, ↓qAsg, ↓qAsgT, ↓qIf, ↓qSs0, ↓qSs1, ↓qTup0, ↓qTup1, ↓qApp, ↓qDel, qApp1, qIs, qIsNot, qIsTy, qGetT0, qGetT1, qGetT2, qGetT3, qAddI, qSubI, qTypeI, qNegI, qSlI, qRetD, qTupD, qLisD, qNewFr, qPV1, qPV2, qNil, qN0, qN1, aD0, aD1, aD2, aD3, aD4, aD5, aD6, aD7, aD8, aD9, aD10, aD11, aD12, sM0, sM1, sM2, sM3, sM4, sM5, sM6, sM7, sM8, sM9, sM10, sM11, sM12, Bool.not_true, Bool.not_false, Nat.reduceBEq, resD, se_nodes, sn_nodes_value, sn_nodes_frames, sn_nodes_place, sn_nodes_env, se_value, sn_value_frames, se_frames, sn_frames_nodes, se_place, sn_place_nodes, sn_place_value, sn_place_frames, sn_place_env, se_env, sn_env_nodes, sn_env_value, sn_env_frames, sn_env_place, se_first, sn_first_nodes, sn_first_value, sn_first_frames, sn_first_place, sn_first_env, se_node, sn_node_value, sn_node_frames, sn_node_place, sn_node_env, sn_node_first, se_kind, sn_kind_nodes, sn_kind_value, sn_kind_env, sn_kind_first, sn_kind_node, se_wanted, sn_wanted_value, sn_wanted_env, sn_wanted_node, sn_wanted_kind, fn_kind, loResume_node, fn_node, loResume_wanted, fn_wanted, caResume_len, qLenF hG, hk, subD]
    rw [if_pos (by omega), Int.toNat_natCast, hg]
    rfl
  · simp only [↓qInt, ↓qStr, ↓qBool, ↓qNone, ↓qName, ↓qTuple, ↓qList, ↓qBin, ↓qNeg, ↓qIfExp, ↓qCall, ↓qSl0, ↓qSl1, ↓qSub, ↓qEs0, ↓qEs1, ↓qCmp, ↓qNot, ↓qBoolOp, ↓qAnd0, ↓qOr0, ↓qAnd1, ↓qOr1, ↓qRet, ↓qAsg, ↓qAsgT, ↓qIf, ↓qSs0, ↓qSs1, ↓qTup0, ↓qTup1, ↓qApp, ↓qDel, qApp1, qIs, qIsNot, qIsTy, qGetT0, qGetT1, qGetT2, qGetT3, qAddI, qSubI, qTypeI, qNegI, qSlI, qRetD, qTupD, qLisD, qNewFr, qPV1, qPV2, qNil, qN0, qN1, aD0, aD1, aD2, aD3, aD4, aD5, aD6, aD7, aD8, aD9, aD10, aD11, aD12, sM0, sM1, sM2, sM3, sM4, sM5, sM6, sM7, sM8, sM9, sM10, sM11, sM12, Bool.not_true, Bool.not_false, Nat.reduceBEq, resD, se_nodes, sn_nodes_value, sn_nodes_frames, sn_nodes_place, sn_nodes_env, se_value, sn_value_frames, se_frames, sn_frames_nodes, se_place, sn_place_nodes, sn_place_value, sn_place_frames, sn_place_env, se_env, sn_env_nodes, sn_env_value, sn_env_frames, sn_env_place, se_first, sn_first_nodes, sn_first_value, sn_first_frames, sn_first_place, sn_first_env, se_node, sn_node_value, sn_node_frames, sn_node_place, sn_node_env, sn_node_first, se_kind, sn_kind_nodes, sn_kind_value, sn_kind_env, sn_kind_first, sn_kind_node, se_wanted, sn_wanted_value, sn_wanted_env, sn_wanted_node, sn_wanted_kind, fn_kind, loResume_node, fn_node, loResume_wanted, fn_wanted, caResume_len, rResume1, qLenF hG, hk]
    rw [qPopF (by omega)]
  · simp only [↓qInt, ↓qStr, ↓qBool, ↓qNone, ↓qName, ↓qTuple, ↓qList, ↓qBin, ↓qNeg, ↓qIfExp, ↓qCall, ↓qSl0, ↓qSl1, ↓qSub, ↓qEs0, ↓qEs1, ↓qCmp, ↓qNot, ↓qBoolOp, ↓qAnd0, ↓qOr0, ↓qAnd1, ↓qOr1, ↓qRet, ↓qAsg, ↓qAsgT, ↓qIf, ↓qSs0, ↓qSs1, ↓qTup0, ↓qTup1, ↓qApp, ↓qDel, qApp1, qIs, qIsNot, qIsTy, qGetT0, qGetT1, qGetT2, qGetT3, qAddI, qSubI, qTypeI, qNegI, qSlI, qRetD, qTupD, qLisD, qNewFr, qPV1, qPV2, qNil, qN0, qN1, aD0, aD1, aD2, aD3, aD4, aD5, aD6, aD7, aD8, aD9, aD10, aD11, aD12, sM0, sM1, sM2, sM3, sM4, sM5, sM6, sM7, sM8, sM9, sM10, sM11, sM12, Bool.not_true, Bool.not_false, Nat.reduceBEq, resD, se_nodes, sn_nodes_value, sn_nodes_frames, sn_nodes_place, sn_nodes_env, se_value, sn_value_frames, se_frames, sn_frames_nodes, se_place, sn_place_nodes, sn_place_value, sn_place_frames, sn_place_env, se_env, sn_env_nodes, sn_env_value, sn_env_frames, sn_env_place, se_first, sn_first_nodes, sn_first_value, sn_first_frames, sn_first_place, sn_first_env, se_node, sn_node_value, sn_node_frames, sn_node_place, sn_node_env, sn_node_first, se_kind, sn_kind_nodes, sn_kind_value, sn_kind_env, sn_kind_first, sn_kind_node, se_wanted, sn_wanted_value, sn_wanted_env, sn_wanted_node, sn_wanted_kind, fn_kind, loResume_node, fn_node, loResume_wanted, fn_wanted, caResume_len, rResume1, qGetL h1 hp]
  · rfl

theorem frD_last (f : Fm) (fs : List Fm) : (frD (f :: fs))[fs.length]? = some f.toD := by
  rw [frD_cons, ← frD_len fs]
  simp
theorem frD_drop (f : Fm) (fs : List Fm) : (frD (f :: fs)).dropLast = frD fs := by rw [frD_cons, List.dropLast_concat]

noncomputable def rIf : { x : Expr × List Stmt × List Stmt × Pos // bResume.1.drop 4 = .If x.1 x.2.1 x.2.2.1 x.2.2.2 :: bResume.1.drop 5 } := ⟨(_, _, _, _), rfl⟩
noncomputable def after (cx : Cx) (r : Res) : Res := match r with
  | some (.next, ρ₁, σ₁) => exSs cx (bResume.1.drop 5) ρ₁ σ₁
  | some (.ret d, ρ₁, σ₁) => some (.ret d, ρ₁, σ₁)
  | none => none

section
variable {call : Str → List D → St → Option (PyData × St)} {N : Nat} {P fs env : List PyData} {v kd a b c w : PyData} {p : Int} {ρ ρ' : Loc}
theorem rs_push (r1 : ρ (Str.ofString "frames") = some .fr) (r2 : ρ (Str.ofString "place") = some (.dat (.int p))) (r3 : ρ (Str.ofString "env") = some (.dat (.list env))) (r4 : ρ (Str.ofString "value") = some (.dat v)) (r5 : ρ (Str.ofString "node") = some (.dat (.tuple [kd, a, b, c])))
    (hf : fs.length ≤ 4096) (he : env.length ≤ 4096) : exSs ⟨fResume.1.sc, call, N⟩ (rIf.1.2.1.drop 7) ρ (some fs) = some (.ret (.tuple [.str (Str.ofString "eval"), b, .list env]), ρ, some (fs ++ [.tuple [.int p, .list env, v]])) := by
  simp only [rIf, List.drop_succ_cons, List.drop_zero, r1, r2, r3, r4, r5, ↓qInt, ↓qStr, ↓qBool, ↓qNone, ↓qName, ↓qTuple, ↓qList, ↓qBin, ↓qNeg, ↓qIfExp, ↓qCall, ↓qSl0, ↓qSl1, ↓qSub, ↓qEs0, ↓qEs1, ↓qCmp, ↓qNot, ↓qBoolOp, ↓qAnd0, ↓qOr0, ↓qAnd1, ↓qOr1, ↓qRet, ↓qAsg, ↓qAsgT, ↓qIf, ↓qSs0, ↓qSs1, ↓qTup0, ↓qTup1, ↓qApp, ↓qDel, qApp1, qIs, qIsNot, qIsTy, qGetT0, qGetT1, qGetT2, qGetT3, qAddI, qSubI, qTypeI, qNegI, qSlI, qRetD, qTupD, qLisD, qNewFr, qPV1, qPV2, qNil, qN0, qN1, aD0, aD1, aD2, aD3, aD4, aD5, aD6, aD7, aD8, aD9, aD10, aD11, aD12, sM0, sM1, sM2, sM3, sM4, sM5, sM6, sM7, sM8, sM9, sM10, sM11, sM12, Bool.not_true, Bool.not_false, Nat.reduceBEq, resD, se_nodes, sn_nodes_value, sn_nodes_frames, sn_nodes_place, sn_nodes_env, se_value, sn_value_frames, se_frames, sn_frames_nodes, se_place, sn_place_nodes, sn_place_value, sn_place_frames, sn_place_env, se_env, sn_env_nodes, sn_env_value, sn_env_frames, sn_env_place, se_first, sn_first_nodes, sn_first_value, sn_first_frames, sn_first_place, sn_first_env, se_node, sn_node_value, sn_node_frames, sn_node_place, sn_node_env, sn_node_first, se_kind, sn_kind_nodes, sn_kind_value, sn_kind_env, sn_kind_first, sn_kind_node, se_wanted, sn_wanted_value, sn_wanted_env, sn_wanted_node, sn_wanted_kind, fn_kind, loResume_node, fn_node, loResume_wanted, fn_wanted, caResume_len, qAppF hf, qCut0 he]
theorem push_of (ρ : Loc) (h : exSs ⟨fResume.1.sc, call, N⟩ (bResume.1.drop 4) (rResume P v (.tuple [kd, a, b, c]) kd p (.list env) .none) (some fs) = after ⟨fResume.1.sc, call, N⟩ (exSs ⟨fResume.1.sc, call, N⟩ (rIf.1.2.1.drop 7) ρ (some fs)))
    (hf : fs.length ≤ 4096) (he : env.length ≤ 4096) (r1 : ρ (Str.ofString "frames") = some .fr) (r2 : ρ (Str.ofString "place") = some (.dat (.int p))) (r3 : ρ (Str.ofString "env") = some (.dat (.list env))) (r4 : ρ (Str.ofString "value") = some (.dat v)) (r5 : ρ (Str.ofString "node") = some (.dat (.tuple [kd, a, b, c]))) :
    (match exSs ⟨fResume.1.sc, call, N⟩ (bResume.1.drop 4) (rResume P v (.tuple [kd, a, b, c]) kd p (.list env) .none) (some fs) with | some (f, _, σ') => some (resD f, σ') | none => none) = some (.tuple [.str (Str.ofString "eval"), b, .list env], some (fs ++ [.tuple [.int p, .list env, v]])) := by
  rw [h, rs_push r1 r2 r3 r4 r5 hf he]
  rfl
noncomputable def wnt (ρ : Loc) (s : String) : Loc := setL ρ (Str.ofString "wanted") (.dat (.str (Str.ofString s)))
theorem rs_let (he : 1 + env.length ≤ 4096) : exSs ⟨fResume.1.sc, call, N⟩ (bResume.1.drop 4) (rResume P v (.tuple [.str (Str.ofString "let"), a, b, c]) (.str (Str.ofString "let")) p (.list env) .none) (some fs)
    = some (.ret (.tuple [.str (Str.ofString "eval"), b, .list ([v] ++ env)]), rResume P v (.tuple [.str (Str.ofString "let"), a, b, c]) (.str (Str.ofString "let")) p (.list env) .none, some fs) := by
  simp only [bResume, List.drop_succ_cons, List.drop_zero, rResume, rResume1, ↓qInt, ↓qStr, ↓qBool, ↓qNone, ↓qName, ↓qTuple, ↓qList, ↓qBin, ↓qNeg, ↓qIfExp, ↓qCall, ↓qSl0, ↓qSl1, ↓qSub, ↓qEs0, ↓qEs1, ↓qCmp, ↓qNot, ↓qBoolOp, ↓qAnd0, ↓qOr0, ↓qAnd1, ↓qOr1, ↓qRet, ↓qAsg, ↓qAsgT, ↓qIf, ↓qSs0, ↓qSs1, ↓qTup0, ↓qTup1, ↓qApp, ↓qDel, qApp1, qIs, qIsNot, qIsTy, qGetT0, qGetT1, qGetT2, qGetT3, qAddI, qSubI, qTypeI, qNegI, qSlI, qRetD, qTupD, qLisD, qNewFr, qPV1, qPV2, qNil, qN0, qN1, aD0, aD1, aD2, aD3, aD4, aD5, aD6, aD7, aD8, aD9, aD10, aD11, aD12, sM0, sM1, sM2, sM3, sM4, sM5, sM6, sM7, sM8, sM9, sM10, sM11, sM12, Bool.not_true, Bool.not_false, Nat.reduceBEq, resD, se_nodes, sn_nodes_value, sn_nodes_frames, sn_nodes_place, sn_nodes_env, se_value, sn_value_frames, se_frames, sn_frames_nodes, se_place, sn_place_nodes, sn_place_value, sn_place_frames, sn_place_env, se_env, sn_env_nodes, sn_env_value, sn_env_frames, sn_env_place, se_first, sn_first_nodes, sn_first_value, sn_first_frames, sn_first_place, sn_first_env, se_node, sn_node_value, sn_node_frames, sn_node_place, sn_node_env, sn_node_first, se_kind, sn_kind_nodes, sn_kind_value, sn_kind_env, sn_kind_first, sn_kind_node, se_wanted, sn_wanted_value, sn_wanted_env, sn_wanted_node, sn_wanted_kind, fn_kind, loResume_node, fn_node, loResume_wanted, fn_wanted, caResume_len, tEq_let_let, qAddL (xs := [v]) (Nat.le_trans (Nat.le_refl _) he)]
theorem rs_if {n : Int} (he : env.length ≤ 4096) : exSs ⟨fResume.1.sc, call, N⟩ (bResume.1.drop 4) (rResume P (.tuple [.str (Str.ofString "bool"), .int n]) (.tuple [.str (Str.ofString "if"), a, b, c]) (.str (Str.ofString "if")) p (.list env) .none) (some fs)
    = some (.ret (.tuple [.str (Str.ofString "eval"), if n = 1 then b else c, .list env]), wnt (wnt (rResume P (.tuple [.str (Str.ofString "bool"), .int n]) (.tuple [.str (Str.ofString "if"), a, b, c]) (.str (Str.ofString "if")) p (.list env) .none) "int") "bool", some fs) := by
  have e : cmpD (some fs) .Eq (.dat (.int n)) (.dat (.int 1)) = some (decide (n = 1)) := qEqI
  by_cases h : n = 1
  · rw [decide_eq_true h] at e
    simp only [bResume, List.drop_succ_cons, List.drop_zero, rResume, rResume1, ↓qInt, ↓qStr, ↓qBool, ↓qNone, ↓qName, ↓qTuple, ↓qList, ↓qBin, ↓qNeg, ↓qIfExp, ↓qCall, ↓qSl0, ↓qSl1, ↓qSub, ↓qEs0, ↓qEs1, ↓qCmp, ↓qNot, ↓qBoolOp, ↓qAnd0, ↓qOr0, ↓qAnd1, ↓qOr1, ↓qRet, ↓qAsg, ↓qAsgT, ↓qIf, ↓qSs0, ↓qSs1, ↓qTup0, ↓qTup1, ↓qApp, ↓qDel, qApp1, qIs, qIsNot, qIsTy, qGetT0, qGetT1, qGetT2, qGetT3, qAddI, qSubI, qTypeI, qNegI, qSlI, qRetD, qTupD, qLisD, qNewFr, qPV1, qPV2, qNil, qN0, qN1, aD0, aD1, aD2, aD3, aD4, aD5, aD6, aD7, aD8, aD9, aD10, aD11, aD12, sM0, sM1, sM2, sM3, sM4, sM5, sM6, sM7, sM8, sM9, sM10, sM11, sM12, Bool.not_true, Bool.not_false, Nat.reduceBEq, resD, se_nodes, sn_nodes_value, sn_nodes_frames, sn_nodes_place, sn_nodes_env, se_value, sn_value_frames, se_frames, sn_frames_nodes, se_place, sn_place_nodes, sn_place_value, sn_place_frames, sn_place_env, se_env, sn_env_nodes, sn_env_value, sn_env_frames, sn_env_place, se_first, sn_first_nodes, sn_first_value, sn_first_frames, sn_first_place, sn_first_env, se_node, sn_node_value, sn_node_frames, sn_node_place, sn_node_env, sn_node_first, se_kind, sn_kind_nodes, sn_kind_value, sn_kind_env, sn_kind_first, sn_kind_node, se_wanted, sn_wanted_value, sn_wanted_env, sn_wanted_node, sn_wanted_kind, fn_kind, loResume_node, fn_node, loResume_wanted, fn_wanted, caResume_len, wnt, tEq_if_app, tEq_if_if, tEq_if_let, tEq_if_pair, tNotEq_bool_bool, e, qCut0 he, if_pos h]
  · rw [decide_eq_false h] at e
    simp only [bResume, List.drop_succ_cons, List.drop_zero, rResume, rResume1, ↓qInt, ↓qStr, ↓qBool, ↓qNone, ↓qName, ↓qTuple, ↓qList, ↓qBin, ↓qNeg, ↓qIfExp, ↓qCall, ↓qSl0, ↓qSl1, ↓qSub, ↓qEs0, ↓qEs1, ↓qCmp, ↓qNot, ↓qBoolOp, ↓qAnd0, ↓qOr0, ↓qAnd1, ↓qOr1, ↓qRet, ↓qAsg, ↓qAsgT, ↓qIf, ↓qSs0, ↓qSs1, ↓qTup0, ↓qTup1, ↓qApp, ↓qDel, qApp1, qIs, qIsNot, qIsTy, qGetT0, qGetT1, qGetT2, qGetT3, qAddI, qSubI, qTypeI, qNegI, qSlI, qRetD, qTupD, qLisD, qNewFr, qPV1, qPV2, qNil, qN0, qN1, aD0, aD1, aD2, aD3, aD4, aD5, aD6, aD7, aD8, aD9, aD10, aD11, aD12, sM0, sM1, sM2, sM3, sM4, sM5, sM6, sM7, sM8, sM9, sM10, sM11, sM12, Bool.not_true, Bool.not_false, Nat.reduceBEq, resD, se_nodes, sn_nodes_value, sn_nodes_frames, sn_nodes_place, sn_nodes_env, se_value, sn_value_frames, se_frames, sn_frames_nodes, se_place, sn_place_nodes, sn_place_value, sn_place_frames, sn_place_env, se_env, sn_env_nodes, sn_env_value, sn_env_frames, sn_env_place, se_first, sn_first_nodes, sn_first_value, sn_first_frames, sn_first_place, sn_first_env, se_node, sn_node_value, sn_node_frames, sn_node_place, sn_node_env, sn_node_first, se_kind, sn_kind_nodes, sn_kind_value, sn_kind_env, sn_kind_first, sn_kind_node, se_wanted, sn_wanted_value, sn_wanted_env, sn_wanted_node, sn_wanted_kind, fn_kind, loResume_node, fn_node, loResume_wanted, fn_wanted, caResume_len, wnt, tEq_if_app, tEq_if_if, tEq_if_let, tEq_if_pair, tNotEq_bool_bool, e, qCut0 he, if_neg h]
theorem rs_app {k q : PyData} {cenv : List PyData} (he : 1 + cenv.length ≤ 4096) : exSs ⟨fResume.1.sc, call, N⟩ (bResume.1.drop 4) (rResume P v (.tuple [.str (Str.ofString "app"), a, b, c]) (.str (Str.ofString "app")) p (.list env) (.tuple [k, q, .list cenv])) (some fs)
    = some (.ret (.tuple [.str (Str.ofString "eval"), q, .list ([v] ++ cenv)]), rResume P v (.tuple [.str (Str.ofString "app"), a, b, c]) (.str (Str.ofString "app")) p (.list env) (.tuple [k, q, .list cenv]), some fs) := by
  simp only [bResume, List.drop_succ_cons, List.drop_zero, rResume, rResume1, ↓qInt, ↓qStr, ↓qBool, ↓qNone, ↓qName, ↓qTuple, ↓qList, ↓qBin, ↓qNeg, ↓qIfExp, ↓qCall, ↓qSl0, ↓qSl1, ↓qSub, ↓qEs0, ↓qEs1, ↓qCmp, ↓qNot, ↓qBoolOp, ↓qAnd0, ↓qOr0, ↓qAnd1, ↓qOr1, ↓qRet, ↓qAsg, ↓qAsgT, ↓qIf, ↓qSs0, ↓qSs1, ↓qTup0, ↓qTup1, ↓qApp, ↓qDel, qApp1, qIs, qIsNot, qIsTy, qGetT0, qGetT1, qGetT2, qGetT3, qAddI, qSubI, qTypeI, qNegI, qSlI, qRetD, qTupD, qLisD, qNewFr, qPV1, qPV2, qNil, qN0, qN1, aD0, aD1, aD2, aD3, aD4, aD5, aD6, aD7, aD8, aD9, aD10, aD11, aD12, sM0, sM1, sM2, sM3, sM4, sM5, sM6, sM7, sM8, sM9, sM10, sM11, sM12, Bool.not_true, Bool.not_false, Nat.reduceBEq, resD, se_nodes, sn_nodes_value, sn_nodes_frames, sn_nodes_place, sn_nodes_env, se_value, sn_value_frames, se_frames, sn_frames_nodes, se_place, sn_place_nodes, sn_place_value, sn_place_frames, sn_place_env, se_env, sn_env_nodes, sn_env_value, sn_env_frames, sn_env_place, se_first, sn_first_nodes, sn_first_value, sn_first_frames, sn_first_place, sn_first_env, se_node, sn_node_value, sn_node_frames, sn_node_place, sn_node_env, sn_node_first, se_kind, sn_kind_nodes, sn_kind_value, sn_kind_env, sn_kind_first, sn_kind_node, se_wanted, sn_wanted_value, sn_wanted_env, sn_wanted_node, sn_wanted_kind, fn_kind, loResume_node, fn_node, loResume_wanted, fn_wanted, caResume_len, tEq_app_app, qAddL (xs := [v]) (Nat.le_trans (Nat.le_refl _) he)]
theorem rs_less {i j : Int} {k : PyData} : exSs ⟨fResume.1.sc, call, N⟩ (bResume.1.drop 4) (rResume P (.tuple [.str (Str.ofString "int"), .int j]) (.tuple [.str (Str.ofString "less"), a, b, c]) (.str (Str.ofString "less")) p (.list env) (.tuple [k, .int i])) (some fs)
    = some (.ret (.tuple [.str (Str.ofString "back"), .tuple [.str (Str.ofString "bool"), .int (if i < j then 1 else 0)], .list []]), rResume P (.tuple [.str (Str.ofString "int"), .int j]) (.tuple [.str (Str.ofString "less"), a, b, c]) (.str (Str.ofString "less")) p (.list env) (.tuple [k, .int i]), some fs) := by
  have e : cmpD (some fs) .Lt (.dat (.int i)) (.dat (.int j)) = some (decide (i < j)) := rfl
  by_cases h : i < j
  · rw [decide_eq_true h] at e
    simp only [bResume, List.drop_succ_cons, List.drop_zero, rResume, rResume1, ↓qInt, ↓qStr, ↓qBool, ↓qNone, ↓qName, ↓qTuple, ↓qList, ↓qBin, ↓qNeg, ↓qIfExp, ↓qCall, ↓qSl0, ↓qSl1, ↓qSub, ↓qEs0, ↓qEs1, ↓qCmp, ↓qNot, ↓qBoolOp, ↓qAnd0, ↓qOr0, ↓qAnd1, ↓qOr1, ↓qRet, ↓qAsg, ↓qAsgT, ↓qIf, ↓qSs0, ↓qSs1, ↓qTup0, ↓qTup1, ↓qApp, ↓qDel, qApp1, qIs, qIsNot, qIsTy, qGetT0, qGetT1, qGetT2, qGetT3, qAddI, qSubI, qTypeI, qNegI, qSlI, qRetD, qTupD, qLisD, qNewFr, qPV1, qPV2, qNil, qN0, qN1, aD0, aD1, aD2, aD3, aD4, aD5, aD6, aD7, aD8, aD9, aD10, aD11, aD12, sM0, sM1, sM2, sM3, sM4, sM5, sM6, sM7, sM8, sM9, sM10, sM11, sM12, Bool.not_true, Bool.not_false, Nat.reduceBEq, resD, se_nodes, sn_nodes_value, sn_nodes_frames, sn_nodes_place, sn_nodes_env, se_value, sn_value_frames, se_frames, sn_frames_nodes, se_place, sn_place_nodes, sn_place_value, sn_place_frames, sn_place_env, se_env, sn_env_nodes, sn_env_value, sn_env_frames, sn_env_place, se_first, sn_first_nodes, sn_first_value, sn_first_frames, sn_first_place, sn_first_env, se_node, sn_node_value, sn_node_frames, sn_node_place, sn_node_env, sn_node_first, se_kind, sn_kind_nodes, sn_kind_value, sn_kind_env, sn_kind_first, sn_kind_node, se_wanted, sn_wanted_value, sn_wanted_env, sn_wanted_node, sn_wanted_kind, fn_kind, loResume_node, fn_node, loResume_wanted, fn_wanted, caResume_len, tEq_less_add, tEq_less_app, tEq_less_pair, tNotEq_int_int, e, if_pos h]
  · rw [decide_eq_false h] at e
    simp only [bResume, List.drop_succ_cons, List.drop_zero, rResume, rResume1, ↓qInt, ↓qStr, ↓qBool, ↓qNone, ↓qName, ↓qTuple, ↓qList, ↓qBin, ↓qNeg, ↓qIfExp, ↓qCall, ↓qSl0, ↓qSl1, ↓qSub, ↓qEs0, ↓qEs1, ↓qCmp, ↓qNot, ↓qBoolOp, ↓qAnd0, ↓qOr0, ↓qAnd1, ↓qOr1, ↓qRet, ↓qAsg, ↓qAsgT, ↓qIf, ↓qSs0, ↓qSs1, ↓qTup0, ↓qTup1, ↓qApp, ↓qDel, qApp1, qIs, qIsNot, qIsTy, qGetT0, qGetT1, qGetT2, qGetT3, qAddI, qSubI, qTypeI, qNegI, qSlI, qRetD, qTupD, qLisD, qNewFr, qPV1, qPV2, qNil, qN0, qN1, aD0, aD1, aD2, aD3, aD4, aD5, aD6, aD7, aD8, aD9, aD10, aD11, aD12, sM0, sM1, sM2, sM3, sM4, sM5, sM6, sM7, sM8, sM9, sM10, sM11, sM12, Bool.not_true, Bool.not_false, Nat.reduceBEq, resD, se_nodes, sn_nodes_value, sn_nodes_frames, sn_nodes_place, sn_nodes_env, se_value, sn_value_frames, se_frames, sn_frames_nodes, se_place, sn_place_nodes, sn_place_value, sn_place_frames, sn_place_env, se_env, sn_env_nodes, sn_env_value, sn_env_frames, sn_env_place, se_first, sn_first_nodes, sn_first_value, sn_first_frames, sn_first_place, sn_first_env, se_node, sn_node_value, sn_node_frames, sn_node_place, sn_node_env, sn_node_first, se_kind, sn_kind_nodes, sn_kind_value, sn_kind_env, sn_kind_first, sn_kind_node, se_wanted, sn_wanted_value, sn_wanted_env, sn_wanted_node, sn_wanted_kind, fn_kind, loResume_node, fn_node, loResume_wanted, fn_wanted, caResume_len, tEq_less_add, tEq_less_app, tEq_less_pair, tNotEq_int_int, e, if_neg h]
end

set_option maxHeartbeats 2000000 in
theorem resume_spec {call : Str → List D → St → Option (PyData × St)} {N : Nat} {P : List Nd} {v : V} {fs : List Fm} {x : S × List Fm} (hr : resume P v fs = some x) (hP : P.length ≤ 4000) (hfs : fs.length ≤ 4000) :
    runFn N call fResume.1 [.dat (.list (P.map Nd.toD)), .dat v.toD, .fr] (some (frD fs)) = some (x.1.toD, some (frD x.2)) := by
  cases fs with
  | nil => cases hr
  | cons fm fs =>
  obtain ⟨p, env, first⟩ := fm
  rw [resume] at hr
  split at hr
  · rename_i hen
    cases hp : P[p]? with
    | none => rw [hp] at hr; cases hr
    | some nd =>
      rw [hp] at hr
      dsimp only at hr
      have hlt := get_lt hp
      have hp' := getP hp
      have hl : (frD ((p, env, first) :: fs)).length = fs.length + 1 := by rw [frD_len]; rfl
      have hfs' : fs.length + 1 ≤ 4000 := hfs
      have h2 : (frD fs).length ≤ 4096 := by rw [frD_len]; omega
      have h3 : (V.toDs env).length ≤ 4096 := by rw [toDs_len]; omega
      have h4 : 1 + (V.toDs env).length ≤ 4096 := by rw [toDs_len]; omega
      have hd : ∃ k a b c, nd.toD = .tuple [k, a, b, c] := by cases nd <;> exact ⟨_, _, _, _, rfl⟩
      obtain ⟨kd, ka, kb, kc, hd⟩ := hd
      rw [hd] at hp'
      have pre := resume_pre (call := call) (N := N) (G := frD ((p, env, first) :: fs)) (v := v.toD) (env := .list (V.toDs env)) (first := optD first) (k := fs.length) (by omega) hp' (by omega) (by omega) (by omega) (frD_last (p, env, first) fs)
      rw [frD_drop] at pre
      rw [pre]
      clear pre hp' hl
      cases first with
      | none =>
        dsimp only at hr
        cases nd
        case bnd a b => cases hr; cases hd; rw [show optD none = .none from rfl, rs_let h4]; rfl
        case pair a b =>
          cases hr; cases hd; rw [frD_cons]
          cases v with
          | int n => exact push_of (v := V.toD _) (wnt (wnt (rResume _ _ _ _ _ _ _) "int") "int") rfl h2 h3 rfl rfl rfl rfl rfl
          | bool n => exact push_of (v := V.toD _) (wnt (wnt (rResume _ _ _ _ _ _ _) "int") "bool") rfl h2 h3 rfl rfl rfl rfl rfl
          | clo n e => exact push_of (v := V.toD _) (wnt (wnt (rResume _ _ _ _ _ _ _) "int") "clo") rfl h2 h3 rfl rfl rfl rfl rfl
          | pair n e => exact push_of (v := V.toD _) (wnt (wnt (rResume _ _ _ _ _ _ _) "int") "pair") rfl h2 h3 rfl rfl rfl rfl rfl
        case app a b =>
          cases hd
          cases v with
          | clo n e => cases hr; rw [frD_cons]; exact push_of (v := V.toD _) (wnt (wnt (rResume _ _ _ _ _ _ _) "int") "clo") rfl h2 h3 rfl rfl rfl rfl rfl
          | _ => cases hr; rfl
        case ite a b c =>
          cases hd
          cases v with
          | bool n =>
            cases hr
            rw [show optD none = .none from rfl, show (V.bool n).toD = .tuple [.str (Str.ofString "bool"), .int n] from rfl, rs_if h3]
            by_cases hn : n = 1
            · simp only [if_pos hn]; rfl
            · simp only [if_neg hn]; rfl
          | _ => cases hr; rfl
        all_goals first
          | (cases hr; done)
          | (cases hd
             cases v <;> cases hr <;> first | rfl | (rw [frD_cons]; exact push_of (v := V.toD _) (wnt (rResume _ _ _ _ _ _ _) "int") rfl h2 h3 rfl rfl rfl rfl rfl))
      | some w =>
        dsimp only at hr
        cases nd
        case app a b =>
          cases hd
          cases w with
          | clo q cenv =>
            rw [resume2] at hr
            split at hr
            · rename_i hce
              cases hr
              have h5 : 1 + (V.toDs cenv).length ≤ 4096 := by rw [toDs_len]; omega
              rw [show optD (some (V.clo q cenv)) = .tuple [.str (Str.ofString "clo"), .int q, .list (V.toDs cenv)] from rfl, rs_app h5]; rfl
            · cases hr
          | _ => cases hr
        case pair a b => cases hd; cases hr; cases w <;> rfl
        case add a b =>
          cases hd
          cases w with
          | int i => cases v <;> cases hr <;> rfl
          | _ => cases hr
        case less a b =>
          cases hd
          cases w with
          | int i =>
            cases v with
            | int j =>
              cases hr
              rw [show optD (some (V.int i)) = .tuple [.str (Str.ofString "int"), .int i] from rfl, show (V.int j).toD = .tuple [.str (Str.ofString "int"), .int j] from rfl, rs_less]
              try rfl
            | _ => cases hr; rfl
          | _ => cases hr
        all_goals (cases hr; done)
  · cases hr

end Zp
end

section
namespace Zp
open PySem

noncomputable def fnTab : List (Str × Fn) := [(Str.ofString "begin_node", fBegin.1), (Str.ofString "resume_frame", fResume.1), (Str.ofString "run", fRun.1), (Str.ofString "_law_leaf", fLeaf.1), (Str.ofString "_law_sides", fSides.1), (Str.ofString "_law_both", fBoth.1), (Str.ofString "_law_closure", fClosure.1), (Str.ofString "_law_part", fPart.1), (Str.ofString "_law_if", fIf.1), (Str.ofString "_law_bound", fBound.1), (Str.ofString "_law_plain", fPlain.1), (Str.ofString "_law_calls", fCalls.1), (Str.ofString "_law_end", fEnd.1), (Str.ofString "law", fLaw.1)]
theorem text_fns : Text.filterMap fnOfStmt = fnTab := rfl
theorem fnAt {f : String} {fn : Fn} (h : List.lookup (Str.ofString f) fnTab = some fn) {N n : Nat} {ds : List D} {σ : St} :
    callD Text N (n + 1) (Str.ofString f) ds σ = runFn N (callD Text N n) fn ds σ := by
  rw [callD]
  unfold theFn
  rw [text_fns, h]
  rfl
theorem cBegin {N n : Nat} {ds : List D} {σ : St} : callD Text N (n + 1) (Str.ofString "begin_node") ds σ = runFn N (callD Text N n) fBegin.1 ds σ := fnAt rfl
theorem cResume {N n : Nat} {ds : List D} {σ : St} : callD Text N (n + 1) (Str.ofString "resume_frame") ds σ = runFn N (callD Text N n) fResume.1 ds σ := fnAt rfl
theorem cRun {N n : Nat} {ds : List D} {σ : St} : callD Text N (n + 1) (Str.ofString "run") ds σ = runFn N (callD Text N n) fRun.1 ds σ := fnAt rfl
theorem cLeaf {N n : Nat} {ds : List D} {σ : St} : callD Text N (n + 1) (Str.ofString "_law_leaf") ds σ = runFn N (callD Text N n) fLeaf.1 ds σ := fnAt rfl
theorem cSides {N n : Nat} {ds : List D} {σ : St} : callD Text N (n + 1) (Str.ofString "_law_sides") ds σ = runFn N (callD Text N n) fSides.1 ds σ := fnAt rfl
theorem cBoth {N n : Nat} {ds : List D} {σ : St} : callD Text N (n + 1) (Str.ofString "_law_both") ds σ = runFn N (callD Text N n) fBoth.1 ds σ := fnAt rfl
theorem cClosure {N n : Nat} {ds : List D} {σ : St} : callD Text N (n + 1) (Str.ofString "_law_closure") ds σ = runFn N (callD Text N n) fClosure.1 ds σ := fnAt rfl
theorem cPart {N n : Nat} {ds : List D} {σ : St} : callD Text N (n + 1) (Str.ofString "_law_part") ds σ = runFn N (callD Text N n) fPart.1 ds σ := fnAt rfl
theorem cIf {N n : Nat} {ds : List D} {σ : St} : callD Text N (n + 1) (Str.ofString "_law_if") ds σ = runFn N (callD Text N n) fIf.1 ds σ := fnAt rfl
theorem cBound {N n : Nat} {ds : List D} {σ : St} : callD Text N (n + 1) (Str.ofString "_law_bound") ds σ = runFn N (callD Text N n) fBound.1 ds σ := fnAt rfl
theorem cPlain {N n : Nat} {ds : List D} {σ : St} : callD Text N (n + 1) (Str.ofString "_law_plain") ds σ = runFn N (callD Text N n) fPlain.1 ds σ := fnAt rfl
theorem cCalls {N n : Nat} {ds : List D} {σ : St} : callD Text N (n + 1) (Str.ofString "_law_calls") ds σ = runFn N (callD Text N n) fCalls.1 ds σ := fnAt rfl
theorem cEnd {N n : Nat} {ds : List D} {σ : St} : callD Text N (n + 1) (Str.ofString "_law_end") ds σ = runFn N (callD Text N n) fEnd.1 ds σ := fnAt rfl
theorem cLaw {N n : Nat} {ds : List D} {σ : St} : callD Text N (n + 1) (Str.ofString "law") ds σ = runFn N (callD Text N n) fLaw.1 ds σ := fnAt rfl

mutual
theorem V.canLay : ∀ v : V, v.toD.canLay0 = true
  | .int n => by simp [V.toD, PyData.canLay0, PyData.canLayAll0, strOk_all]
  | .bool n => by simp [V.toD, PyData.canLay0, PyData.canLayAll0, strOk_all]
  | .clo p env => by simp [V.toD, PyData.canLay0, PyData.canLayAll0, strOk_all, V.canLays env]
  | .pair a b => by simp [V.toD, PyData.canLay0, PyData.canLayAll0, strOk_all, V.canLay a, V.canLay b]
theorem V.canLays : ∀ l : List V, PyData.canLayAll0 (V.toDs l) = true
  | [] => by simp [V.toDs, PyData.canLayAll0]
  | v :: r => by simp [V.toDs, PyData.canLayAll0, V.canLay v, V.canLays r]
end
theorem canLayAll_iff : ∀ {l : List PyData}, PyData.canLayAll0 l = true ↔ ∀ d ∈ l, d.canLay0 = true
  | [] => by simp [PyData.canLayAll0]
  | d :: r => by simp [PyData.canLayAll0, canLayAll_iff (l := r)]
theorem fm_canLay (f : Fm) : f.toD.canLay0 = true := by
  obtain ⟨p, env, first⟩ := f
  cases first <;> simp [Fm.toD, optD, PyData.canLay0, PyData.canLayAll0, V.canLays, V.canLay]
theorem frD_canLay (fs : List Fm) : PyData.canLayAll0 (frD fs) = true := by
  rw [canLayAll_iff]
  intro d hd
  simp only [frD, List.mem_reverse, List.mem_map] at hd
  obtain ⟨f, _, rfl⟩ := hd
  exact fm_canLay f
theorem frD_empty (fs : List Fm) : (frD fs).isEmpty = fs.isEmpty := by
  cases fs with
  | nil => rfl
  | cons f r => rw [frD_cons]; simp

noncomputable def wh : { x : Expr × List Stmt × Pos × Stmt // bRun.1.drop 2 = [.While x.1 x.2.1 [] x.2.2.1, x.2.2.2] } := ⟨(_, _, _, _), rfl⟩

/-- what the loop's names hold -/
structure LoopLoc (P : List Nd) (fuel : Int) (s : S) (ρ : Loc) : Prop where
  nodes : ρ (Str.ofString "nodes") = some (.dat (.list (P.map Nd.toD)))
  fuel : ρ (Str.ofString "fuel") = some (.dat (.int fuel))
  state : ρ (Str.ofString "state") = some (.dat s.toD)
  frames : ρ (Str.ofString "frames") = some .fr

noncomputable def turnRes (ρ : Loc) (s : S) (fs : List Fm) : Fl × Loc × St :=
  match s with
  | .stuck => (.ret (.tuple [.str (Str.ofString "stuck"), .none]), ρ, some (frD fs))
  | .back v => match fs with
    | [] => (.ret (.tuple [.str (Str.ofString "done"), v.toD]), ρ, some (frD []))
    | f :: r => (.next, ρ, some (frD (f :: r)))
  | .ev _ _ => (.next, ρ, some (frD fs))

section
variable {call : Str → List D → St → Option (PyData × St)} {N : Nat} {P : List PyData} {fuel : Int} {ρ : Loc} {σ σ' : St} {d a b c : PyData}
theorem turnA_ev (l1 : ρ (Str.ofString "nodes") = some (.dat (.list P))) (l2 : ρ (Str.ofString "fuel") = some (.dat (.int fuel))) (l3 : ρ (Str.ofString "state") = some (.dat (.tuple [.str (Str.ofString "eval"), a, b]))) (l4 : ρ (Str.ofString "frames") = some .fr)
    (hb : call (Str.ofString "begin_node") [.dat (.list P), .dat a, .dat b, .fr] σ = some (d, σ')) :
    exSs ⟨fRun.1.sc, call, N⟩ wh.1.2.1 ρ σ = exSs ⟨fRun.1.sc, call, N⟩ (wh.1.2.1.drop 2) (setL (setL ρ (Str.ofString "fuel") (.dat (.int (fuel - 1)))) (Str.ofString "state") (.dat d)) σ' := by
  refine (seqN (ρ₁ := setL ρ (Str.ofString "fuel") (.dat (.int (fuel - 1)))) (σ₁ := σ) ?_).trans (seqN ?_)
  · simp only [↓qInt, ↓qStr, ↓qBool, ↓qNone, ↓qName, ↓qTuple, ↓qList, ↓qBin, ↓qNeg, ↓qIfExp, ↓qCall, ↓qSl0, ↓qSl1, ↓qSub, ↓qEs0, ↓qEs1, ↓qCmp, ↓qNot, ↓qBoolOp, ↓qAnd0, ↓qOr0, ↓qAnd1, ↓qOr1, ↓qRet, ↓qAsg, ↓qAsgT, ↓qIf, ↓qSs0, ↓qSs1, ↓qTup0, ↓qTup1, ↓qApp, ↓qDel, qApp1, qIs, qIsNot, qIsTy, qGetT0, qGetT1, qGetT2, qGetT3, qAddI, qSubI, qTypeI, qNegI, qSlI, qRetD, qTupD, qLisD, qNewFr, qPV1, qPV2, qNil, qN0, qN1, aD0, aD1, aD2, aD3, aD4, aD5, aD6, aD7, aD8, aD9, aD10, aD11, aD12, sM0, sM1, sM2, sM3, sM4, sM5, sM6, sM7, sM8, sM9, sM10, sM11, sM12, Bool.not_true, Bool.not_false, Nat.reduceBEq, resD, se_nodes, sn_nodes_frames, sn_fuel_nodes, sn_fuel_frames, sn_fuel_state, se_frames, sn_frames_nodes, se_state, sn_state_frames, loRun_fuel, fn_fuel, loRun_state, fn_state, caRun_len, caRun_beginunode, caRun_resumeuframe, l2]
  · simp only [↓qInt, ↓qStr, ↓qBool, ↓qNone, ↓qName, ↓qTuple, ↓qList, ↓qBin, ↓qNeg, ↓qIfExp, ↓qCall, ↓qSl0, ↓qSl1, ↓qSub, ↓qEs0, ↓qEs1, ↓qCmp, ↓qNot, ↓qBoolOp, ↓qAnd0, ↓qOr0, ↓qAnd1, ↓qOr1, ↓qRet, ↓qAsg, ↓qAsgT, ↓qIf, ↓qSs0, ↓qSs1, ↓qTup0, ↓qTup1, ↓qApp, ↓qDel, qApp1, qIs, qIsNot, qIsTy, qGetT0, qGetT1, qGetT2, qGetT3, qAddI, qSubI, qTypeI, qNegI, qSlI, qRetD, qTupD, qLisD, qNewFr, qPV1, qPV2, qNil, qN0, qN1, aD0, aD1, aD2, aD3, aD4, aD5, aD6, aD7, aD8, aD9, aD10, aD11, aD12, sM0, sM1, sM2, sM3, sM4, sM5, sM6, sM7, sM8, sM9, sM10, sM11, sM12, Bool.not_true, Bool.not_false, Nat.reduceBEq, resD, se_nodes, sn_nodes_frames, sn_fuel_nodes, sn_fuel_frames, sn_fuel_state, se_frames, sn_frames_nodes, se_state, sn_state_frames, loRun_fuel, fn_fuel, loRun_state, fn_state, caRun_len, caRun_beginunode, caRun_resumeuframe, tEq_eval_eval, l1, l3, l4, hb]
theorem turnA_bk {t : String} (ht : cmpD σ .Eq (.dat (.str (Str.ofString t))) (.dat (.str (Str.ofString "eval"))) = some false) (l1 : ρ (Str.ofString "nodes") = some (.dat (.list P))) (l2 : ρ (Str.ofString "fuel") = some (.dat (.int fuel))) (l3 : ρ (Str.ofString "state") = some (.dat (.tuple [.str (Str.ofString t), a, b]))) (l4 : ρ (Str.ofString "frames") = some .fr)
    (hb : call (Str.ofString "resume_frame") [.dat (.list P), .dat a, .fr] σ = some (d, σ')) :
    exSs ⟨fRun.1.sc, call, N⟩ wh.1.2.1 ρ σ = exSs ⟨fRun.1.sc, call, N⟩ (wh.1.2.1.drop 2) (setL (setL ρ (Str.ofString "fuel") (.dat (.int (fuel - 1)))) (Str.ofString "state") (.dat d)) σ' := by
  refine (seqN (ρ₁ := setL ρ (Str.ofString "fuel") (.dat (.int (fuel - 1)))) (σ₁ := σ) ?_).trans (seqN ?_)
  · simp only [↓qInt, ↓qStr, ↓qBool, ↓qNone, ↓qName, ↓qTuple, ↓qList, ↓qBin, ↓qNeg, ↓qIfExp, ↓qCall, ↓qSl0, ↓qSl1, ↓qSub, ↓qEs0, ↓qEs1, ↓qCmp, ↓qNot, ↓qBoolOp, ↓qAnd0, ↓qOr0, ↓qAnd1, ↓qOr1, ↓qRet, ↓qAsg, ↓qAsgT, ↓qIf, ↓qSs0, ↓qSs1, ↓qTup0, ↓qTup1, ↓qApp, ↓qDel, qApp1, qIs, qIsNot, qIsTy, qGetT0, qGetT1, qGetT2, qGetT3, qAddI, qSubI, qTypeI, qNegI, qSlI, qRetD, qTupD, qLisD, qNewFr, qPV1, qPV2, qNil, qN0, qN1, aD0, aD1, aD2, aD3, aD4, aD5, aD6, aD7, aD8, aD9, aD10, aD11, aD12, sM0, sM1, sM2, sM3, sM4, sM5, sM6, sM7, sM8, sM9, sM10, sM11, sM12, Bool.not_true, Bool.not_false, Nat.reduceBEq, resD, se_nodes, sn_nodes_frames, sn_fuel_nodes, sn_fuel_frames, sn_fuel_state, se_frames, sn_frames_nodes, se_state, sn_state_frames, loRun_fuel, fn_fuel, loRun_state, fn_state, caRun_len, caRun_beginunode, caRun_resumeuframe, l2]
  · simp only [↓qInt, ↓qStr, ↓qBool, ↓qNone, ↓qName, ↓qTuple, ↓qList, ↓qBin, ↓qNeg, ↓qIfExp, ↓qCall, ↓qSl0, ↓qSl1, ↓qSub, ↓qEs0, ↓qEs1, ↓qCmp, ↓qNot, ↓qBoolOp, ↓qAnd0, ↓qOr0, ↓qAnd1, ↓qOr1, ↓qRet, ↓qAsg, ↓qAsgT, ↓qIf, ↓qSs0, ↓qSs1, ↓qTup0, ↓qTup1, ↓qApp, ↓qDel, qApp1, qIs, qIsNot, qIsTy, qGetT0, qGetT1, qGetT2, qGetT3, qAddI, qSubI, qTypeI, qNegI, qSlI, qRetD, qTupD, qLisD, qNewFr, qPV1, qPV2, qNil, qN0, qN1, aD0, aD1, aD2, aD3, aD4, aD5, aD6, aD7, aD8, aD9, aD10, aD11, aD12, sM0, sM1, sM2, sM3, sM4, sM5, sM6, sM7, sM8, sM9, sM10, sM11, sM12, Bool.not_true, Bool.not_false, Nat.reduceBEq, resD, se_nodes, sn_nodes_frames, sn_fuel_nodes, sn_fuel_frames, sn_fuel_state, se_frames, sn_frames_nodes, se_state, sn_state_frames, loRun_fuel, fn_fuel, loRun_state, fn_state, caRun_len, caRun_beginunode, caRun_resumeuframe, ht, l1, l3, l4, hb]
theorem turnB_ev : exSs ⟨fRun.1.sc, call, N⟩ (wh.1.2.1.drop 2) (setL ρ (Str.ofString "state") (.dat (.tuple [.str (Str.ofString "eval"), a, b]))) σ = some (.next, setL ρ (Str.ofString "state") (.dat (.tuple [.str (Str.ofString "eval"), a, b])), σ) := rfl
theorem turnB_st : exSs ⟨fRun.1.sc, call, N⟩ (wh.1.2.1.drop 2) (setL ρ (Str.ofString "state") (.dat (.tuple [.str (Str.ofString "stuck"), a, b]))) σ = some (.ret (.tuple [.str (Str.ofString "stuck"), .none]), setL ρ (Str.ofString "state") (.dat (.tuple [.str (Str.ofString "stuck"), a, b])), σ) := rfl
theorem turnB_b0 {fs : List PyData} (l4 : ρ (Str.ofString "frames") = some .fr) (hc : cmpD (some fs) .Eq .fr (.dat (.list [])) = some true) : exSs ⟨fRun.1.sc, call, N⟩ (wh.1.2.1.drop 2) (setL ρ (Str.ofString "state") (.dat (.tuple [.str (Str.ofString "back"), a, b]))) (some fs) = some (.ret (.tuple [.str (Str.ofString "done"), a]), setL ρ (Str.ofString "state") (.dat (.tuple [.str (Str.ofString "back"), a, b])), some fs) := by
  simp only [wh, List.drop_succ_cons, List.drop_zero, ↓qInt, ↓qStr, ↓qBool, ↓qNone, ↓qName, ↓qTuple, ↓qList, ↓qBin, ↓qNeg, ↓qIfExp, ↓qCall, ↓qSl0, ↓qSl1, ↓qSub, ↓qEs0, ↓qEs1, ↓qCmp, ↓qNot, ↓qBoolOp, ↓qAnd0, ↓qOr0, ↓qAnd1, ↓qOr1, ↓qRet, ↓qAsg, ↓qAsgT, ↓qIf, ↓qSs0, ↓qSs1, ↓qTup0, ↓qTup1, ↓qApp, ↓qDel, qApp1, qIs, qIsNot, qIsTy, qGetT0, qGetT1, qGetT2, qGetT3, qAddI, qSubI, qTypeI, qNegI, qSlI, qRetD, qTupD, qLisD, qNewFr, qPV1, qPV2, qNil, qN0, qN1, aD0, aD1, aD2, aD3, aD4, aD5, aD6, aD7, aD8, aD9, aD10, aD11, aD12, sM0, sM1, sM2, sM3, sM4, sM5, sM6, sM7, sM8, sM9, sM10, sM11, sM12, Bool.not_true, Bool.not_false, Nat.reduceBEq, resD, se_nodes, sn_nodes_frames, sn_fuel_nodes, sn_fuel_frames, sn_fuel_state, se_frames, sn_frames_nodes, se_state, sn_state_frames, loRun_fuel, fn_fuel, loRun_state, fn_state, caRun_len, caRun_beginunode, caRun_resumeuframe, tEq_back_back, tEq_back_stuck, l4, hc]
theorem turnB_b1 {fs : List PyData} (l4 : ρ (Str.ofString "frames") = some .fr) (hc : cmpD (some fs) .Eq .fr (.dat (.list [])) = some false) : exSs ⟨fRun.1.sc, call, N⟩ (wh.1.2.1.drop 2) (setL ρ (Str.ofString "state") (.dat (.tuple [.str (Str.ofString "back"), a, b]))) (some fs) = some (.next, setL ρ (Str.ofString "state") (.dat (.tuple [.str (Str.ofString "back"), a, b])), some fs) := by
  simp only [wh, List.drop_succ_cons, List.drop_zero, ↓qInt, ↓qStr, ↓qBool, ↓qNone, ↓qName, ↓qTuple, ↓qList, ↓qBin, ↓qNeg, ↓qIfExp, ↓qCall, ↓qSl0, ↓qSl1, ↓qSub, ↓qEs0, ↓qEs1, ↓qCmp, ↓qNot, ↓qBoolOp, ↓qAnd0, ↓qOr0, ↓qAnd1, ↓qOr1, ↓qRet, ↓qAsg, ↓qAsgT, ↓qIf, ↓qSs0, ↓qSs1, ↓qTup0, ↓qTup1, ↓qApp, ↓qDel, qApp1, qIs, qIsNot, qIsTy, qGetT0, qGetT1, qGetT2, qGetT3, qAddI, qSubI, qTypeI, qNegI, qSlI, qRetD, qTupD, qLisD, qNewFr, qPV1, qPV2, qNil, qN0, qN1, aD0, aD1, aD2, aD3, aD4, aD5, aD6, aD7, aD8, aD9, aD10, aD11, aD12, sM0, sM1, sM2, sM3, sM4, sM5, sM6, sM7, sM8, sM9, sM10, sM11, sM12, Bool.not_true, Bool.not_false, Nat.reduceBEq, resD, se_nodes, sn_nodes_frames, sn_fuel_nodes, sn_fuel_frames, sn_fuel_state, se_frames, sn_frames_nodes, se_state, sn_state_frames, loRun_fuel, fn_fuel, loRun_state, fn_state, caRun_len, caRun_beginunode, caRun_resumeuframe, tEq_back_back, tEq_back_stuck, l4, hc]
end

theorem turn_end {N n : Nat} {s' : S} {fs' : List Fm} {ρ : Loc} (l4 : ρ (Str.ofString "frames") = some .fr) :
    exSs ⟨fRun.1.sc, callD Text N (n + 1), N⟩ (wh.1.2.1.drop 2) (setL ρ (Str.ofString "state") (.dat s'.toD)) (some (frD fs')) = some (turnRes (setL ρ (Str.ofString "state") (.dat s'.toD)) s' fs') := by
  cases s' with
  | ev q env' => rfl
  | stuck => rfl
  | back v =>
    cases fs' with
    | nil => exact turnB_b0 l4 rfl
    | cons f r => exact turnB_b1 l4 (by rw [qFrNil (frD_canLay _), frD_empty]; rfl)

theorem turn_spec {N n : Nat} {P : List Nd} {fuel : Int} {s s' : S} {fs fs' : List Fm} {ρ : Loc} (L : LoopLoc P fuel s ρ) (hs : step P (s, fs) = some (s', fs')) (hP : P.length ≤ 4000) (hfs : fs.length ≤ 4000) :
    exSs ⟨fRun.1.sc, callD Text N (n + 1), N⟩ wh.1.2.1 ρ (some (frD fs)) = some (turnRes (setL (setL ρ (Str.ofString "fuel") (.dat (.int (fuel - 1)))) (Str.ofString "state") (.dat s'.toD)) s' fs') := by
  obtain ⟨l1, l2, l3, l4⟩ := L
  cases s with
  | stuck => cases hs
  | ev p env =>
    have hb := begin_spec (call := callD Text N n) (N := N) (show begin P p env fs = some (s', fs') from hs) hP hfs
    exact (turnA_ev l1 l2 l3 l4 (cBegin.trans hb)).trans (turn_end l4)
  | back u =>
    have hb := resume_spec (call := callD Text N n) (N := N) (show resume P u fs = some (s', fs') from hs) hP hfs
    exact (turnA_bk rfl l1 l2 l3 l4 (cResume.trans hb)).trans (turn_end l4)

theorem loopLoc_next {P : List Nd} {fuel : Int} {s s' : S} {ρ : Loc} (L : LoopLoc P fuel s ρ) : LoopLoc P (fuel - 1) s' (setL (setL ρ (Str.ofString "fuel") (.dat (.int (fuel - 1)))) (Str.ofString "state") (.dat s'.toD)) := by
  obtain ⟨l1, l2, l3, l4⟩ := L
  exact ⟨l1, rfl, rfl, l4⟩

theorem step_len {P : List Nd} {s s' : S} {fs fs' : List Fm} (h : step P (s, fs) = some (s', fs')) : fs'.length ≤ fs.length + 1 := by
  cases s with
  | stuck => cases h
  | ev p env =>
    rw [step] at h
    unfold begin at h
    split at h
    · split at h <;> first
        | (cases h; done)
        | (cases h; simp)
        | (simp only [Option.map_eq_some_iff] at h
           obtain ⟨v, _, e⟩ := h
           cases e; simp)
    · cases h
  | back v =>
    rw [step] at h
    cases fs with
    | nil => cases h
    | cons f fs =>
      obtain ⟨p, env, first⟩ := f
      rw [resume] at h
      split at h
      · split at h
        · cases h
        · rename_i nd _
          split at h
          · cases nd <;> simp only [resume1] at h <;> first
              | (cases h; done)
              | (cases h; (try simp only [List.length_cons]); omega)
              | (split at h <;> cases h <;> (try simp only [List.length_cons]) <;> omega)
          · cases nd <;> simp only [resume2] at h <;> first
              | (cases h; done)
              | (cases h; (try simp only [List.length_cons]); omega)
              | (split at h <;> first
                | (cases h; done)
                | (cases h; (try simp only [List.length_cons]); omega)
                | (split at h <;> first | (cases h; done) | (cases h; (try simp only [List.length_cons]); omega)))
      · cases h

noncomputable def flOf : Out → Fl
  | .fuel => .next
  | .stuck => .ret (.tuple [.str (Str.ofString "stuck"), .none])
  | .done v => .ret (.tuple [.str (Str.ofString "done"), v.toD])

theorem gt_test {N n : Nat} {P : List Nd} {fuel : Int} {s : S} {ρ : Loc} {σ : St} (L : LoopLoc P fuel s ρ) : evT ⟨fRun.1.sc, callD Text N (n + 1), N⟩ ρ wh.1.1 σ = some (decide (0 < fuel), σ) := by
  simp only [wh, ↓qInt, ↓qStr, ↓qBool, ↓qNone, ↓qName, ↓qTuple, ↓qList, ↓qBin, ↓qNeg, ↓qIfExp, ↓qCall, ↓qSl0, ↓qSl1, ↓qSub, ↓qEs0, ↓qEs1, ↓qCmp, ↓qNot, ↓qBoolOp, ↓qAnd0, ↓qOr0, ↓qAnd1, ↓qOr1, ↓qRet, ↓qAsg, ↓qAsgT, ↓qIf, ↓qSs0, ↓qSs1, ↓qTup0, ↓qTup1, ↓qApp, ↓qDel, qApp1, qIs, qIsNot, qIsTy, qGetT0, qGetT1, qGetT2, qGetT3, qAddI, qSubI, qTypeI, qNegI, qSlI, qRetD, qTupD, qLisD, qNewFr, qPV1, qPV2, qNil, qN0, qN1, aD0, aD1, aD2, aD3, aD4, aD5, aD6, aD7, aD8, aD9, aD10, aD11, aD12, sM0, sM1, sM2, sM3, sM4, sM5, sM6, sM7, sM8, sM9, sM10, sM11, sM12, Bool.not_true, Bool.not_false, Nat.reduceBEq, resD, se_nodes, sn_nodes_frames, sn_fuel_nodes, sn_fuel_frames, sn_fuel_state, se_frames, sn_frames_nodes, se_state, sn_state_frames, loRun_fuel, fn_fuel, loRun_state, fn_state, caRun_len, caRun_beginunode, caRun_resumeuframe, L.fuel, qGt]

theorem loop_spec {N n : Nat} {P : List Nd} (hP : P.length ≤ 4000) : ∀ (k : Nat) {M : Nat} {fuel : Int} {s : S} {fs : List Fm} {ρ : Loc} {o : Out}, fuel.toNat = k → k < M → fs.length + k ≤ 4000 → LoopLoc P fuel s ρ → Zp.run P k (s, fs) = some o →
    ∃ ρ' σ', whileD (evT ⟨fRun.1.sc, callD Text N (n + 1), N⟩ · wh.1.1) (exSs ⟨fRun.1.sc, callD Text N (n + 1), N⟩ wh.1.2.1) M ρ (some (frD fs)) = some (flOf o, ρ', σ')
  | _, 0, _, _, _, _, _, _, hM, _, _, _ => by omega
  | 0, M + 1, fuel, s, fs, ρ, o, hk, hM, hf, L, hr => by
    rw [Zp.run] at hr
    cases hr
    rw [whileD, gt_test L]
    have : decide (0 < fuel) = false := decide_eq_false (by omega)
    rw [this]
    exact ⟨_, _, rfl⟩
  | k + 1, M + 1, fuel, s, fs, ρ, o, hk, hM, hf, L, hr => by
    rw [Zp.run] at hr
    rw [whileD, gt_test L]
    have : decide (0 < fuel) = true := decide_eq_true (by omega)
    rw [this]
    simp only [Option.bind_some, if_true]
    cases hs : step P (s, fs) with
    | none => rw [hs] at hr; cases hr
    | some x =>
      obtain ⟨s', fs'⟩ := x
      rw [hs] at hr
      have hl := step_len hs
      have ts := turn_spec (N := N) (n := n) L hs hP (by omega)
      rw [ts]
      simp only [Option.bind_some]
      have L' := loopLoc_next (s' := s') L
      cases s' with
      | stuck => cases hr; exact ⟨_, _, rfl⟩
      | ev q env' => exact loop_spec hP k (fuel := fuel - 1) (by omega) (by omega) (by omega) L' hr
      | back v =>
        cases fs' with
        | nil => cases hr; exact ⟨_, _, rfl⟩
        | cons f r => exact loop_spec hP k (fuel := fuel - 1) (by omega) (by omega) (by omega) L' hr

noncomputable def outD : Out → PyData
  | .fuel => .tuple [.str (Str.ofString "fuel"), .none]
  | .stuck => .tuple [.str (Str.ofString "stuck"), .none]
  | .done v => .tuple [.str (Str.ofString "done"), v.toD]

noncomputable def rRun (P : List PyData) (fuel : Int) (st : PyData) : Loc :=
  setL (setL (setL (setL (fun _ => none) (Str.ofString "fuel") (.dat (.int fuel))) (Str.ofString "nodes") (.dat (.list P))) (Str.ofString "frames") .fr) (Str.ofString "state") (.dat st)
theorem run_pre {call : Str → List D → St → Option (PyData × St)} {N : Nat} {P : List PyData} {fuel k : Int} (h1 : P.length ≤ 4096) (h2 : (P.length : Int) - 1 = k) :
    exSs ⟨fRun.1.sc, call, N⟩ bRun.1 (setL (setL (fun _ => none) (Str.ofString "fuel") (.dat (.int fuel))) (Str.ofString "nodes") (.dat (.list P))) none =
      exSs ⟨fRun.1.sc, call, N⟩ (bRun.1.drop 2) (rRun P fuel (.tuple [.str (Str.ofString "eval"), .int k, .list []])) (some []) := by
  refine (seqN (ρ₁ := setL (setL (setL (fun _ => none) (Str.ofString "fuel") (.dat (.int fuel))) (Str.ofString "nodes") (.dat (.list P))) (Str.ofString "frames") .fr) (σ₁ := some []) rfl).trans (seqN ?_)
  simp only [↓qInt, ↓qStr, ↓qBool, ↓qNone, ↓qName, ↓qTuple, ↓qList, ↓qBin, ↓qNeg, ↓qIfExp, ↓qCall, ↓qSl0, ↓qSl1, ↓qSub, ↓qEs0, ↓qEs1, ↓qCmp, ↓qNot, ↓qBoolOp, ↓qAnd0, ↓qOr0, ↓qAnd1, ↓qOr1, ↓qRet, ↓qAsg, ↓qAsgT, ↓qIf, ↓qSs0, ↓qSs1, ↓qTup0, ↓qTup1, ↓qApp, ↓qDel, qApp1, qIs, qIsNot, qIsTy, qGetT0, qGetT1, qGetT2, qGetT3, qAddI, qSubI, qTypeI, qNegI, qSlI, qRetD, qTupD, qLisD, qNewFr, qPV1, qPV2, qNil, qN0, qN1, aD0, aD1, aD2, aD3, aD4, aD5, aD6, aD7, aD8, aD9, aD10, aD11, aD12, sM0, sM1, sM2, sM3, sM4, sM5, sM6, sM7, sM8, sM9, sM10, sM11, sM12, Bool.not_true, Bool.not_false, Nat.reduceBEq, resD, se_nodes, sn_nodes_frames, sn_fuel_nodes, sn_fuel_frames, sn_fuel_state, se_frames, sn_frames_nodes, se_state, sn_state_frames, loRun_fuel, fn_fuel, loRun_state, fn_state, caRun_len, caRun_beginunode, caRun_resumeuframe, qLenL h1, h2, rRun]
noncomputable def postF : Fl → Loc → St → Res
  | .next, ρ, σ => some (.ret (.tuple [.str (Str.ofString "fuel"), .none]), ρ, σ)
  | .ret d, ρ, σ => some (.ret d, ρ, σ)
noncomputable def out0 : Res → Option (PyData × St)
  | some (f, _, _) => some (resD f, none)
  | none => none
theorem run_post {call : Str → List D → St → Option (PyData × St)} {N : Nat} {ρ ρ' : Loc} {σ σ' : St} {f : Fl} (h : whileD (evT ⟨fRun.1.sc, call, N⟩ · wh.1.1) (exSs ⟨fRun.1.sc, call, N⟩ wh.1.2.1) N ρ σ = some (f, ρ', σ')) :
    exSs ⟨fRun.1.sc, call, N⟩ (bRun.1.drop 2) ρ σ = postF f ρ' σ' := by
  rw [wh.2, qSs1, qWhile, h]
  cases f <;> rfl

theorem run_spec {N n : Nat} {P : List Nd} {fuel : Int} {o : Out} (hP : P.length ≤ 4000) (hP0 : 0 < P.length) (hf : fuel.toNat ≤ 4000) (hN : fuel.toNat < N) (hr : Zp.run P fuel.toNat (.ev (P.length - 1) [], []) = some o) :
    callD Text N (n + 2) (Str.ofString "run") [.dat (.list (P.map Nd.toD)), .dat (.int fuel)] none = some (outD o, none) := by
  obtain ⟨ρ', σ', e⟩ := loop_spec (N := N) (n := n) hP fuel.toNat (M := N) (fuel := fuel) (s := .ev (P.length - 1) []) (fs := []) (ρ := rRun (P.map Nd.toD) fuel (S.ev (P.length - 1) []).toD) rfl hN (by simpa using hf) ⟨rfl, rfl, rfl, rfl⟩ hr
  rw [cRun, qRun0 rfl rfl rfl, eRun]
  refine (congrArg out0 ((run_pre (by rw [List.length_map]; omega) (by rw [List.length_map]; omega)).trans (run_post e))).trans ?_
  cases o <;> rfl
end Zp
end

section
namespace Zp
open PySem

noncomputable def R.toD (r : R) : PyData := .tuple [optD r.1, .int r.2]
noncomputable def W.toD (w : W) : PyData := .tuple [.list (w.nodes.map Nd.toD), R.toD w.r]
noncomputable def leafD (l : Nd × V) : PyData := .tuple [l.1.toD, R.toD (some l.2, 1)]
noncomputable def Bk.str : Bk → String
  | .add => "add"
  | .less => "less"
  | .pair => "pair"
theorem isNoneV (v : V) : isNoneD v.toD = false := by cases v <;> rfl

theorem leaf_spec {N n : Nat} {k : Nat} {num : Int} {near far : V} (hk : k < 4) :
    callD Text N (n + 1) (Str.ofString "_law_leaf") [.dat (.int k), .dat (.int num), .dat near.toD, .dat far.toD] none = some (leafD (leafOf k num near far), none) := by
  rw [cLeaf]
  match k, hk with
  | 0, _ => rfl
  | 1, _ => rfl
  | 2, _ => rfl
  | 3, _ => rfl

theorem both_less {N : Nat} {call : Str → List D → St → Option (PyData × St)} {i j a b : Int} : runFn N call fBoth.1 [.dat (.str (Str.ofString "less")), .dat (.tuple [.tuple [.str (Str.ofString "int"), .int i], .int a]), .dat (.tuple [.tuple [.str (Str.ofString "int"), .int j], .int b])] none
    = some (.tuple [.tuple [.str (Str.ofString "bool"), .int (if i < j then 1 else 0)], .int (a + b + 3)], none) := by
  rw [qRun0 rfl rfl rfl, eBoth]
  have e : cmpD none .Lt (.dat (.int i)) (.dat (.int j)) = some (decide (i < j)) := rfl
  by_cases h : i < j
  · rw [decide_eq_true h] at e
    simp only [bBoth, ↓qInt, ↓qStr, ↓qBool, ↓qNone, ↓qName, ↓qTuple, ↓qList, ↓qBin, ↓qNeg, ↓qIfExp, ↓qCall, ↓qSl0, ↓qSl1, ↓qSub, ↓qEs0, ↓qEs1, ↓qCmp, ↓qNot, ↓qBoolOp, ↓qAnd0, ↓qOr0, ↓qAnd1, ↓qOr1, ↓qRet, ↓qAsg, ↓qAsgT, ↓qIf, ↓qSs0, ↓qSs1, ↓qTup0, ↓qTup1, ↓qApp, ↓qDel, qApp1, qIs, qIsNot, qIsTy, qGetT0, qGetT1, qGetT2, qGetT3, qAddI, qSubI, qTypeI, qNegI, qSlI, qRetD, qTupD, qLisD, qNewFr, qPV1, qPV2, qNil, qN0, qN1, aD0, aD1, aD2, aD3, aD4, aD5, aD6, aD7, aD8, aD9, aD10, aD11, aD12, sM0, sM1, sM2, sM3, sM4, sM5, sM6, sM7, sM8, sM9, sM10, sM11, sM12, Bool.not_true, Bool.not_false, Nat.reduceBEq, resD, se_kind, sn_kind_a, sn_kind_b, se_a, sn_a_b, se_b, sn_b_a, se_cost, sn_cost_kind, sn_cost_a, sn_cost_b, loBoth_cost, fn_cost, qN1, tNotEq_less_pair, tEq_less_add, tEq_less_app, tEq_less_pair, tNotEq_int_int, e, if_pos h]
  · rw [decide_eq_false h] at e
    simp only [bBoth, ↓qInt, ↓qStr, ↓qBool, ↓qNone, ↓qName, ↓qTuple, ↓qList, ↓qBin, ↓qNeg, ↓qIfExp, ↓qCall, ↓qSl0, ↓qSl1, ↓qSub, ↓qEs0, ↓qEs1, ↓qCmp, ↓qNot, ↓qBoolOp, ↓qAnd0, ↓qOr0, ↓qAnd1, ↓qOr1, ↓qRet, ↓qAsg, ↓qAsgT, ↓qIf, ↓qSs0, ↓qSs1, ↓qTup0, ↓qTup1, ↓qApp, ↓qDel, qApp1, qIs, qIsNot, qIsTy, qGetT0, qGetT1, qGetT2, qGetT3, qAddI, qSubI, qTypeI, qNegI, qSlI, qRetD, qTupD, qLisD, qNewFr, qPV1, qPV2, qNil, qN0, qN1, aD0, aD1, aD2, aD3, aD4, aD5, aD6, aD7, aD8, aD9, aD10, aD11, aD12, sM0, sM1, sM2, sM3, sM4, sM5, sM6, sM7, sM8, sM9, sM10, sM11, sM12, Bool.not_true, Bool.not_false, Nat.reduceBEq, resD, se_kind, sn_kind_a, sn_kind_b, se_a, sn_a_b, se_b, sn_b_a, se_cost, sn_cost_kind, sn_cost_a, sn_cost_b, loBoth_cost, fn_cost, qN1, tNotEq_less_pair, tEq_less_add, tEq_less_app, tEq_less_pair, tNotEq_int_int, e, if_neg h]
theorem both_spec {N n : Nat} {k : Bk} {a b : R} :
    callD Text N (n + 1) (Str.ofString "_law_both") [.dat (.str (Str.ofString k.str)), .dat (R.toD a), .dat (R.toD b)] none = some (R.toD (bothR k a b), none) := by
  rw [cBoth]
  obtain ⟨ra, ca⟩ := a
  obtain ⟨rb, cb⟩ := b
  cases ra with
  | none => cases k <;> rfl
  | some u =>
    cases k with
    | pair => cases rb with
      | none => cases u <;> rfl
      | some w => cases u <;> cases w <;> rfl
    | add =>
      cases u with
      | int i =>
        cases rb with
        | none => rfl
        | some w => cases w <;> rfl
      | _ => rfl
    | less =>
      cases u with
      | int i =>
        cases rb with
        | none => rfl
        | some w =>
          cases w with
          | int j => exact both_less
          | _ => rfl
      | _ => rfl

theorem closure_spec {N n : Nat} {a b : R} {place : Nat} {x y : V} :
    callD Text N (n + 1) (Str.ofString "_law_closure") [.dat (R.toD a), .dat (R.toD b), .dat (.int place), .dat (.list [y.toD, x.toD])] none = some (R.toD (closR a b place [y, x]), none) := by
  rw [cClosure]
  obtain ⟨ra, ca⟩ := a
  obtain ⟨rb, cb⟩ := b
  cases ra with
  | none => rfl
  | some u =>
    cases rb with
    | none => cases u <;> rfl
    | some w => cases u <;> cases w <;> rfl

theorem partP_spec {N n : Nat} {r : R} {snd : Bool} :
    callD Text N (n + 1) (Str.ofString "_law_part") [.dat (R.toD r), .dat (.str (Str.ofString "pair")), .dat (.int (if snd then 2 else 1))] none = some (R.toD (partP snd r), none) := by
  rw [cPart]
  obtain ⟨ra, ca⟩ := r
  cases ra with
  | none => cases snd <;> rfl
  | some u => cases snd <;> cases u <;> rfl

theorem partC_spec {N n : Nat} {r : R} {i : Nat} (hi : i < 2) (h : ∀ p env, r.1 = some (.clo p env) → i < env.length) :
    callD Text N (n + 1) (Str.ofString "_law_part") [.dat (R.toD r), .dat (.str (Str.ofString "clo")), .dat (.int i)] none = some (R.toD (partC i r), none) := by
  rw [cPart]
  obtain ⟨ra, ca⟩ := r
  cases ra with
  | none => rfl
  | some u =>
    cases u with
    | clo p env =>
      have hl := h p env rfl
      match i, env, hi, hl with
      | 0, v :: r, _, _ => rfl
      | 1, v :: w :: r, _, _ => rfl
    | _ => rfl

theorem if_bool {N : Nat} {call : Str → List D → St → Option (PyData × St)} {i a b c : Int} {t e : PyData} : runFn N call fIf.1 [.dat (.tuple [.tuple [.str (Str.ofString "bool"), .int i], .int a]), .dat (.tuple [t, .int b]), .dat (.tuple [e, .int c])] none
    = some (.tuple [if i = 1 then t else e, .int (a + (if i = 1 then b else c) + 2)], none) := by
  rw [qRun0 rfl rfl rfl, eIf]
  have q : cmpD none .Eq (.dat (.int i)) (.dat (.int 1)) = some (decide (i = 1)) := qEqI
  by_cases h : i = 1
  · rw [decide_eq_true h] at q
    simp only [bIf, ↓qInt, ↓qStr, ↓qBool, ↓qNone, ↓qName, ↓qTuple, ↓qList, ↓qBin, ↓qNeg, ↓qIfExp, ↓qCall, ↓qSl0, ↓qSl1, ↓qSub, ↓qEs0, ↓qEs1, ↓qCmp, ↓qNot, ↓qBoolOp, ↓qAnd0, ↓qOr0, ↓qAnd1, ↓qOr1, ↓qRet, ↓qAsg, ↓qAsgT, ↓qIf, ↓qSs0, ↓qSs1, ↓qTup0, ↓qTup1, ↓qApp, ↓qDel, qApp1, qIs, qIsNot, qIsTy, qGetT0, qGetT1, qGetT2, qGetT3, qAddI, qSubI, qTypeI, qNegI, qSlI, qRetD, qTupD, qLisD, qNewFr, qPV1, qPV2, qNil, qN0, qN1, aD0, aD1, aD2, aD3, aD4, aD5, aD6, aD7, aD8, aD9, aD10, aD11, aD12, sM0, sM1, sM2, sM3, sM4, sM5, sM6, sM7, sM8, sM9, sM10, sM11, sM12, Bool.not_true, Bool.not_false, Nat.reduceBEq, resD, se_c, sn_c_t, sn_c_e, se_t, sn_t_e, se_e, se_taken, sn_taken_c, loIf_taken, fn_taken, qN1, tNotEq_bool_bool, q, if_pos h]
  · rw [decide_eq_false h] at q
    simp only [bIf, ↓qInt, ↓qStr, ↓qBool, ↓qNone, ↓qName, ↓qTuple, ↓qList, ↓qBin, ↓qNeg, ↓qIfExp, ↓qCall, ↓qSl0, ↓qSl1, ↓qSub, ↓qEs0, ↓qEs1, ↓qCmp, ↓qNot, ↓qBoolOp, ↓qAnd0, ↓qOr0, ↓qAnd1, ↓qOr1, ↓qRet, ↓qAsg, ↓qAsgT, ↓qIf, ↓qSs0, ↓qSs1, ↓qTup0, ↓qTup1, ↓qApp, ↓qDel, qApp1, qIs, qIsNot, qIsTy, qGetT0, qGetT1, qGetT2, qGetT3, qAddI, qSubI, qTypeI, qNegI, qSlI, qRetD, qTupD, qLisD, qNewFr, qPV1, qPV2, qNil, qN0, qN1, aD0, aD1, aD2, aD3, aD4, aD5, aD6, aD7, aD8, aD9, aD10, aD11, aD12, sM0, sM1, sM2, sM3, sM4, sM5, sM6, sM7, sM8, sM9, sM10, sM11, sM12, Bool.not_true, Bool.not_false, Nat.reduceBEq, resD, se_c, sn_c_t, sn_c_e, se_t, sn_t_e, se_e, se_taken, sn_taken_c, loIf_taken, fn_taken, qN1, tNotEq_bool_bool, q, if_neg h]
theorem if_spec {N n : Nat} {c t e : R} :
    callD Text N (n + 1) (Str.ofString "_law_if") [.dat (R.toD c), .dat (R.toD t), .dat (R.toD e)] none = some (R.toD (ifR c t e), none) := by
  rw [cIf]
  obtain ⟨rc, cc⟩ := c
  cases rc with
  | none => rfl
  | some u =>
    cases u with
    | bool i =>
      refine Eq.trans if_bool ?_
      by_cases hi : i = 1
      · simp only [if_pos hi, ifR]; rfl
      · simp only [if_neg hi, ifR]; rfl
    | _ => rfl

theorem rD_one {v : V} : PyData.tuple [v.toD, .int 1] = R.toD (some v, 1) := rfl

theorem bound_some {N : Nat} {call : Str → List D → St → Option (PyData × St)} {u y k d : PyData} {ca cd : Int} {p q : Int} (hu : isNoneD u = false) (h : call (Str.ofString "_law_both") [.dat k, .dat (.tuple [u, .int 1]), .dat (.tuple [y, .int 1])] none = some (.tuple [d, .int cd], none)) :
    runFn N call fBound.1 [.dat (.tuple [u, .int ca]), .dat y, .dat k, .dat (.int p), .dat (.int q)] none = some (.tuple [d, .int (ca + q + cd)], none) := by
  rw [qRun0 rfl rfl rfl, eBound]
  simp only [bBound, ↓qInt, ↓qStr, ↓qBool, ↓qNone, ↓qName, ↓qTuple, ↓qList, ↓qBin, ↓qNeg, ↓qIfExp, ↓qCall, ↓qSl0, ↓qSl1, ↓qSub, ↓qEs0, ↓qEs1, ↓qCmp, ↓qNot, ↓qBoolOp, ↓qAnd0, ↓qOr0, ↓qAnd1, ↓qOr1, ↓qRet, ↓qAsg, ↓qAsgT, ↓qIf, ↓qSs0, ↓qSs1, ↓qTup0, ↓qTup1, ↓qApp, ↓qDel, qApp1, qIs, qIsNot, qIsTy, qGetT0, qGetT1, qGetT2, qGetT3, qAddI, qSubI, qTypeI, qNegI, qSlI, qRetD, qTupD, qLisD, qNewFr, qPV1, qPV2, qNil, qN0, qN1, aD0, aD1, aD2, aD3, aD4, aD5, aD6, aD7, aD8, aD9, aD10, aD11, aD12, sM0, sM1, sM2, sM3, sM4, sM5, sM6, sM7, sM8, sM9, sM10, sM11, sM12, Bool.not_true, Bool.not_false, Nat.reduceBEq, resD, se_r, sn_r_y, sn_r_kind, sn_r_around, se_y, sn_y_kind, sn_y_around, se_kind, sn_kind_y, sn_kind_around, sn_before_around, se_around, se_body, sn_body_r, sn_body_y, sn_body_kind, sn_body_around, loBound_body, fn_body, caBound_ulawuboth, hu, h]
theorem bound_spec {N n : Nat} {r : R} {y : V} {k : Bk} {before around : Nat} :
    callD Text N (n + 2) (Str.ofString "_law_bound") [.dat (R.toD r), .dat y.toD, .dat (.str (Str.ofString k.str)), .dat (.int before), .dat (.int around)] none = some (R.toD (boundR k before around r y), none) := by
  rw [cBound]
  obtain ⟨ra, ca⟩ := r
  cases ra with
  | none => rfl
  | some u =>
    have hb := both_spec (N := N) (n := n) (k := k) (a := (some u, 1)) (b := (some y, 1))
    exact bound_some (isNoneV u) hb

theorem end_spec {N n : Nat} {r : R} : callD Text N (n + 1) (Str.ofString "_law_end") [.dat (R.toD r)] none = some (outD (outOf r.1), none) := by
  rw [cEnd]
  obtain ⟨ra, ca⟩ := r
  cases ra with
  | none => rfl
  | some u => cases u <;> rfl

noncomputable def sidesD (op : Nat) (w : W) (l : Nd × V) : PyData :=
  .tuple [.list ((w.nodes ++ [l.1]).map Nd.toD), .int w.nodes.length, .int (sideP op w.nodes.length), .int (sideQ op w.nodes.length), R.toD (sideA op w l.2), R.toD (sideB op w l.2)]

theorem sides_1 {N : Nat} {call : Str → List D → St → Option (PyData × St)} {L : List PyData} {r a b : PyData} (h1 : L.length ≤ 4095) :
    runFn N call fSides.1 [.dat (.tuple [.list L, r]), .dat (.tuple [a, b]), .dat (.int 1)] none = some (.tuple [.list (L ++ [a]), .int L.length, .int L.length, .int (L.length - 1), b, r], none) := by
  rw [qRun0 rfl rfl rfl, eSides]
  simp only [bSides, ↓qInt, ↓qStr, ↓qBool, ↓qNone, ↓qName, ↓qTuple, ↓qList, ↓qBin, ↓qNeg, ↓qIfExp, ↓qCall, ↓qSl0, ↓qSl1, ↓qSub, ↓qEs0, ↓qEs1, ↓qCmp, ↓qNot, ↓qBoolOp, ↓qAnd0, ↓qOr0, ↓qAnd1, ↓qOr1, ↓qRet, ↓qAsg, ↓qAsgT, ↓qIf, ↓qSs0, ↓qSs1, ↓qTup0, ↓qTup1, ↓qApp, ↓qDel, qApp1, qIs, qIsNot, qIsTy, qGetT0, qGetT1, qGetT2, qGetT3, qAddI, qSubI, qTypeI, qNegI, qSlI, qRetD, qTupD, qLisD, qNewFr, qPV1, qPV2, qNil, qN0, qN1, aD0, aD1, aD2, aD3, aD4, aD5, aD6, aD7, aD8, aD9, aD10, aD11, aD12, sM0, sM1, sM2, sM3, sM4, sM5, sM6, sM7, sM8, sM9, sM10, sM11, sM12, Bool.not_true, Bool.not_false, Nat.reduceBEq, resD, se_way, sn_way_leaf, sn_way_turned, se_leaf, sn_leaf_turned, se_turned, se_n, sn_n_way, sn_n_leaf, sn_n_turned, loSides_n, fn_n, caSides_len, ei_1_1, qLenL (Nat.le_trans h1 (by decide)), qAddL (ys := [a]) (Nat.add_le_add_right h1 1)]
theorem sides_0 {N : Nat} {call : Str → List D → St → Option (PyData × St)} {L : List PyData} {r a b : PyData} (h1 : L.length ≤ 4095) :
    runFn N call fSides.1 [.dat (.tuple [.list L, r]), .dat (.tuple [a, b]), .dat (.int 0)] none = some (.tuple [.list (L ++ [a]), .int L.length, .int (L.length - 1), .int L.length, r, b], none) := by
  rw [qRun0 rfl rfl rfl, eSides]
  simp only [bSides, ↓qInt, ↓qStr, ↓qBool, ↓qNone, ↓qName, ↓qTuple, ↓qList, ↓qBin, ↓qNeg, ↓qIfExp, ↓qCall, ↓qSl0, ↓qSl1, ↓qSub, ↓qEs0, ↓qEs1, ↓qCmp, ↓qNot, ↓qBoolOp, ↓qAnd0, ↓qOr0, ↓qAnd1, ↓qOr1, ↓qRet, ↓qAsg, ↓qAsgT, ↓qIf, ↓qSs0, ↓qSs1, ↓qTup0, ↓qTup1, ↓qApp, ↓qDel, qApp1, qIs, qIsNot, qIsTy, qGetT0, qGetT1, qGetT2, qGetT3, qAddI, qSubI, qTypeI, qNegI, qSlI, qRetD, qTupD, qLisD, qNewFr, qPV1, qPV2, qNil, qN0, qN1, aD0, aD1, aD2, aD3, aD4, aD5, aD6, aD7, aD8, aD9, aD10, aD11, aD12, sM0, sM1, sM2, sM3, sM4, sM5, sM6, sM7, sM8, sM9, sM10, sM11, sM12, Bool.not_true, Bool.not_false, Nat.reduceBEq, resD, se_way, sn_way_leaf, sn_way_turned, se_leaf, sn_leaf_turned, se_turned, se_n, sn_n_way, sn_n_leaf, sn_n_turned, loSides_n, fn_n, caSides_len, ei_0_1, qLenL (Nat.le_trans h1 (by decide)), qAddL (ys := [a]) (Nat.add_le_add_right h1 1)]
theorem sides_spec {N n : Nat} {w : W} {l : Nd × V} {op : Nat} (hw : 0 < w.nodes.length) (hw2 : w.nodes.length ≤ 1000) :
    callD Text N (n + 1) (Str.ofString "_law_sides") [.dat w.toD, .dat (leafD l), .dat (.int ((op % 2 : Nat) : Int))] none = some (sidesD op w l, none) := by
  rw [cSides]
  have h0 : (w.nodes.map Nd.toD).length = w.nodes.length := List.length_map ..
  have h1 : (w.nodes.map Nd.toD).length ≤ 4095 := by omega
  have h4 : ((w.nodes.length - 1 : Nat) : Int) = (w.nodes.length : Int) - 1 := by omega
  have h5 : (w.nodes ++ [l.1]).map Nd.toD = w.nodes.map Nd.toD ++ [l.1.toD] := List.map_append ..
  rcases Nat.mod_two_eq_zero_or_one op with ho | ho
  · rw [ho]
    refine Eq.trans (sides_0 h1) ?_
    have hn : ¬ (0 : Nat) = 1 := by decide
    simp only [sidesD, sideP, sideQ, sideA, sideB, ho, if_neg hn, h0, h4, h5]
  · rw [ho]
    refine Eq.trans (sides_1 h1) ?_
    simp only [sidesD, sideP, sideQ, sideA, sideB, ho, if_true, h0, h4, h5]
end Zp
end

section
namespace Zp
open PySem

theorem mapD_cons2 {ns : List Nd} {a : Nd} {r : List Nd} : (ns ++ (a :: r)).map Nd.toD = (ns ++ [a]).map Nd.toD ++ r.map Nd.toD := by simp
theorem mapD_app {ns r : List Nd} : (ns ++ r).map Nd.toD = ns.map Nd.toD ++ r.map Nd.toD := List.map_append ..
theorem sides_spec' {N n : Nat} {w : W} {l : Nd × V} {op : Nat} {t : Int} (ht : ((op % 2 : Nat) : Int) = t) (hw : 0 < w.nodes.length) (hw2 : w.nodes.length ≤ 1000) :
    callD Text N (n + 2) (Str.ofString "_law_sides") [.dat w.toD, .dat (leafD l), .dat (.int t)] none = some (sidesD op w l, none) := by
  subst ht; exact sides_spec (n := n + 1) hw hw2
theorem both2 {N n : Nat} {k : Bk} {a b : R} : callD Text N (n + 2) (Str.ofString "_law_both") [.dat (.str (Str.ofString k.str)), .dat (R.toD a), .dat (R.toD b)] none = some (R.toD (bothR k a b), none) := both_spec (n := n + 1)
theorem closure2 {N n : Nat} {a b : R} {place : Nat} {x y : V} : callD Text N (n + 2) (Str.ofString "_law_closure") [.dat (R.toD a), .dat (R.toD b), .dat (.int place), .dat (.list [y.toD, x.toD])] none = some (R.toD (closR a b place [y, x]), none) := closure_spec (n := n + 1)
theorem partP2 {N n : Nat} {r : R} {snd : Bool} : callD Text N (n + 2) (Str.ofString "_law_part") [.dat (R.toD r), .dat (.str (Str.ofString "pair")), .dat (.int (if snd then 2 else 1))] none = some (R.toD (partP snd r), none) := partP_spec (n := n + 1)
theorem partC2 {N n : Nat} {r : R} {i : Nat} (hi : i < 2) (h : ∀ p env, r.1 = some (.clo p env) → i < env.length) : callD Text N (n + 2) (Str.ofString "_law_part") [.dat (R.toD r), .dat (.str (Str.ofString "clo")), .dat (.int i)] none = some (R.toD (partC i r), none) := partC_spec (n := n + 1) hi h
theorem if2 {N n : Nat} {c t e : R} : callD Text N (n + 2) (Str.ofString "_law_if") [.dat (R.toD c), .dat (R.toD t), .dat (R.toD e)] none = some (R.toD (ifR c t e), none) := if_spec (n := n + 1)

noncomputable def rWay (way lf x y : PyData) (op : Int) (M : List PyData) (n p q : Int) (a b : PyData) : Loc :=
  setL (setL (setL (setL (setL (setL (setL (setL (setL (setL (setL (fun _ => none) (Str.ofString "y") (.dat y)) (Str.ofString "x") (.dat x)) (Str.ofString "leaf") (.dat lf)) (Str.ofString "op") (.dat (.int op))) (Str.ofString "way") (.dat way))
    (Str.ofString "nodes") (.dat (.list M))) (Str.ofString "n") (.dat (.int n))) (Str.ofString "p") (.dat (.int p))) (Str.ofString "q") (.dat (.int q))) (Str.ofString "a") (.dat a)) (Str.ofString "b") (.dat b)
theorem addL_1 {M : List PyData} (h : M.length ≤ 4000) {a0 : PyData} : binDD .Add (.dat (.list M)) (.dat (.list [a0])) = some (.list (M ++ [a0])) := qAddL (Nat.le_trans (Nat.add_le_add_right h 1) (by decide))
theorem addL_2 {M : List PyData} (h : M.length ≤ 4000) {a0 a1 : PyData} : binDD .Add (.dat (.list M)) (.dat (.list [a0, a1])) = some (.list (M ++ [a0, a1])) := qAddL (Nat.le_trans (Nat.add_le_add_right h 2) (by decide))
theorem addL_4 {M : List PyData} (h : M.length ≤ 4000) {a0 a1 a2 a3 : PyData} : binDD .Add (.dat (.list M)) (.dat (.list [a0, a1, a2, a3])) = some (.list (M ++ [a0, a1, a2, a3])) := qAddL (Nat.le_trans (Nat.add_le_add_right h 4) (by decide))
theorem addL_5 {M : List PyData} (h : M.length ≤ 4000) {a0 a1 a2 a3 a4 : PyData} : binDD .Add (.dat (.list M)) (.dat (.list [a0, a1, a2, a3, a4])) = some (.list (M ++ [a0, a1, a2, a3, a4])) := qAddL (Nat.le_trans (Nat.add_le_add_right h 5) (by decide))
theorem addL_10 {M : List PyData} (h : M.length ≤ 4000) {a0 a1 a2 a3 a4 a5 a6 a7 a8 a9 : PyData} : binDD .Add (.dat (.list M)) (.dat (.list [a0, a1, a2, a3, a4, a5, a6, a7, a8, a9])) = some (.list (M ++ [a0, a1, a2, a3, a4, a5, a6, a7, a8, a9])) := qAddL (Nat.le_trans (Nat.add_le_add_right h 10) (by decide))
theorem addL_55 {a0 a1 a2 a3 a4 b0 b1 b2 b3 b4 : PyData} : binDD .Add (.dat (.list [a0, a1, a2, a3, a4])) (.dat (.list [b0, b1, b2, b3, b4])) = some (.list [a0, a1, a2, a3, a4, b0, b1, b2, b3, b4]) := rfl

section
variable {call : Str → List D → St → Option (PyData × St)} {N : Nat} {L M : List PyData} {r lf x y a b d fl : PyData} {op n m p q e f t : Int} {k : Str}
theorem plain_pre {way : PyData} (hm : binDD .Mod (.dat (.int op)) (.dat (.int 2)) = some (.int t)) (hs : call (Str.ofString "_law_sides") [.dat way, .dat lf, .dat (.int t)] none = some (.tuple [.list M, .int n, .int p, .int q, a, b], none)) :
    runFn N call fPlain.1 [.dat way, .dat (.int op), .dat lf, .dat x, .dat y] none = out0 (exSs ⟨fPlain.1.sc, call, N⟩ (bPlain.1.drop 1) (rWay way lf x y op M n p q a b) none) := by
  rw [qRun0 rfl rfl rfl, ePlain]
  refine congrArg out0 (seqN ?_)
  simp only [↓qInt, ↓qStr, ↓qBool, ↓qNone, ↓qName, ↓qTuple, ↓qList, ↓qBin, ↓qNeg, ↓qIfExp, ↓qCall, ↓qSl0, ↓qSl1, ↓qSub, ↓qEs0, ↓qEs1, ↓qCmp, ↓qNot, ↓qBoolOp, ↓qAnd0, ↓qOr0, ↓qAnd1, ↓qOr1, ↓qRet, ↓qAsg, ↓qAsgT, ↓qIf, ↓qSs0, ↓qSs1, ↓qTup0, ↓qTup1, ↓qApp, ↓qDel, qApp1, qIs, qIsNot, qIsTy, qGetT0, qGetT1, qGetT2, qGetT3, qAddI, qSubI, qTypeI, qNegI, qSlI, qRetD, qTupD, qLisD, qNewFr, qPV1, qPV2, qNil, qN0, qN1, aD0, aD1, aD2, aD3, aD4, aD5, aD6, aD7, aD8, aD9, aD10, aD11, aD12, sM0, sM1, sM2, sM3, sM4, sM5, sM6, sM7, sM8, sM9, sM10, sM11, sM12, Bool.not_true, Bool.not_false, Nat.reduceBEq, resD, se_way, sn_way_op, sn_way_leaf, sn_way_x, sn_way_y, se_op, sn_op_leaf, sn_op_x, sn_op_y, se_leaf, sn_leaf_x, sn_leaf_y, se_x, sn_x_y, se_y, sn_y_kind, se_nodes, sn_nodes_way, sn_nodes_op, sn_nodes_x, sn_nodes_y, se_n, sn_n_way, sn_n_op, sn_n_leaf, sn_n_x, sn_n_y, sn_n_nodes, se_p, sn_p_way, sn_p_op, sn_p_x, sn_p_y, sn_p_nodes, sn_p_n, se_q, sn_q_way, sn_q_op, sn_q_x, sn_q_y, sn_q_nodes, sn_q_n, sn_q_p, se_a, sn_a_way, sn_a_op, sn_a_x, sn_a_y, sn_a_nodes, sn_a_n, sn_a_p, sn_a_q, sn_a_b, se_b, sn_b_way, sn_b_op, sn_b_x, sn_b_y, sn_b_nodes, sn_b_n, sn_b_p, sn_b_q, sn_b_a, se_kind, sn_kind_way, sn_kind_y, sn_kind_nodes, sn_kind_n, sn_kind_p, sn_kind_q, sn_kind_a, sn_kind_b, se_body, sn_body_way, sn_body_y, sn_body_kind, loPlain_a, loPlain_b, loPlain_body, fn_body, loPlain_kind, fn_kind, loPlain_n, fn_n, loPlain_nodes, loPlain_p, loPlain_q, caPlain_ulawusides, caPlain_ulawuboth, caPlain_ulawupart, caPlain_ulawuif, caPlain_ulawubound, hm, hs]
  rfl
theorem calls_pre {way : PyData} (hm : binDD .Mod (.dat (.int op)) (.dat (.int 2)) = some (.int t)) (hs : call (Str.ofString "_law_sides") [.dat way, .dat lf, .dat (.int t)] none = some (.tuple [.list M, .int n, .int p, .int q, a, b], none)) :
    runFn N call fCalls.1 [.dat way, .dat (.int op), .dat lf, .dat x, .dat y] none = out0 (exSs ⟨fCalls.1.sc, call, N⟩ (bCalls.1.drop 1) (rWay way lf x y op M n p q a b) none) := by
  rw [qRun0 rfl rfl rfl, eCalls]
  refine congrArg out0 (seqN ?_)
  simp only [↓qInt, ↓qStr, ↓qBool, ↓qNone, ↓qName, ↓qTuple, ↓qList, ↓qBin, ↓qNeg, ↓qIfExp, ↓qCall, ↓qSl0, ↓qSl1, ↓qSub, ↓qEs0, ↓qEs1, ↓qCmp, ↓qNot, ↓qBoolOp, ↓qAnd0, ↓qOr0, ↓qAnd1, ↓qOr1, ↓qRet, ↓qAsg, ↓qAsgT, ↓qIf, ↓qSs0, ↓qSs1, ↓qTup0, ↓qTup1, ↓qApp, ↓qDel, qApp1, qIs, qIsNot, qIsTy, qGetT0, qGetT1, qGetT2, qGetT3, qAddI, qSubI, qTypeI, qNegI, qSlI, qRetD, qTupD, qLisD, qNewFr, qPV1, qPV2, qNil, qN0, qN1, aD0, aD1, aD2, aD3, aD4, aD5, aD6, aD7, aD8, aD9, aD10, aD11, aD12, sM0, sM1, sM2, sM3, sM4, sM5, sM6, sM7, sM8, sM9, sM10, sM11, sM12, Bool.not_true, Bool.not_false, Nat.reduceBEq, resD, se_way, sn_way_op, sn_way_leaf, sn_way_x, sn_way_y, se_op, sn_op_leaf, sn_op_x, sn_op_y, se_leaf, sn_leaf_x, sn_leaf_y, se_x, sn_x_y, se_y, sn_y_kind, se_nodes, sn_nodes_way, sn_nodes_op, sn_nodes_x, sn_nodes_y, se_n, sn_n_way, sn_n_op, sn_n_leaf, sn_n_x, sn_n_y, sn_n_nodes, se_p, sn_p_way, sn_p_op, sn_p_x, sn_p_y, sn_p_nodes, sn_p_n, se_q, sn_q_way, sn_q_op, sn_q_x, sn_q_y, sn_q_nodes, sn_q_n, sn_q_p, se_a, sn_a_way, sn_a_op, sn_a_x, sn_a_y, sn_a_nodes, sn_a_n, sn_a_p, sn_a_q, sn_a_b, se_b, sn_b_way, sn_b_op, sn_b_x, sn_b_y, sn_b_nodes, sn_b_n, sn_b_p, sn_b_q, sn_b_a, se_kind, sn_kind_way, sn_kind_y, sn_kind_nodes, sn_kind_n, sn_kind_p, sn_kind_q, sn_kind_a, sn_kind_b, se_maker, sn_maker_x, sn_maker_y, sn_maker_nodes, sn_maker_n, sn_maker_p, sn_maker_q, sn_maker_a, sn_maker_b, se_pick, sn_pick_way, sn_pick_op, se_flip, sn_flip_x, sn_flip_nodes, sn_flip_n, sn_flip_p, sn_flip_q, sn_flip_b, se_test, sn_test_x, sn_test_nodes, sn_test_b, sn_test_flip, se_body, sn_body_way, sn_body_y, sn_body_kind, loCalls_a, loCalls_b, loCalls_body, fn_body, loCalls_flip, fn_flip, loCalls_kind, fn_kind, loCalls_maker, fn_maker, loCalls_n, fn_n, loCalls_nodes, loCalls_p, loCalls_pick, fn_pick, loCalls_q, loCalls_test, fn_test, caCalls_ulawusides, caCalls_ulawuboth, caCalls_ulawuclosure, caCalls_ulawupart, caCalls_ulawuif, caCalls_ulawubound, hm, hs]
  rfl
theorem plain_both (hl6 : cmpD none .Lt (.dat (.int op)) (.dat (.int 6)) = some true) (hd : binDD .FloorDiv (.dat (.int op)) (.dat (.int 2)) = some (.int e)) (hk : subD none (.dat (.tuple [.str (Str.ofString "add"), .str (Str.ofString "less"), .str (Str.ofString "pair")])) (.dat (.int e)) = some (.str k)) (hM : M.length ≤ 4000) (hb : call (Str.ofString "_law_both") [.dat (.str k), .dat a, .dat b] none = some (d, none)) :
    out0 (exSs ⟨fPlain.1.sc, call, N⟩ (bPlain.1.drop 1) (rWay (.tuple [.list L, r]) lf x y op M n p q a b) none) = some (.tuple [.list (M ++ [.tuple [.str k, .int (p), .int (q), .int (0)]]), d], none) := by
  simp only [bPlain, List.drop_succ_cons, List.drop_zero, rWay, ↓qInt, ↓qStr, ↓qBool, ↓qNone, ↓qName, ↓qTuple, ↓qList, ↓qBin, ↓qNeg, ↓qIfExp, ↓qCall, ↓qSl0, ↓qSl1, ↓qSub, ↓qEs0, ↓qEs1, ↓qCmp, ↓qNot, ↓qBoolOp, ↓qAnd0, ↓qOr0, ↓qAnd1, ↓qOr1, ↓qRet, ↓qAsg, ↓qAsgT, ↓qIf, ↓qSs0, ↓qSs1, ↓qTup0, ↓qTup1, ↓qApp, ↓qDel, qApp1, qIs, qIsNot, qIsTy, qGetT0, qGetT1, qGetT2, qGetT3, qAddI, qSubI, qTypeI, qNegI, qSlI, qRetD, qTupD, qLisD, qNewFr, qPV1, qPV2, qNil, qN0, qN1, aD0, aD1, aD2, aD3, aD4, aD5, aD6, aD7, aD8, aD9, aD10, aD11, aD12, sM0, sM1, sM2, sM3, sM4, sM5, sM6, sM7, sM8, sM9, sM10, sM11, sM12, Bool.not_true, Bool.not_false, Nat.reduceBEq, resD, se_way, sn_way_op, sn_way_leaf, sn_way_x, sn_way_y, se_op, sn_op_leaf, sn_op_x, sn_op_y, se_leaf, sn_leaf_x, sn_leaf_y, se_x, sn_x_y, se_y, sn_y_kind, se_nodes, sn_nodes_way, sn_nodes_op, sn_nodes_x, sn_nodes_y, se_n, sn_n_way, sn_n_op, sn_n_leaf, sn_n_x, sn_n_y, sn_n_nodes, se_p, sn_p_way, sn_p_op, sn_p_x, sn_p_y, sn_p_nodes, sn_p_n, se_q, sn_q_way, sn_q_op, sn_q_x, sn_q_y, sn_q_nodes, sn_q_n, sn_q_p, se_a, sn_a_way, sn_a_op, sn_a_x, sn_a_y, sn_a_nodes, sn_a_n, sn_a_p, sn_a_q, sn_a_b, se_b, sn_b_way, sn_b_op, sn_b_x, sn_b_y, sn_b_nodes, sn_b_n, sn_b_p, sn_b_q, sn_b_a, se_kind, sn_kind_way, sn_kind_y, sn_kind_nodes, sn_kind_n, sn_kind_p, sn_kind_q, sn_kind_a, sn_kind_b, se_body, sn_body_way, sn_body_y, sn_body_kind, loPlain_a, loPlain_b, loPlain_body, fn_body, loPlain_kind, fn_kind, loPlain_n, fn_n, loPlain_nodes, loPlain_p, loPlain_q, caPlain_ulawusides, caPlain_ulawuboth, caPlain_ulawupart, caPlain_ulawuif, caPlain_ulawubound, hl6, hd, hk, hb, addL_1 hM, out0]
theorem plain_part (hl6 : cmpD none .Lt (.dat (.int op)) (.dat (.int 6)) = some false) (hl8 : cmpD none .Lt (.dat (.int op)) (.dat (.int 8)) = some true) (hd : binDD .Sub (.dat (.int op)) (.dat (.int 6)) = some (.int e)) (hk : subD none (.dat (.tuple [.str (Str.ofString "fst"), .str (Str.ofString "snd")])) (.dat (.int e)) = some (.str k)) (hf : binDD .Sub (.dat (.int op)) (.dat (.int 5)) = some (.int f)) (hn : binDD .Sub (.dat (.int n)) (.dat (.int 1)) = some (.int m)) (hL : L.length ≤ 4000) (hb : call (Str.ofString "_law_part") [.dat r, .dat (.str (Str.ofString "pair")), .dat (.int f)] none = some (d, none)) :
    out0 (exSs ⟨fPlain.1.sc, call, N⟩ (bPlain.1.drop 1) (rWay (.tuple [.list L, r]) lf x y op M n p q a b) none) = some (.tuple [.list (L ++ [.tuple [.str k, .int (m), .int (0), .int (0)]]), d], none) := by
  simp only [bPlain, List.drop_succ_cons, List.drop_zero, rWay, ↓qInt, ↓qStr, ↓qBool, ↓qNone, ↓qName, ↓qTuple, ↓qList, ↓qBin, ↓qNeg, ↓qIfExp, ↓qCall, ↓qSl0, ↓qSl1, ↓qSub, ↓qEs0, ↓qEs1, ↓qCmp, ↓qNot, ↓qBoolOp, ↓qAnd0, ↓qOr0, ↓qAnd1, ↓qOr1, ↓qRet, ↓qAsg, ↓qAsgT, ↓qIf, ↓qSs0, ↓qSs1, ↓qTup0, ↓qTup1, ↓qApp, ↓qDel, qApp1, qIs, qIsNot, qIsTy, qGetT0, qGetT1, qGetT2, qGetT3, qAddI, qSubI, qTypeI, qNegI, qSlI, qRetD, qTupD, qLisD, qNewFr, qPV1, qPV2, qNil, qN0, qN1, aD0, aD1, aD2, aD3, aD4, aD5, aD6, aD7, aD8, aD9, aD10, aD11, aD12, sM0, sM1, sM2, sM3, sM4, sM5, sM6, sM7, sM8, sM9, sM10, sM11, sM12, Bool.not_true, Bool.not_false, Nat.reduceBEq, resD, se_way, sn_way_op, sn_way_leaf, sn_way_x, sn_way_y, se_op, sn_op_leaf, sn_op_x, sn_op_y, se_leaf, sn_leaf_x, sn_leaf_y, se_x, sn_x_y, se_y, sn_y_kind, se_nodes, sn_nodes_way, sn_nodes_op, sn_nodes_x, sn_nodes_y, se_n, sn_n_way, sn_n_op, sn_n_leaf, sn_n_x, sn_n_y, sn_n_nodes, se_p, sn_p_way, sn_p_op, sn_p_x, sn_p_y, sn_p_nodes, sn_p_n, se_q, sn_q_way, sn_q_op, sn_q_x, sn_q_y, sn_q_nodes, sn_q_n, sn_q_p, se_a, sn_a_way, sn_a_op, sn_a_x, sn_a_y, sn_a_nodes, sn_a_n, sn_a_p, sn_a_q, sn_a_b, se_b, sn_b_way, sn_b_op, sn_b_x, sn_b_y, sn_b_nodes, sn_b_n, sn_b_p, sn_b_q, sn_b_a, se_kind, sn_kind_way, sn_kind_y, sn_kind_nodes, sn_kind_n, sn_kind_p, sn_kind_q, sn_kind_a, sn_kind_b, se_body, sn_body_way, sn_body_y, sn_body_kind, loPlain_a, loPlain_b, loPlain_body, fn_body, loPlain_kind, fn_kind, loPlain_n, fn_n, loPlain_nodes, loPlain_p, loPlain_q, caPlain_ulawusides, caPlain_ulawuboth, caPlain_ulawupart, caPlain_ulawuif, caPlain_ulawubound, hl6, hl8, hd, hk, hf, hn, hb, addL_1 hL, out0]
theorem plain_if (hl6 : cmpD none .Lt (.dat (.int op)) (.dat (.int 6)) = some false) (hl8 : cmpD none .Lt (.dat (.int op)) (.dat (.int 8)) = some false) (hl10 : cmpD none .Lt (.dat (.int op)) (.dat (.int 10)) = some true) (hM : M.length ≤ 4000) (hb : call (Str.ofString "_law_if") [.dat a, .dat b, .dat (.tuple [x, .int 1])] none = some (d, none)) :
    out0 (exSs ⟨fPlain.1.sc, call, N⟩ (bPlain.1.drop 1) (rWay (.tuple [.list L, r]) lf x y op M n p q a b) none) = some (.tuple [.list (M ++ [.tuple [.str (Str.ofString "ref"), .int (1), .int (0), .int (0)], .tuple [.str (Str.ofString "if"), .int (p), .int (q), .int (n + 1)]]), d], none) := by
  simp only [bPlain, List.drop_succ_cons, List.drop_zero, rWay, ↓qInt, ↓qStr, ↓qBool, ↓qNone, ↓qName, ↓qTuple, ↓qList, ↓qBin, ↓qNeg, ↓qIfExp, ↓qCall, ↓qSl0, ↓qSl1, ↓qSub, ↓qEs0, ↓qEs1, ↓qCmp, ↓qNot, ↓qBoolOp, ↓qAnd0, ↓qOr0, ↓qAnd1, ↓qOr1, ↓qRet, ↓qAsg, ↓qAsgT, ↓qIf, ↓qSs0, ↓qSs1, ↓qTup0, ↓qTup1, ↓qApp, ↓qDel, qApp1, qIs, qIsNot, qIsTy, qGetT0, qGetT1, qGetT2, qGetT3, qAddI, qSubI, qTypeI, qNegI, qSlI, qRetD, qTupD, qLisD, qNewFr, qPV1, qPV2, qNil, qN0, qN1, aD0, aD1, aD2, aD3, aD4, aD5, aD6, aD7, aD8, aD9, aD10, aD11, aD12, sM0, sM1, sM2, sM3, sM4, sM5, sM6, sM7, sM8, sM9, sM10, sM11, sM12, Bool.not_true, Bool.not_false, Nat.reduceBEq, resD, se_way, sn_way_op, sn_way_leaf, sn_way_x, sn_way_y, se_op, sn_op_leaf, sn_op_x, sn_op_y, se_leaf, sn_leaf_x, sn_leaf_y, se_x, sn_x_y, se_y, sn_y_kind, se_nodes, sn_nodes_way, sn_nodes_op, sn_nodes_x, sn_nodes_y, se_n, sn_n_way, sn_n_op, sn_n_leaf, sn_n_x, sn_n_y, sn_n_nodes, se_p, sn_p_way, sn_p_op, sn_p_x, sn_p_y, sn_p_nodes, sn_p_n, se_q, sn_q_way, sn_q_op, sn_q_x, sn_q_y, sn_q_nodes, sn_q_n, sn_q_p, se_a, sn_a_way, sn_a_op, sn_a_x, sn_a_y, sn_a_nodes, sn_a_n, sn_a_p, sn_a_q, sn_a_b, se_b, sn_b_way, sn_b_op, sn_b_x, sn_b_y, sn_b_nodes, sn_b_n, sn_b_p, sn_b_q, sn_b_a, se_kind, sn_kind_way, sn_kind_y, sn_kind_nodes, sn_kind_n, sn_kind_p, sn_kind_q, sn_kind_a, sn_kind_b, se_body, sn_body_way, sn_body_y, sn_body_kind, loPlain_a, loPlain_b, loPlain_body, fn_body, loPlain_kind, fn_kind, loPlain_n, fn_n, loPlain_nodes, loPlain_p, loPlain_q, caPlain_ulawusides, caPlain_ulawuboth, caPlain_ulawupart, caPlain_ulawuif, caPlain_ulawubound, hl6, hl8, hl10, hb, addL_2 hM, out0]
theorem plain_bound (hl6 : cmpD none .Lt (.dat (.int op)) (.dat (.int 6)) = some false) (hl8 : cmpD none .Lt (.dat (.int op)) (.dat (.int 8)) = some false) (hl10 : cmpD none .Lt (.dat (.int op)) (.dat (.int 10)) = some false) (hd : binDD .Sub (.dat (.int op)) (.dat (.int 10)) = some (.int e)) (hk : subD none (.dat (.tuple [.str (Str.ofString "add"), .str (Str.ofString "less")])) (.dat (.int e)) = some (.str k)) (hn : binDD .Sub (.dat (.int n)) (.dat (.int 1)) = some (.int m)) (hL : L.length ≤ 4000) (hb : call (Str.ofString "_law_bound") [.dat r, .dat y, .dat (.str k), .dat (.int 3), .dat (.int 4)] none = some (d, none)) :
    out0 (exSs ⟨fPlain.1.sc, call, N⟩ (bPlain.1.drop 1) (rWay (.tuple [.list L, r]) lf x y op M n p q a b) none) = some (.tuple [.list (L ++ [.tuple [.str (Str.ofString "ref"), .int (0), .int (0), .int (0)], .tuple [.str (Str.ofString "ref"), .int (1), .int (0), .int (0)], .tuple [.str k, .int (n), .int (n + 1), .int (0)], .tuple [.str (Str.ofString "lam"), .int (n + 2), .int (0), .int (0)], .tuple [.str (Str.ofString "app"), .int (n + 3), .int (m), .int (0)]]), d], none) := by
  simp only [bPlain, List.drop_succ_cons, List.drop_zero, rWay, ↓qInt, ↓qStr, ↓qBool, ↓qNone, ↓qName, ↓qTuple, ↓qList, ↓qBin, ↓qNeg, ↓qIfExp, ↓qCall, ↓qSl0, ↓qSl1, ↓qSub, ↓qEs0, ↓qEs1, ↓qCmp, ↓qNot, ↓qBoolOp, ↓qAnd0, ↓qOr0, ↓qAnd1, ↓qOr1, ↓qRet, ↓qAsg, ↓qAsgT, ↓qIf, ↓qSs0, ↓qSs1, ↓qTup0, ↓qTup1, ↓qApp, ↓qDel, qApp1, qIs, qIsNot, qIsTy, qGetT0, qGetT1, qGetT2, qGetT3, qAddI, qSubI, qTypeI, qNegI, qSlI, qRetD, qTupD, qLisD, qNewFr, qPV1, qPV2, qNil, qN0, qN1, aD0, aD1, aD2, aD3, aD4, aD5, aD6, aD7, aD8, aD9, aD10, aD11, aD12, sM0, sM1, sM2, sM3, sM4, sM5, sM6, sM7, sM8, sM9, sM10, sM11, sM12, Bool.not_true, Bool.not_false, Nat.reduceBEq, resD, se_way, sn_way_op, sn_way_leaf, sn_way_x, sn_way_y, se_op, sn_op_leaf, sn_op_x, sn_op_y, se_leaf, sn_leaf_x, sn_leaf_y, se_x, sn_x_y, se_y, sn_y_kind, se_nodes, sn_nodes_way, sn_nodes_op, sn_nodes_x, sn_nodes_y, se_n, sn_n_way, sn_n_op, sn_n_leaf, sn_n_x, sn_n_y, sn_n_nodes, se_p, sn_p_way, sn_p_op, sn_p_x, sn_p_y, sn_p_nodes, sn_p_n, se_q, sn_q_way, sn_q_op, sn_q_x, sn_q_y, sn_q_nodes, sn_q_n, sn_q_p, se_a, sn_a_way, sn_a_op, sn_a_x, sn_a_y, sn_a_nodes, sn_a_n, sn_a_p, sn_a_q, sn_a_b, se_b, sn_b_way, sn_b_op, sn_b_x, sn_b_y, sn_b_nodes, sn_b_n, sn_b_p, sn_b_q, sn_b_a, se_kind, sn_kind_way, sn_kind_y, sn_kind_nodes, sn_kind_n, sn_kind_p, sn_kind_q, sn_kind_a, sn_kind_b, se_body, sn_body_way, sn_body_y, sn_body_kind, loPlain_a, loPlain_b, loPlain_body, fn_body, loPlain_kind, fn_kind, loPlain_n, fn_n, loPlain_nodes, loPlain_p, loPlain_q, caPlain_ulawusides, caPlain_ulawuboth, caPlain_ulawupart, caPlain_ulawuif, caPlain_ulawubound, hl6, hl8, hl10, hd, hk, hn, hb, addL_5 hL, out0]
theorem calls_both (hl4 : cmpD none .Lt (.dat (.int op)) (.dat (.int 4)) = some true) (hd : binDD .FloorDiv (.dat (.int op)) (.dat (.int 2)) = some (.int e)) (hk : subD none (.dat (.tuple [.str (Str.ofString "add"), .str (Str.ofString "less")])) (.dat (.int e)) = some (.str k)) (hM : M.length ≤ 4000) (hb : call (Str.ofString "_law_both") [.dat (.str k), .dat a, .dat b] none = some (d, none)) :
    out0 (exSs ⟨fCalls.1.sc, call, N⟩ (bCalls.1.drop 1) (rWay (.tuple [.list L, r]) lf x y op M n p q a b) none) = some (.tuple [.list (M ++ [.tuple [.str k, .int (p), .int (q), .int (0)]]), d], none) := by
  simp only [bCalls, List.drop_succ_cons, List.drop_zero, rWay, ↓qInt, ↓qStr, ↓qBool, ↓qNone, ↓qName, ↓qTuple, ↓qList, ↓qBin, ↓qNeg, ↓qIfExp, ↓qCall, ↓qSl0, ↓qSl1, ↓qSub, ↓qEs0, ↓qEs1, ↓qCmp, ↓qNot, ↓qBoolOp, ↓qAnd0, ↓qOr0, ↓qAnd1, ↓qOr1, ↓qRet, ↓qAsg, ↓qAsgT, ↓qIf, ↓qSs0, ↓qSs1, ↓qTup0, ↓qTup1, ↓qApp, ↓qDel, qApp1, qIs, qIsNot, qIsTy, qGetT0, qGetT1, qGetT2, qGetT3, qAddI, qSubI, qTypeI, qNegI, qSlI, qRetD, qTupD, qLisD, qNewFr, qPV1, qPV2, qNil, qN0, qN1, aD0, aD1, aD2, aD3, aD4, aD5, aD6, aD7, aD8, aD9, aD10, aD11, aD12, sM0, sM1, sM2, sM3, sM4, sM5, sM6, sM7, sM8, sM9, sM10, sM11, sM12, Bool.not_true, Bool.not_false, Nat.reduceBEq, resD, se_way, sn_way_op, sn_way_leaf, sn_way_x, sn_way_y, se_op, sn_op_leaf, sn_op_x, sn_op_y, se_leaf, sn_leaf_x, sn_leaf_y, se_x, sn_x_y, se_y, sn_y_kind, se_nodes, sn_nodes_way, sn_nodes_op, sn_nodes_x, sn_nodes_y, se_n, sn_n_way, sn_n_op, sn_n_leaf, sn_n_x, sn_n_y, sn_n_nodes, se_p, sn_p_way, sn_p_op, sn_p_x, sn_p_y, sn_p_nodes, sn_p_n, se_q, sn_q_way, sn_q_op, sn_q_x, sn_q_y, sn_q_nodes, sn_q_n, sn_q_p, se_a, sn_a_way, sn_a_op, sn_a_x, sn_a_y, sn_a_nodes, sn_a_n, sn_a_p, sn_a_q, sn_a_b, se_b, sn_b_way, sn_b_op, sn_b_x, sn_b_y, sn_b_nodes, sn_b_n, sn_b_p, sn_b_q, sn_b_a, se_kind, sn_kind_way, sn_kind_y, sn_kind_nodes, sn_kind_n, sn_kind_p, sn_kind_q, sn_kind_a, sn_kind_b, se_maker, sn_maker_x, sn_maker_y, sn_maker_nodes, sn_maker_n, sn_maker_p, sn_maker_q, sn_maker_a, sn_maker_b, se_pick, sn_pick_way, sn_pick_op, se_flip, sn_flip_x, sn_flip_nodes, sn_flip_n, sn_flip_p, sn_flip_q, sn_flip_b, se_test, sn_test_x, sn_test_nodes, sn_test_b, sn_test_flip, se_body, sn_body_way, sn_body_y, sn_body_kind, loCalls_a, loCalls_b, loCalls_body, fn_body, loCalls_flip, fn_flip, loCalls_kind, fn_kind, loCalls_maker, fn_maker, loCalls_n, fn_n, loCalls_nodes, loCalls_p, loCalls_pick, fn_pick, loCalls_q, loCalls_test, fn_test, caCalls_ulawusides, caCalls_ulawuboth, caCalls_ulawuclosure, caCalls_ulawupart, caCalls_ulawuif, caCalls_ulawubound, hl4, hd, hk, hb, addL_1 hM, out0]
theorem calls_clo (hl4 : cmpD none .Lt (.dat (.int op)) (.dat (.int 4)) = some false) (hl6 : cmpD none .Lt (.dat (.int op)) (.dat (.int 6)) = some true) (hM : M.length ≤ 4000) (hb : call (Str.ofString "_law_closure") [.dat a, .dat b, .dat (.int (n + 5)), .dat (.list [y, x])] none = some (d, none)) :
    out0 (exSs ⟨fCalls.1.sc, call, N⟩ (bCalls.1.drop 1) (rWay (.tuple [.list L, r]) lf x y op M n p q a b) none) = some (.tuple [.list (M ++ [.tuple [.str (Str.ofString "ref"), .int (0), .int (0), .int (0)], .tuple [.str (Str.ofString "ref"), .int (2), .int (0), .int (0)], .tuple [.str (Str.ofString "app"), .int (n + 1), .int (n + 2), .int (0)], .tuple [.str (Str.ofString "ref"), .int (1), .int (0), .int (0)], .tuple [.str (Str.ofString "app"), .int (n + 3), .int (n + 4), .int (0)], .tuple [.str (Str.ofString "lam"), .int (n + 5), .int (0), .int (0)], .tuple [.str (Str.ofString "lam"), .int (n + 6), .int (0), .int (0)], .tuple [.str (Str.ofString "lam"), .int (n + 7), .int (0), .int (0)], .tuple [.str (Str.ofString "app"), .int (n + 8), .int (p), .int (0)], .tuple [.str (Str.ofString "app"), .int (n + 9), .int (q), .int (0)]]), d], none) := by
  simp only [bCalls, List.drop_succ_cons, List.drop_zero, rWay, ↓qInt, ↓qStr, ↓qBool, ↓qNone, ↓qName, ↓qTuple, ↓qList, ↓qBin, ↓qNeg, ↓qIfExp, ↓qCall, ↓qSl0, ↓qSl1, ↓qSub, ↓qEs0, ↓qEs1, ↓qCmp, ↓qNot, ↓qBoolOp, ↓qAnd0, ↓qOr0, ↓qAnd1, ↓qOr1, ↓qRet, ↓qAsg, ↓qAsgT, ↓qIf, ↓qSs0, ↓qSs1, ↓qTup0, ↓qTup1, ↓qApp, ↓qDel, qApp1, qIs, qIsNot, qIsTy, qGetT0, qGetT1, qGetT2, qGetT3, qAddI, qSubI, qTypeI, qNegI, qSlI, qRetD, qTupD, qLisD, qNewFr, qPV1, qPV2, qNil, qN0, qN1, aD0, aD1, aD2, aD3, aD4, aD5, aD6, aD7, aD8, aD9, aD10, aD11, aD12, sM0, sM1, sM2, sM3, sM4, sM5, sM6, sM7, sM8, sM9, sM10, sM11, sM12, Bool.not_true, Bool.not_false, Nat.reduceBEq, resD, se_way, sn_way_op, sn_way_leaf, sn_way_x, sn_way_y, se_op, sn_op_leaf, sn_op_x, sn_op_y, se_leaf, sn_leaf_x, sn_leaf_y, se_x, sn_x_y, se_y, sn_y_kind, se_nodes, sn_nodes_way, sn_nodes_op, sn_nodes_x, sn_nodes_y, se_n, sn_n_way, sn_n_op, sn_n_leaf, sn_n_x, sn_n_y, sn_n_nodes, se_p, sn_p_way, sn_p_op, sn_p_x, sn_p_y, sn_p_nodes, sn_p_n, se_q, sn_q_way, sn_q_op, sn_q_x, sn_q_y, sn_q_nodes, sn_q_n, sn_q_p, se_a, sn_a_way, sn_a_op, sn_a_x, sn_a_y, sn_a_nodes, sn_a_n, sn_a_p, sn_a_q, sn_a_b, se_b, sn_b_way, sn_b_op, sn_b_x, sn_b_y, sn_b_nodes, sn_b_n, sn_b_p, sn_b_q, sn_b_a, se_kind, sn_kind_way, sn_kind_y, sn_kind_nodes, sn_kind_n, sn_kind_p, sn_kind_q, sn_kind_a, sn_kind_b, se_maker, sn_maker_x, sn_maker_y, sn_maker_nodes, sn_maker_n, sn_maker_p, sn_maker_q, sn_maker_a, sn_maker_b, se_pick, sn_pick_way, sn_pick_op, se_flip, sn_flip_x, sn_flip_nodes, sn_flip_n, sn_flip_p, sn_flip_q, sn_flip_b, se_test, sn_test_x, sn_test_nodes, sn_test_b, sn_test_flip, se_body, sn_body_way, sn_body_y, sn_body_kind, loCalls_a, loCalls_b, loCalls_body, fn_body, loCalls_flip, fn_flip, loCalls_kind, fn_kind, loCalls_maker, fn_maker, loCalls_n, fn_n, loCalls_nodes, loCalls_p, loCalls_pick, fn_pick, loCalls_q, loCalls_test, fn_test, caCalls_ulawusides, caCalls_ulawuboth, caCalls_ulawuclosure, caCalls_ulawupart, caCalls_ulawuif, caCalls_ulawubound, hl4, hl6, hb, addL_55, addL_10 hM, out0]
theorem calls_part (hl4 : cmpD none .Lt (.dat (.int op)) (.dat (.int 4)) = some false) (hl6 : cmpD none .Lt (.dat (.int op)) (.dat (.int 6)) = some false) (hl8 : cmpD none .Lt (.dat (.int op)) (.dat (.int 8)) = some true) (hd : binDD .Sub (.dat (.int 7)) (.dat (.int op)) = some (.int e)) (hn : binDD .Sub (.dat (.int n)) (.dat (.int 1)) = some (.int m)) (hL : L.length ≤ 4000) (hb : call (Str.ofString "_law_part") [.dat r, .dat (.str (Str.ofString "clo")), .dat (.int e)] none = some (d, none)) :
    out0 (exSs ⟨fCalls.1.sc, call, N⟩ (bCalls.1.drop 1) (rWay (.tuple [.list L, r]) lf x y op M n p q a b) none) = some (.tuple [.list (L ++ [.tuple [.str (Str.ofString "ref"), .int (e), .int (0), .int (0)], .tuple [.str (Str.ofString "lam"), .int (n), .int (0), .int (0)], .tuple [.str (Str.ofString "lam"), .int (n + 1), .int (0), .int (0)], .tuple [.str (Str.ofString "app"), .int (m), .int (n + 2), .int (0)]]), d], none) := by
  simp only [bCalls, List.drop_succ_cons, List.drop_zero, rWay, ↓qInt, ↓qStr, ↓qBool, ↓qNone, ↓qName, ↓qTuple, ↓qList, ↓qBin, ↓qNeg, ↓qIfExp, ↓qCall, ↓qSl0, ↓qSl1, ↓qSub, ↓qEs0, ↓qEs1, ↓qCmp, ↓qNot, ↓qBoolOp, ↓qAnd0, ↓qOr0, ↓qAnd1, ↓qOr1, ↓qRet, ↓qAsg, ↓qAsgT, ↓qIf, ↓qSs0, ↓qSs1, ↓qTup0, ↓qTup1, ↓qApp, ↓qDel, qApp1, qIs, qIsNot, qIsTy, qGetT0, qGetT1, qGetT2, qGetT3, qAddI, qSubI, qTypeI, qNegI, qSlI, qRetD, qTupD, qLisD, qNewFr, qPV1, qPV2, qNil, qN0, qN1, aD0, aD1, aD2, aD3, aD4, aD5, aD6, aD7, aD8, aD9, aD10, aD11, aD12, sM0, sM1, sM2, sM3, sM4, sM5, sM6, sM7, sM8, sM9, sM10, sM11, sM12, Bool.not_true, Bool.not_false, Nat.reduceBEq, resD, se_way, sn_way_op, sn_way_leaf, sn_way_x, sn_way_y, se_op, sn_op_leaf, sn_op_x, sn_op_y, se_leaf, sn_leaf_x, sn_leaf_y, se_x, sn_x_y, se_y, sn_y_kind, se_nodes, sn_nodes_way, sn_nodes_op, sn_nodes_x, sn_nodes_y, se_n, sn_n_way, sn_n_op, sn_n_leaf, sn_n_x, sn_n_y, sn_n_nodes, se_p, sn_p_way, sn_p_op, sn_p_x, sn_p_y, sn_p_nodes, sn_p_n, se_q, sn_q_way, sn_q_op, sn_q_x, sn_q_y, sn_q_nodes, sn_q_n, sn_q_p, se_a, sn_a_way, sn_a_op, sn_a_x, sn_a_y, sn_a_nodes, sn_a_n, sn_a_p, sn_a_q, sn_a_b, se_b, sn_b_way, sn_b_op, sn_b_x, sn_b_y, sn_b_nodes, sn_b_n, sn_b_p, sn_b_q, sn_b_a, se_kind, sn_kind_way, sn_kind_y, sn_kind_nodes, sn_kind_n, sn_kind_p, sn_kind_q, sn_kind_a, sn_kind_b, se_maker, sn_maker_x, sn_maker_y, sn_maker_nodes, sn_maker_n, sn_maker_p, sn_maker_q, sn_maker_a, sn_maker_b, se_pick, sn_pick_way, sn_pick_op, se_flip, sn_flip_x, sn_flip_nodes, sn_flip_n, sn_flip_p, sn_flip_q, sn_flip_b, se_test, sn_test_x, sn_test_nodes, sn_test_b, sn_test_flip, se_body, sn_body_way, sn_body_y, sn_body_kind, loCalls_a, loCalls_b, loCalls_body, fn_body, loCalls_flip, fn_flip, loCalls_kind, fn_kind, loCalls_maker, fn_maker, loCalls_n, fn_n, loCalls_nodes, loCalls_p, loCalls_pick, fn_pick, loCalls_q, loCalls_test, fn_test, caCalls_ulawusides, caCalls_ulawuboth, caCalls_ulawuclosure, caCalls_ulawupart, caCalls_ulawuif, caCalls_ulawubound, hl4, hl6, hl8, hd, hn, hb, addL_4 hL, out0]
theorem calls_if (hl4 : cmpD none .Lt (.dat (.int op)) (.dat (.int 4)) = some false) (hl6 : cmpD none .Lt (.dat (.int op)) (.dat (.int 6)) = some false) (hl8 : cmpD none .Lt (.dat (.int op)) (.dat (.int 8)) = some false) (hl10 : cmpD none .Lt (.dat (.int op)) (.dat (.int 10)) = some true) (hM : M.length ≤ 4000) (hb0 : call (Str.ofString "_law_if") [.dat a, .dat (.tuple [.tuple [.str (Str.ofString "bool"), .int 0], .int 1]), .dat (.tuple [.tuple [.str (Str.ofString "bool"), .int 1], .int 1])] none = some (fl, none)) (hb : call (Str.ofString "_law_if") [.dat fl, .dat (.tuple [x, .int 1]), .dat b] none = some (d, none)) :
    out0 (exSs ⟨fCalls.1.sc, call, N⟩ (bCalls.1.drop 1) (rWay (.tuple [.list L, r]) lf x y op M n p q a b) none) = some (.tuple [.list (M ++ [.tuple [.str (Str.ofString "ref"), .int (1), .int (0), .int (0)], .tuple [.str (Str.ofString "bool"), .int (0), .int (0), .int (0)], .tuple [.str (Str.ofString "bool"), .int (1), .int (0), .int (0)], .tuple [.str (Str.ofString "if"), .int (p), .int (n + 2), .int (n + 3)], .tuple [.str (Str.ofString "if"), .int (n + 4), .int (n + 1), .int (q)]]), d], none) := by
  simp only [bCalls, List.drop_succ_cons, List.drop_zero, rWay, ↓qInt, ↓qStr, ↓qBool, ↓qNone, ↓qName, ↓qTuple, ↓qList, ↓qBin, ↓qNeg, ↓qIfExp, ↓qCall, ↓qSl0, ↓qSl1, ↓qSub, ↓qEs0, ↓qEs1, ↓qCmp, ↓qNot, ↓qBoolOp, ↓qAnd0, ↓qOr0, ↓qAnd1, ↓qOr1, ↓qRet, ↓qAsg, ↓qAsgT, ↓qIf, ↓qSs0, ↓qSs1, ↓qTup0, ↓qTup1, ↓qApp, ↓qDel, qApp1, qIs, qIsNot, qIsTy, qGetT0, qGetT1, qGetT2, qGetT3, qAddI, qSubI, qTypeI, qNegI, qSlI, qRetD, qTupD, qLisD, qNewFr, qPV1, qPV2, qNil, qN0, qN1, aD0, aD1, aD2, aD3, aD4, aD5, aD6, aD7, aD8, aD9, aD10, aD11, aD12, sM0, sM1, sM2, sM3, sM4, sM5, sM6, sM7, sM8, sM9, sM10, sM11, sM12, Bool.not_true, Bool.not_false, Nat.reduceBEq, resD, se_way, sn_way_op, sn_way_leaf, sn_way_x, sn_way_y, se_op, sn_op_leaf, sn_op_x, sn_op_y, se_leaf, sn_leaf_x, sn_leaf_y, se_x, sn_x_y, se_y, sn_y_kind, se_nodes, sn_nodes_way, sn_nodes_op, sn_nodes_x, sn_nodes_y, se_n, sn_n_way, sn_n_op, sn_n_leaf, sn_n_x, sn_n_y, sn_n_nodes, se_p, sn_p_way, sn_p_op, sn_p_x, sn_p_y, sn_p_nodes, sn_p_n, se_q, sn_q_way, sn_q_op, sn_q_x, sn_q_y, sn_q_nodes, sn_q_n, sn_q_p, se_a, sn_a_way, sn_a_op, sn_a_x, sn_a_y, sn_a_nodes, sn_a_n, sn_a_p, sn_a_q, sn_a_b, se_b, sn_b_way, sn_b_op, sn_b_x, sn_b_y, sn_b_nodes, sn_b_n, sn_b_p, sn_b_q, sn_b_a, se_kind, sn_kind_way, sn_kind_y, sn_kind_nodes, sn_kind_n, sn_kind_p, sn_kind_q, sn_kind_a, sn_kind_b, se_maker, sn_maker_x, sn_maker_y, sn_maker_nodes, sn_maker_n, sn_maker_p, sn_maker_q, sn_maker_a, sn_maker_b, se_pick, sn_pick_way, sn_pick_op, se_flip, sn_flip_x, sn_flip_nodes, sn_flip_n, sn_flip_p, sn_flip_q, sn_flip_b, se_test, sn_test_x, sn_test_nodes, sn_test_b, sn_test_flip, se_body, sn_body_way, sn_body_y, sn_body_kind, loCalls_a, loCalls_b, loCalls_body, fn_body, loCalls_flip, fn_flip, loCalls_kind, fn_kind, loCalls_maker, fn_maker, loCalls_n, fn_n, loCalls_nodes, loCalls_p, loCalls_pick, fn_pick, loCalls_q, loCalls_test, fn_test, caCalls_ulawusides, caCalls_ulawuboth, caCalls_ulawuclosure, caCalls_ulawupart, caCalls_ulawuif, caCalls_ulawubound, hl4, hl6, hl8, hl10, hb0, hb, addL_5 hM, out0]
theorem calls_bound (hl4 : cmpD none .Lt (.dat (.int op)) (.dat (.int 4)) = some false) (hl6 : cmpD none .Lt (.dat (.int op)) (.dat (.int 6)) = some false) (hl8 : cmpD none .Lt (.dat (.int op)) (.dat (.int 8)) = some false) (hl10 : cmpD none .Lt (.dat (.int op)) (.dat (.int 10)) = some false) (hd : binDD .Sub (.dat (.int op)) (.dat (.int 10)) = some (.int e)) (hk : subD none (.dat (.tuple [.str (Str.ofString "add"), .str (Str.ofString "less")])) (.dat (.int e)) = some (.str k)) (hn : binDD .Sub (.dat (.int n)) (.dat (.int 1)) = some (.int m)) (hL : L.length ≤ 4000) (hb : call (Str.ofString "_law_bound") [.dat r, .dat y, .dat (.str k), .dat (.int 1), .dat (.int 2)] none = some (d, none)) :
    out0 (exSs ⟨fCalls.1.sc, call, N⟩ (bCalls.1.drop 1) (rWay (.tuple [.list L, r]) lf x y op M n p q a b) none) = some (.tuple [.list (L ++ [.tuple [.str (Str.ofString "ref"), .int (0), .int (0), .int (0)], .tuple [.str (Str.ofString "ref"), .int (1), .int (0), .int (0)], .tuple [.str k, .int (n), .int (n + 1), .int (0)], .tuple [.str (Str.ofString "let"), .int (m), .int (n + 2), .int (0)]]), d], none) := by
  simp only [bCalls, List.drop_succ_cons, List.drop_zero, rWay, ↓qInt, ↓qStr, ↓qBool, ↓qNone, ↓qName, ↓qTuple, ↓qList, ↓qBin, ↓qNeg, ↓qIfExp, ↓qCall, ↓qSl0, ↓qSl1, ↓qSub, ↓qEs0, ↓qEs1, ↓qCmp, ↓qNot, ↓qBoolOp, ↓qAnd0, ↓qOr0, ↓qAnd1, ↓qOr1, ↓qRet, ↓qAsg, ↓qAsgT, ↓qIf, ↓qSs0, ↓qSs1, ↓qTup0, ↓qTup1, ↓qApp, ↓qDel, qApp1, qIs, qIsNot, qIsTy, qGetT0, qGetT1, qGetT2, qGetT3, qAddI, qSubI, qTypeI, qNegI, qSlI, qRetD, qTupD, qLisD, qNewFr, qPV1, qPV2, qNil, qN0, qN1, aD0, aD1, aD2, aD3, aD4, aD5, aD6, aD7, aD8, aD9, aD10, aD11, aD12, sM0, sM1, sM2, sM3, sM4, sM5, sM6, sM7, sM8, sM9, sM10, sM11, sM12, Bool.not_true, Bool.not_false, Nat.reduceBEq, resD, se_way, sn_way_op, sn_way_leaf, sn_way_x, sn_way_y, se_op, sn_op_leaf, sn_op_x, sn_op_y, se_leaf, sn_leaf_x, sn_leaf_y, se_x, sn_x_y, se_y, sn_y_kind, se_nodes, sn_nodes_way, sn_nodes_op, sn_nodes_x, sn_nodes_y, se_n, sn_n_way, sn_n_op, sn_n_leaf, sn_n_x, sn_n_y, sn_n_nodes, se_p, sn_p_way, sn_p_op, sn_p_x, sn_p_y, sn_p_nodes, sn_p_n, se_q, sn_q_way, sn_q_op, sn_q_x, sn_q_y, sn_q_nodes, sn_q_n, sn_q_p, se_a, sn_a_way, sn_a_op, sn_a_x, sn_a_y, sn_a_nodes, sn_a_n, sn_a_p, sn_a_q, sn_a_b, se_b, sn_b_way, sn_b_op, sn_b_x, sn_b_y, sn_b_nodes, sn_b_n, sn_b_p, sn_b_q, sn_b_a, se_kind, sn_kind_way, sn_kind_y, sn_kind_nodes, sn_kind_n, sn_kind_p, sn_kind_q, sn_kind_a, sn_kind_b, se_maker, sn_maker_x, sn_maker_y, sn_maker_nodes, sn_maker_n, sn_maker_p, sn_maker_q, sn_maker_a, sn_maker_b, se_pick, sn_pick_way, sn_pick_op, se_flip, sn_flip_x, sn_flip_nodes, sn_flip_n, sn_flip_p, sn_flip_q, sn_flip_b, se_test, sn_test_x, sn_test_nodes, sn_test_b, sn_test_flip, se_body, sn_body_way, sn_body_y, sn_body_kind, loCalls_a, loCalls_b, loCalls_body, fn_body, loCalls_flip, fn_flip, loCalls_kind, fn_kind, loCalls_maker, fn_maker, loCalls_n, fn_n, loCalls_nodes, loCalls_p, loCalls_pick, fn_pick, loCalls_q, loCalls_test, fn_test, caCalls_ulawusides, caCalls_ulawuboth, caCalls_ulawuclosure, caCalls_ulawupart, caCalls_ulawuif, caCalls_ulawubound, hl4, hl6, hl8, hl10, hd, hk, hn, hb, addL_4 hL, out0]
end

theorem lenM {w : W} {l : Nd × V} (h : w.nodes.length ≤ 1000) : ((w.nodes ++ [l.1]).map Nd.toD).length ≤ 4000 := by
  rw [List.length_map, List.length_append, List.length_singleton]; omega
theorem lenL {w : W} (h : w.nodes.length ≤ 1000) : (w.nodes.map Nd.toD).length ≤ 4000 := by
  rw [List.length_map]; omega
theorem sub1 {n : Nat} (h : 0 < n) : binDD .Sub (.dat (.int (n : Int))) (.dat (.int 1)) = some (.int ((n - 1 : Nat) : Int)) := by
  rw [qSubI, show (n : Int) - 1 = ((n - 1 : Nat) : Int) from by omega]
theorem catM {w : W} {l : Nd × V} {r : List Nd} {q : R} : some (PyData.tuple [.list ((w.nodes ++ [l.1]).map Nd.toD ++ r.map Nd.toD), R.toD q], (none : St)) = some (W.toD ⟨w.nodes ++ (l.1 :: r), q⟩, none) := by
  rw [← mapD_cons2]; rfl
theorem catL {w : W} {r : List Nd} {q : R} : some (PyData.tuple [.list (w.nodes.map Nd.toD ++ r.map Nd.toD), R.toD q], (none : St)) = some (W.toD ⟨w.nodes ++ r, q⟩, none) := by
  rw [W.toD, mapD_app]
theorem plain0 {N n : Nat} {w : W} {l : Nd × V} {x y : V} (hw : 0 < w.nodes.length) (hw2 : w.nodes.length ≤ 1000) :
    callD Text N (n + 3) (Str.ofString "_law_plain") [.dat w.toD, .dat (.int 0), .dat (leafD l), .dat x.toD, .dat y.toD] none = some (W.toD (plainW w 0 l x y), none) :=
  cPlain.trans ((plain_pre (t := 0) rfl (sides_spec' (op := 0) rfl hw hw2)).trans ((plain_both (e := 0) (k := Str.ofString "add") rfl rfl rfl (lenM hw2) (both2 (k := .add))).trans (catM (r := [.add (sideP 0 w.nodes.length) (sideQ 0 w.nodes.length)]))))
theorem plain1 {N n : Nat} {w : W} {l : Nd × V} {x y : V} (hw : 0 < w.nodes.length) (hw2 : w.nodes.length ≤ 1000) :
    callD Text N (n + 3) (Str.ofString "_law_plain") [.dat w.toD, .dat (.int 1), .dat (leafD l), .dat x.toD, .dat y.toD] none = some (W.toD (plainW w 1 l x y), none) :=
  cPlain.trans ((plain_pre (t := 1) rfl (sides_spec' (op := 1) rfl hw hw2)).trans ((plain_both (e := 0) (k := Str.ofString "add") rfl rfl rfl (lenM hw2) (both2 (k := .add))).trans (catM (r := [.add (sideP 1 w.nodes.length) (sideQ 1 w.nodes.length)]))))
theorem plain2 {N n : Nat} {w : W} {l : Nd × V} {x y : V} (hw : 0 < w.nodes.length) (hw2 : w.nodes.length ≤ 1000) :
    callD Text N (n + 3) (Str.ofString "_law_plain") [.dat w.toD, .dat (.int 2), .dat (leafD l), .dat x.toD, .dat y.toD] none = some (W.toD (plainW w 2 l x y), none) :=
  cPlain.trans ((plain_pre (t := 0) rfl (sides_spec' (op := 2) rfl hw hw2)).trans ((plain_both (e := 1) (k := Str.ofString "less") rfl rfl rfl (lenM hw2) (both2 (k := .less))).trans (catM (r := [.less (sideP 2 w.nodes.length) (sideQ 2 w.nodes.length)]))))
theorem plain3 {N n : Nat} {w : W} {l : Nd × V} {x y : V} (hw : 0 < w.nodes.length) (hw2 : w.nodes.length ≤ 1000) :
    callD Text N (n + 3) (Str.ofString "_law_plain") [.dat w.toD, .dat (.int 3), .dat (leafD l), .dat x.toD, .dat y.toD] none = some (W.toD (plainW w 3 l x y), none) :=
  cPlain.trans ((plain_pre (t := 1) rfl (sides_spec' (op := 3) rfl hw hw2)).trans ((plain_both (e := 1) (k := Str.ofString "less") rfl rfl rfl (lenM hw2) (both2 (k := .less))).trans (catM (r := [.less (sideP 3 w.nodes.length) (sideQ 3 w.nodes.length)]))))
theorem plain4 {N n : Nat} {w : W} {l : Nd × V} {x y : V} (hw : 0 < w.nodes.length) (hw2 : w.nodes.length ≤ 1000) :
    callD Text N (n + 3) (Str.ofString "_law_plain") [.dat w.toD, .dat (.int 4), .dat (leafD l), .dat x.toD, .dat y.toD] none = some (W.toD (plainW w 4 l x y), none) :=
  cPlain.trans ((plain_pre (t := 0) rfl (sides_spec' (op := 4) rfl hw hw2)).trans ((plain_both (e := 2) (k := Str.ofString "pair") rfl rfl rfl (lenM hw2) (both2 (k := .pair))).trans (catM (r := [.pair (sideP 4 w.nodes.length) (sideQ 4 w.nodes.length)]))))
theorem plain5 {N n : Nat} {w : W} {l : Nd × V} {x y : V} (hw : 0 < w.nodes.length) (hw2 : w.nodes.length ≤ 1000) :
    callD Text N (n + 3) (Str.ofString "_law_plain") [.dat w.toD, .dat (.int 5), .dat (leafD l), .dat x.toD, .dat y.toD] none = some (W.toD (plainW w 5 l x y), none) :=
  cPlain.trans ((plain_pre (t := 1) rfl (sides_spec' (op := 5) rfl hw hw2)).trans ((plain_both (e := 2) (k := Str.ofString "pair") rfl rfl rfl (lenM hw2) (both2 (k := .pair))).trans (catM (r := [.pair (sideP 5 w.nodes.length) (sideQ 5 w.nodes.length)]))))
theorem plain6 {N n : Nat} {w : W} {l : Nd × V} {x y : V} (hw : 0 < w.nodes.length) (hw2 : w.nodes.length ≤ 1000) :
    callD Text N (n + 3) (Str.ofString "_law_plain") [.dat w.toD, .dat (.int 6), .dat (leafD l), .dat x.toD, .dat y.toD] none = some (W.toD (plainW w 6 l x y), none) :=
  cPlain.trans ((plain_pre (t := 0) rfl (sides_spec' (op := 6) rfl hw hw2)).trans ((plain_part (e := 0) (f := 1) (k := Str.ofString "fst") rfl rfl rfl rfl rfl (sub1 hw) (lenL hw2) (partP2 (snd := false))).trans (catL (r := [.fst (w.nodes.length - 1)]))))
theorem plain7 {N n : Nat} {w : W} {l : Nd × V} {x y : V} (hw : 0 < w.nodes.length) (hw2 : w.nodes.length ≤ 1000) :
    callD Text N (n + 3) (Str.ofString "_law_plain") [.dat w.toD, .dat (.int 7), .dat (leafD l), .dat x.toD, .dat y.toD] none = some (W.toD (plainW w 7 l x y), none) :=
  cPlain.trans ((plain_pre (t := 1) rfl (sides_spec' (op := 7) rfl hw hw2)).trans ((plain_part (e := 1) (f := 2) (k := Str.ofString "snd") rfl rfl rfl rfl rfl (sub1 hw) (lenL hw2) (partP2 (snd := true))).trans (catL (r := [.snd (w.nodes.length - 1)]))))
theorem plain8 {N n : Nat} {w : W} {l : Nd × V} {x y : V} (hw : 0 < w.nodes.length) (hw2 : w.nodes.length ≤ 1000) :
    callD Text N (n + 3) (Str.ofString "_law_plain") [.dat w.toD, .dat (.int 8), .dat (leafD l), .dat x.toD, .dat y.toD] none = some (W.toD (plainW w 8 l x y), none) :=
  cPlain.trans ((plain_pre (t := 0) rfl (sides_spec' (op := 8) rfl hw hw2)).trans ((plain_if rfl rfl rfl (lenM hw2) (if2 (e := (some x, 1)))).trans (catM (r := [.ref 1, .ite (sideP 8 w.nodes.length) (sideQ 8 w.nodes.length) (w.nodes.length + 1)]))))
theorem plain9 {N n : Nat} {w : W} {l : Nd × V} {x y : V} (hw : 0 < w.nodes.length) (hw2 : w.nodes.length ≤ 1000) :
    callD Text N (n + 3) (Str.ofString "_law_plain") [.dat w.toD, .dat (.int 9), .dat (leafD l), .dat x.toD, .dat y.toD] none = some (W.toD (plainW w 9 l x y), none) :=
  cPlain.trans ((plain_pre (t := 1) rfl (sides_spec' (op := 9) rfl hw hw2)).trans ((plain_if rfl rfl rfl (lenM hw2) (if2 (e := (some x, 1)))).trans (catM (r := [.ref 1, .ite (sideP 9 w.nodes.length) (sideQ 9 w.nodes.length) (w.nodes.length + 1)]))))
theorem plain10 {N n : Nat} {w : W} {l : Nd × V} {x y : V} (hw : 0 < w.nodes.length) (hw2 : w.nodes.length ≤ 1000) :
    callD Text N (n + 3) (Str.ofString "_law_plain") [.dat w.toD, .dat (.int 10), .dat (leafD l), .dat x.toD, .dat y.toD] none = some (W.toD (plainW w 10 l x y), none) :=
  cPlain.trans ((plain_pre (t := 0) rfl (sides_spec' (op := 10) rfl hw hw2)).trans ((plain_bound (e := 0) (k := Str.ofString "add") rfl rfl rfl rfl rfl (sub1 hw) (lenL hw2) (bound_spec (k := .add) (before := 3) (around := 4))).trans (catL (r := [.ref 0, .ref 1, .add w.nodes.length (w.nodes.length + 1), .lam (w.nodes.length + 2), .app (w.nodes.length + 3) (w.nodes.length - 1)]))))
theorem plain11 {N n : Nat} {w : W} {l : Nd × V} {x y : V} (hw : 0 < w.nodes.length) (hw2 : w.nodes.length ≤ 1000) :
    callD Text N (n + 3) (Str.ofString "_law_plain") [.dat w.toD, .dat (.int 11), .dat (leafD l), .dat x.toD, .dat y.toD] none = some (W.toD (plainW w 11 l x y), none) :=
  cPlain.trans ((plain_pre (t := 1) rfl (sides_spec' (op := 11) rfl hw hw2)).trans ((plain_bound (e := 1) (k := Str.ofString "less") rfl rfl rfl rfl rfl (sub1 hw) (lenL hw2) (bound_spec (k := .less) (before := 3) (around := 4))).trans (catL (r := [.ref 0, .ref 1, .less w.nodes.length (w.nodes.length + 1), .lam (w.nodes.length + 2), .app (w.nodes.length + 3) (w.nodes.length - 1)]))))
theorem calls0 {N n : Nat} {w : W} {l : Nd × V} {x y : V} (hw : 0 < w.nodes.length) (hw2 : w.nodes.length ≤ 1000) :
    callD Text N (n + 3) (Str.ofString "_law_calls") [.dat w.toD, .dat (.int 0), .dat (leafD l), .dat x.toD, .dat y.toD] none = some (W.toD (callsW w 0 l x y), none) :=
  cCalls.trans ((calls_pre (t := 0) rfl (sides_spec' (op := 0) rfl hw hw2)).trans ((calls_both (e := 0) (k := Str.ofString "add") rfl rfl rfl (lenM hw2) (both2 (k := .add))).trans (catM (r := [.add (sideP 0 w.nodes.length) (sideQ 0 w.nodes.length)]))))
theorem calls1 {N n : Nat} {w : W} {l : Nd × V} {x y : V} (hw : 0 < w.nodes.length) (hw2 : w.nodes.length ≤ 1000) :
    callD Text N (n + 3) (Str.ofString "_law_calls") [.dat w.toD, .dat (.int 1), .dat (leafD l), .dat x.toD, .dat y.toD] none = some (W.toD (callsW w 1 l x y), none) :=
  cCalls.trans ((calls_pre (t := 1) rfl (sides_spec' (op := 1) rfl hw hw2)).trans ((calls_both (e := 0) (k := Str.ofString "add") rfl rfl rfl (lenM hw2) (both2 (k := .add))).trans (catM (r := [.add (sideP 1 w.nodes.length) (sideQ 1 w.nodes.length)]))))
theorem calls2 {N n : Nat} {w : W} {l : Nd × V} {x y : V} (hw : 0 < w.nodes.length) (hw2 : w.nodes.length ≤ 1000) :
    callD Text N (n + 3) (Str.ofString "_law_calls") [.dat w.toD, .dat (.int 2), .dat (leafD l), .dat x.toD, .dat y.toD] none = some (W.toD (callsW w 2 l x y), none) :=
  cCalls.trans ((calls_pre (t := 0) rfl (sides_spec' (op := 2) rfl hw hw2)).trans ((calls_both (e := 1) (k := Str.ofString "less") rfl rfl rfl (lenM hw2) (both2 (k := .less))).trans (catM (r := [.less (sideP 2 w.nodes.length) (sideQ 2 w.nodes.length)]))))
theorem calls3 {N n : Nat} {w : W} {l : Nd × V} {x y : V} (hw : 0 < w.nodes.length) (hw2 : w.nodes.length ≤ 1000) :
    callD Text N (n + 3) (Str.ofString "_law_calls") [.dat w.toD, .dat (.int 3), .dat (leafD l), .dat x.toD, .dat y.toD] none = some (W.toD (callsW w 3 l x y), none) :=
  cCalls.trans ((calls_pre (t := 1) rfl (sides_spec' (op := 3) rfl hw hw2)).trans ((calls_both (e := 1) (k := Str.ofString "less") rfl rfl rfl (lenM hw2) (both2 (k := .less))).trans (catM (r := [.less (sideP 3 w.nodes.length) (sideQ 3 w.nodes.length)]))))
theorem calls4 {N n : Nat} {w : W} {l : Nd × V} {x y : V} (hw : 0 < w.nodes.length) (hw2 : w.nodes.length ≤ 1000) :
    callD Text N (n + 3) (Str.ofString "_law_calls") [.dat w.toD, .dat (.int 4), .dat (leafD l), .dat x.toD, .dat y.toD] none = some (W.toD (callsW w 4 l x y), none) :=
  cCalls.trans ((calls_pre (t := 0) rfl (sides_spec' (op := 4) rfl hw hw2)).trans ((calls_clo rfl rfl (lenM hw2) (closure2 (place := w.nodes.length + 5))).trans (catM (r := [.ref 0, .ref 2, .app (w.nodes.length + 1) (w.nodes.length + 2), .ref 1, .app (w.nodes.length + 3) (w.nodes.length + 4), .lam (w.nodes.length + 5), .lam (w.nodes.length + 6), .lam (w.nodes.length + 7), .app (w.nodes.length + 8) (sideP 4 w.nodes.length), .app (w.nodes.length + 9) (sideQ 4 w.nodes.length)]))))
theorem calls5 {N n : Nat} {w : W} {l : Nd × V} {x y : V} (hw : 0 < w.nodes.length) (hw2 : w.nodes.length ≤ 1000) :
    callD Text N (n + 3) (Str.ofString "_law_calls") [.dat w.toD, .dat (.int 5), .dat (leafD l), .dat x.toD, .dat y.toD] none = some (W.toD (callsW w 5 l x y), none) :=
  cCalls.trans ((calls_pre (t := 1) rfl (sides_spec' (op := 5) rfl hw hw2)).trans ((calls_clo rfl rfl (lenM hw2) (closure2 (place := w.nodes.length + 5))).trans (catM (r := [.ref 0, .ref 2, .app (w.nodes.length + 1) (w.nodes.length + 2), .ref 1, .app (w.nodes.length + 3) (w.nodes.length + 4), .lam (w.nodes.length + 5), .lam (w.nodes.length + 6), .lam (w.nodes.length + 7), .app (w.nodes.length + 8) (sideP 5 w.nodes.length), .app (w.nodes.length + 9) (sideQ 5 w.nodes.length)]))))
theorem calls6 {N n : Nat} {w : W} {l : Nd × V} {x y : V} (hw : 0 < w.nodes.length) (hw2 : w.nodes.length ≤ 1000) (hc : ∀ p env, w.r.1 = some (.clo p env) → env.length = 4) :
    callD Text N (n + 3) (Str.ofString "_law_calls") [.dat w.toD, .dat (.int 6), .dat (leafD l), .dat x.toD, .dat y.toD] none = some (W.toD (callsW w 6 l x y), none) :=
  cCalls.trans ((calls_pre (t := 0) rfl (sides_spec' (op := 6) rfl hw hw2)).trans ((calls_part (e := 1) rfl rfl rfl rfl (sub1 hw) (lenL hw2) (partC2 (i := 1) (by decide) (fun p env e => by rw [hc p env e]; decide))).trans (catL (r := [.ref 1, .lam w.nodes.length, .lam (w.nodes.length + 1), .app (w.nodes.length - 1) (w.nodes.length + 2)]))))
theorem calls7 {N n : Nat} {w : W} {l : Nd × V} {x y : V} (hw : 0 < w.nodes.length) (hw2 : w.nodes.length ≤ 1000) (hc : ∀ p env, w.r.1 = some (.clo p env) → env.length = 4) :
    callD Text N (n + 3) (Str.ofString "_law_calls") [.dat w.toD, .dat (.int 7), .dat (leafD l), .dat x.toD, .dat y.toD] none = some (W.toD (callsW w 7 l x y), none) :=
  cCalls.trans ((calls_pre (t := 1) rfl (sides_spec' (op := 7) rfl hw hw2)).trans ((calls_part (e := 0) rfl rfl rfl rfl (sub1 hw) (lenL hw2) (partC2 (i := 0) (by decide) (fun p env e => by rw [hc p env e]; decide))).trans (catL (r := [.ref 0, .lam w.nodes.length, .lam (w.nodes.length + 1), .app (w.nodes.length - 1) (w.nodes.length + 2)]))))
theorem calls8 {N n : Nat} {w : W} {l : Nd × V} {x y : V} (hw : 0 < w.nodes.length) (hw2 : w.nodes.length ≤ 1000) :
    callD Text N (n + 3) (Str.ofString "_law_calls") [.dat w.toD, .dat (.int 8), .dat (leafD l), .dat x.toD, .dat y.toD] none = some (W.toD (callsW w 8 l x y), none) :=
  cCalls.trans ((calls_pre (t := 0) rfl (sides_spec' (op := 8) rfl hw hw2)).trans ((calls_if rfl rfl rfl rfl (lenM hw2) (if2 (t := (some (.bool 0), 1)) (e := (some (.bool 1), 1))) (if2 (t := (some x, 1)))).trans (catM (r := [.ref 1, .boo 0, .boo 1, .ite (sideP 8 w.nodes.length) (w.nodes.length + 2) (w.nodes.length + 3), .ite (w.nodes.length + 4) (w.nodes.length + 1) (sideQ 8 w.nodes.length)]))))
theorem calls9 {N n : Nat} {w : W} {l : Nd × V} {x y : V} (hw : 0 < w.nodes.length) (hw2 : w.nodes.length ≤ 1000) :
    callD Text N (n + 3) (Str.ofString "_law_calls") [.dat w.toD, .dat (.int 9), .dat (leafD l), .dat x.toD, .dat y.toD] none = some (W.toD (callsW w 9 l x y), none) :=
  cCalls.trans ((calls_pre (t := 1) rfl (sides_spec' (op := 9) rfl hw hw2)).trans ((calls_if rfl rfl rfl rfl (lenM hw2) (if2 (t := (some (.bool 0), 1)) (e := (some (.bool 1), 1))) (if2 (t := (some x, 1)))).trans (catM (r := [.ref 1, .boo 0, .boo 1, .ite (sideP 9 w.nodes.length) (w.nodes.length + 2) (w.nodes.length + 3), .ite (w.nodes.length + 4) (w.nodes.length + 1) (sideQ 9 w.nodes.length)]))))
theorem calls10 {N n : Nat} {w : W} {l : Nd × V} {x y : V} (hw : 0 < w.nodes.length) (hw2 : w.nodes.length ≤ 1000) :
    callD Text N (n + 3) (Str.ofString "_law_calls") [.dat w.toD, .dat (.int 10), .dat (leafD l), .dat x.toD, .dat y.toD] none = some (W.toD (callsW w 10 l x y), none) :=
  cCalls.trans ((calls_pre (t := 0) rfl (sides_spec' (op := 10) rfl hw hw2)).trans ((calls_bound (e := 0) (k := Str.ofString "add") rfl rfl rfl rfl rfl rfl (sub1 hw) (lenL hw2) (bound_spec (k := .add) (before := 1) (around := 2))).trans (catL (r := [.ref 0, .ref 1, .add w.nodes.length (w.nodes.length + 1), .bnd (w.nodes.length - 1) (w.nodes.length + 2)]))))
theorem calls11 {N n : Nat} {w : W} {l : Nd × V} {x y : V} (hw : 0 < w.nodes.length) (hw2 : w.nodes.length ≤ 1000) :
    callD Text N (n + 3) (Str.ofString "_law_calls") [.dat w.toD, .dat (.int 11), .dat (leafD l), .dat x.toD, .dat y.toD] none = some (W.toD (callsW w 11 l x y), none) :=
  cCalls.trans ((calls_pre (t := 1) rfl (sides_spec' (op := 11) rfl hw hw2)).trans ((calls_bound (e := 1) (k := Str.ofString "less") rfl rfl rfl rfl rfl rfl (sub1 hw) (lenL hw2) (bound_spec (k := .less) (before := 1) (around := 2))).trans (catL (r := [.ref 0, .ref 1, .less w.nodes.length (w.nodes.length + 1), .bnd (w.nodes.length - 1) (w.nodes.length + 2)]))))

theorem plain_spec {N n : Nat} {w : W} {l : Nd × V} {x y : V} (hw : 0 < w.nodes.length) (hw2 : w.nodes.length ≤ 1000) : ∀ (op : Nat), op < 12 →
    callD Text N (n + 3) (Str.ofString "_law_plain") [.dat w.toD, .dat (.int op), .dat (leafD l), .dat x.toD, .dat y.toD] none = some (W.toD (plainW w op l x y), none)
  | 0, _ => plain0 hw hw2
  | 1, _ => plain1 hw hw2
  | 2, _ => plain2 hw hw2
  | 3, _ => plain3 hw hw2
  | 4, _ => plain4 hw hw2
  | 5, _ => plain5 hw hw2
  | 6, _ => plain6 hw hw2
  | 7, _ => plain7 hw hw2
  | 8, _ => plain8 hw hw2
  | 9, _ => plain9 hw hw2
  | 10, _ => plain10 hw hw2
  | 11, _ => plain11 hw hw2
  | n + 12, h => by omega

theorem calls_spec {N n : Nat} {w : W} {l : Nd × V} {x y : V} (hw : 0 < w.nodes.length) (hw2 : w.nodes.length ≤ 1000) (hc : ∀ p env, w.r.1 = some (.clo p env) → env.length = 4) : ∀ (op : Nat), op < 12 →
    callD Text N (n + 3) (Str.ofString "_law_calls") [.dat w.toD, .dat (.int op), .dat (leafD l), .dat x.toD, .dat y.toD] none = some (W.toD (callsW w op l x y), none)
  | 0, _ => calls0 hw hw2
  | 1, _ => calls1 hw hw2
  | 2, _ => calls2 hw hw2
  | 3, _ => calls3 hw hw2
  | 4, _ => calls4 hw hw2
  | 5, _ => calls5 hw hw2
  | 6, _ => calls6 hw hw2 hc
  | 7, _ => calls7 hw hw2 hc
  | 8, _ => calls8 hw hw2
  | 9, _ => calls9 hw hw2
  | 10, _ => calls10 hw hw2
  | 11, _ => calls11 hw hw2
  | n + 12, h => by omega
end Zp
end

section
namespace Zp
open PySem

/-! Sizes: how long the nodes, how dear the runs, how deep the values. -/

structure Bnd (i : Nat) (w : W) : Prop where
  len : w.nodes.length ≤ 1 + 11 * i
  cost : w.r.2 ≤ 1 + 30 * i
  dep : ∀ v, w.r.1 = some v → v.toD.depth ≤ 1 + 2 * i

theorem dep_flat {v : V} (h : Flat v) : v.toD.depth ≤ 1 := by
  cases v with
  | int n => simp [V.toD, PyData.depth, PyData.depthAll]
  | bool n => simp [V.toD, PyData.depth, PyData.depthAll]
  | clo _ _ => exact h.elim
  | pair _ _ => exact h.elim
theorem dep_pair {a b : V} : (V.pair a b).toD.depth = 1 + max a.toD.depth b.toD.depth := by
  simp [V.toD, PyData.depth, PyData.depthAll]
  omega
theorem depAll_mem : ∀ {l : List V} {i : Nat} {v : V}, l[i]? = some v → v.toD.depth ≤ PyData.depthAll (V.toDs l)
  | [], _, _, h => by simp at h
  | u :: l, 0, v, h => by
    cases h
    simp only [V.toDs, PyData.depthAll]
    omega
  | u :: l, i + 1, v, h => by
    have := depAll_mem (l := l) (i := i) (v := v) (by simpa using h)
    simp only [V.toDs, PyData.depthAll]
    omega
theorem dep_clo {p : Nat} {env : List V} : (V.clo p env).toD.depth = 2 + PyData.depthAll (V.toDs env) := by
  simp [V.toD, PyData.depth, PyData.depthAll]
  omega

theorem sideA_cost {op : Nat} {w : W} {v : V} {i : Nat} (h : Bnd i w) : (sideA op w v).2 ≤ 1 + 30 * i := by
  have := h.cost
  unfold sideA; split <;> simp <;> omega
theorem sideB_cost {op : Nat} {w : W} {v : V} {i : Nat} (h : Bnd i w) : (sideB op w v).2 ≤ 1 + 30 * i := by
  have := h.cost
  unfold sideB; split <;> simp <;> omega
theorem side_sum {op : Nat} {w : W} {v : V} {i : Nat} (h : Bnd i w) : (sideA op w v).2 + (sideB op w v).2 ≤ 2 + 30 * i := by
  have := h.cost
  unfold sideA sideB; split <;> simp <;> omega
theorem sideA_dep {op : Nat} {w : W} {v u : V} {i : Nat} (h : Bnd i w) (hv : Flat v) (e : (sideA op w v).1 = some u) : u.toD.depth ≤ 1 + 2 * i := by
  unfold sideA at e
  split at e
  · cases e; have := dep_flat hv; omega
  · exact h.dep _ e
theorem sideB_dep {op : Nat} {w : W} {v u : V} {i : Nat} (h : Bnd i w) (hv : Flat v) (e : (sideB op w v).1 = some u) : u.toD.depth ≤ 1 + 2 * i := by
  unfold sideB at e
  split at e
  · exact h.dep _ e
  · cases e; have := dep_flat hv; omega

theorem both_cost {k : Bk} {a b : R} : (bothR k a b).2 ≤ a.2 + b.2 + 3 := by
  unfold bothR
  split
  · simp <;> omega
  · split
    · split <;> simp <;> omega
    · simp <;> omega
theorem both_dep {k : Bk} {a b : R} {d : Nat} (ha : ∀ v, a.1 = some v → v.toD.depth ≤ d) (hb : ∀ v, b.1 = some v → v.toD.depth ≤ d) : ∀ v, (bothR k a b).1 = some v → v.toD.depth ≤ d + 1 := by
  intro v hv
  unfold bothR at hv
  split at hv
  · cases hv
  · rename_i u hu
    split at hv
    · split at hv
      · cases hv
      · rename_i w hw
        have h1 := ha _ hu
        have h2 := hb _ hw
        dsimp only at hv
        unfold Bk.val at hv
        split at hv
        · cases hv; rw [dep_pair]; omega
        · cases hv; exact Nat.le_trans (dep_flat (v := .int _) trivial) (by omega)
        · cases hv; exact Nat.le_trans (dep_flat (v := .bool _) trivial) (by omega)
        · cases hv
    · cases hv
theorem if_cost {c t e : R} : (ifR c t e).2 ≤ c.2 + (t.2 + e.2) + 2 := by
  unfold ifR
  split
  · simp <;> omega
  · split <;> simp <;> omega
  · simp <;> omega
theorem partP_cost {snd : Bool} {r : R} : (partP snd r).2 ≤ r.2 + 2 := by
  obtain ⟨a, c⟩ := r
  cases a with
  | none => simp [partP]
  | some u => cases u <;> simp [partP]
theorem partC_cost {i : Nat} {r : R} : (partC i r).2 ≤ r.2 + 15 := by
  obtain ⟨a, c⟩ := r
  cases a with
  | none => simp [partC]
  | some u => cases u <;> simp [partC]
theorem if_dep {c t e : R} {d : Nat} (ht : ∀ v, t.1 = some v → v.toD.depth ≤ d) (he : ∀ v, e.1 = some v → v.toD.depth ≤ d) : ∀ v, (ifR c t e).1 = some v → v.toD.depth ≤ d := by
  intro v hv
  unfold ifR at hv
  split at hv
  · cases hv
  · split at hv
    · exact ht v hv
    · exact he v hv
  · cases hv
theorem bound_cost {k : Bk} {b a : Nat} {r : R} {y : V} (hba : b ≤ a) : (boundR k b a r y).2 ≤ r.2 + a + 5 := by
  unfold boundR
  split
  · simp <;> omega
  · rename_i v _
    have := both_cost (k := k) (a := (some v, 1)) (b := (some y, 1))
    simp only at this ⊢
    omega
theorem bound_dep {k : Bk} {b a : Nat} {r : R} {y : V} {d : Nat} (hd : 1 ≤ d) (hy : Flat y) (hr : ∀ v, r.1 = some v → v.toD.depth ≤ d) : ∀ v, (boundR k b a r y).1 = some v → v.toD.depth ≤ d + 1 := by
  intro v hv
  unfold boundR at hv
  split at hv
  · cases hv
  · rename_i u hu
    exact both_dep (a := (some u, 1)) (b := (some y, 1)) (d := d) (fun v e => by cases e; exact hr _ hu) (fun v e => by cases e; have := dep_flat hy; omega) v hv

theorem plain_bnd {i : Nat} {w : W} {l : Nd × V} {x y : V} {op : Nat} (h : Bnd i w) (hx : Flat x) (hy : Flat y) (hl : Flat l.2) : Bnd (i + 1) (plainW w op l x y) := by
  have hlen := h.len
  have hcost := h.cost
  unfold plainW
  dsimp only
  split
  · refine ⟨by simp; omega, ?_, fun v hv => ?_⟩
    · have h1 := both_cost (k := bkOf (op / 2)) (a := sideA op w l.2) (b := sideB op w l.2)
      have h2 := side_sum (op := op) (v := l.2) h
      dsimp only; omega
    · have := both_dep (d := 1 + 2 * i) (fun u e => sideA_dep h hl e) (fun u e => sideB_dep h hl e) v hv
      omega
  · split
    · refine ⟨by simp; omega, ?_, fun v hv => ?_⟩
      · have := partP_cost (snd := op == 7) (r := w.r)
        dsimp only; omega
      · dsimp only at hv
        unfold partP at hv
        split at hv
        · cases hv
        · rename_i a b e
          have := h.dep _ e
          rw [dep_pair] at this
          cases hv
          split <;> omega
        · cases hv
    · split
      · refine ⟨by simp; omega, ?_, fun v hv => ?_⟩
        · have h1 := if_cost (c := sideA op w l.2) (t := sideB op w l.2) (e := (some x, 1))
          have h2 := side_sum (op := op) (v := l.2) h
          dsimp only at h1 ⊢; omega
        · have := if_dep (d := 1 + 2 * i) (fun u e => sideB_dep h hl e) (fun u e => by cases e; have := dep_flat hx; omega) v hv
          omega
      · refine ⟨by simp; omega, ?_, fun v hv => ?_⟩
        · have h1 := bound_cost (k := bkOf (op - 10)) (b := 3) (a := 4) (r := w.r) (y := y) (by decide)
          dsimp only; omega
        · have := bound_dep (d := 1 + 2 * i) (by omega) hy h.dep v hv
          omega

theorem calls_bnd {i : Nat} {w : W} {l : Nd × V} {x y : V} {op : Nat} (h : Bnd i w) (hx : Flat x) (hy : Flat y) (hl : Flat l.2) : Bnd (i + 1) (callsW w op l x y) := by
  have hlen := h.len
  have hcost := h.cost
  unfold callsW
  dsimp only
  split
  · refine ⟨by simp; omega, ?_, fun v hv => ?_⟩
    · have h1 := both_cost (k := bkOf (op / 2)) (a := sideA op w l.2) (b := sideB op w l.2)
      have h2 := side_sum (op := op) (v := l.2) h
      dsimp only; omega
    · have := both_dep (d := 1 + 2 * i) (fun u e => sideA_dep h hl e) (fun u e => sideB_dep h hl e) v hv
      omega
  · split
    · refine ⟨by simp; omega, ?_, fun v hv => ?_⟩
      · have h2 := side_sum (op := op) (v := l.2) h
        dsimp only
        unfold closR
        split
        · simp <;> omega
        · split <;> simp <;> omega
      · dsimp only at hv
        unfold closR at hv
        split at hv
        · cases hv
        · rename_i u hu
          split at hv
          · cases hv
          · rename_i z hz
            cases hv
            have h1 := sideA_dep h hl hu
            have h2 := sideB_dep h hl hz
            have h3 := dep_flat hx
            have h4 := dep_flat hy
            rw [dep_clo]
            simp only [V.toDs, PyData.depthAll]
            omega
    · split
      · refine ⟨by simp; omega, ?_, fun v hv => ?_⟩
        · have := partC_cost (i := 7 - op) (r := w.r)
          dsimp only; omega
        · dsimp only at hv
          unfold partC at hv
          split at hv
          · cases hv
          · rename_i p env e
            have := h.dep _ e
            rw [dep_clo] at this
            have h2 := depAll_mem hv
            omega
          · cases hv
      · split
        · refine ⟨by simp; omega, ?_, fun v hv => ?_⟩
          · have h1 := if_cost (c := ifR (sideA op w l.2) (some (.bool 0), 1) (some (.bool 1), 1)) (t := (some x, 1)) (e := sideB op w l.2)
            have h3 := if_cost (c := sideA op w l.2) (t := (some (.bool 0), 1)) (e := (some (.bool 1), 1))
            have h2 := side_sum (op := op) (v := l.2) h
            dsimp only at h1 h3 ⊢; omega
          · have := if_dep (d := 1 + 2 * i) (fun u e => by cases e; have := dep_flat hx; omega) (fun u e => sideB_dep h hl e) v hv
            omega
        · refine ⟨by simp; omega, ?_, fun v hv => ?_⟩
          · have h1 := bound_cost (k := bkOf (op - 10)) (b := 1) (a := 2) (r := w.r) (y := y) (by decide)
            dsimp only; omega
          · have := bound_dep (d := 1 + 2 * i) (by omega) hy h.dep v hv
            omega
end Zp
end

section
namespace Zp
open PySem

theorem fmod_cast (a : Int) {b : Nat} (hb : 0 < b) : a.fmod (b : Int) = ((a.fmod (b : Int)).toNat : Int) ∧ (a.fmod (b : Int)).toNat < b := by
  have h1 := Int.fmod_nonneg_of_pos a (b := (b : Int)) (by omega)
  have h2 := Int.fmod_lt_of_pos a (b := (b : Int)) (by omega)
  omega

noncomputable def cellD (c : Int × Int × Int) : PyData := .tuple [.int c.1, .int c.2.1, .int c.2.2]
noncomputable def cellOp (c : Int × Int × Int) : Nat := (c.1.fmod 12).toNat
noncomputable def cellLeaf (x y : V) (c : Int × Int × Int) : Nd × V := leafOf (c.2.1.fmod 4).toNat c.2.2 y x
noncomputable def stepOne (x y : V) (w : W) (c : Int × Int × Int) : W := plainW w (cellOp c) (cellLeaf x y c) x y
noncomputable def stepTwo (x y : V) (w : W) (c : Int × Int × Int) : W := callsW w (cellOp c) (cellLeaf x y c) x y

structure LawLoc (sc : List Int) (x y : V) (nr : Nd) (one two : W) (ρ : Loc) : Prop where
  script : ρ (Str.ofString "script") = some (.dat (.list (sc.map PyData.int)))
  xl : ρ (Str.ofString "x") = some (.dat x.toD)
  yl : ρ (Str.ofString "y") = some (.dat y.toD)
  near : ρ (Str.ofString "near") = some (.dat (leafD (nr, y)))
  one : ρ (Str.ofString "one") = some (.dat one.toD)
  two : ρ (Str.ofString "two") = some (.dat two.toD)
  int : ρ (Str.ofString "int") = none

noncomputable def lf : { x : (List Expr × Nat × Pos) × Expr × List Stmt × Pos × List Stmt // bLaw.1.drop 8 = .For (.Tuple x.1.1 x.1.2.1 x.1.2.2) x.2.1 x.2.2.1 [] x.2.2.2.1 :: x.2.2.2.2 } := ⟨((_, _, _), _, _, _, _), rfl⟩

noncomputable abbrev lawCx (N : Nat) : Cx := ⟨fLaw.1.sc, callD Text N 3, N⟩

theorem clo_four {P : List Nd} {x y : V} {o r : Option V} (h : RelR P x y o r) : ∀ p env, r = some (.clo p env) → env.length = 4 := by
  intro p env e
  cases h with
  | none => cases e
  | some h =>
    cases h with
    | int n => cases e
    | bool n => cases e
    | pair m _ _ _ _ _ _ _ => cases e; rfl

/-! Rules that put a step together from its parts. -/
section
variable {cx : Cx} {ρ ρ' : Loc} {σ σ₁ σ₂ σ₃ : St}
theorem setL_same {x : Str} {d : D} (h : ρ x = some d) : setL ρ x d = ρ := by
  funext y
  unfold setL
  by_cases e : y = x
  · rw [if_pos e, e, h]
  · rw [if_neg e]
theorem eCall {f : Str} {p q : Pos} {a : Expr} {as : List Expr} {ds : List D} {d : PyData} (ha : evEs cx ρ (a :: as) σ = some (ds, σ₁)) (hg : cx.isGlob f = true) (h1 : decide (f = Str.ofString "len") = false) (h2 : decide (f = Str.ofString "type") = false) (hc : cx.call f ds σ₁ = some (d, σ₂)) :
    evE cx ρ (.Call (.Name f p) (a :: as) [] q) σ = some (.dat d, σ₂) := by
  rw [qCall, ha]
  dsimp only [Cx.callAny]
  rw [hg, h1, h2, hc]
theorem eLen {p q : Pos} {a : Expr} {xs : List PyData} {k : Int} (ha : evE cx ρ a σ = some (.dat (.list xs), σ₁)) (hg : cx.isGlob (Str.ofString "len") = true) (hl : xs.length ≤ 4096) (hk : (xs.length : Int) = k) :
    evE cx ρ (.Call (.Name (Str.ofString "len") p) [a] [] q) σ = some (.dat (.int k), σ₁) := by
  rw [qCall, qEs1, ha, ← hk]
  dsimp only [qEs0, Cx.callAny]
  rw [hg, decide_eq_true rfl, qLenL hl]
theorem eAdd {l r : Expr} {p : Pos} {xs ys : List PyData} (hl : evE cx ρ l σ = some (.dat (.list xs), σ₁)) (hr : evE cx ρ r σ₁ = some (.dat (.list ys), σ₂)) (h : xs.length + ys.length ≤ 4096) : evE cx ρ (.BinOp l .Add r p) σ = some (.dat (.list (xs ++ ys)), σ₂) := by
  rw [qBin, hl]
  dsimp only
  rw [hr]
  dsimp only
  rw [qAddL h]
theorem eCut {v : Expr} {p q : Pos} {xs : List PyData} (hv : evE cx ρ v σ = some (.dat (.list xs), σ₁)) (h : xs.length ≤ 4096) : evE cx ρ (.Subscript v (.Slice none none none p) q) σ = some (.dat (.list xs), σ₁) := by
  rw [qSub, hv]
  dsimp only [qSl0]
  rw [qCut0 h]
theorem eInt {p : Pos} (h : ρ (Str.ofString "int") = none) (hi : cx.isInt (Str.ofString "int") = true) : evE cx ρ (.Name (Str.ofString "int") p) σ = some (.ty "int", σ) := by
  rw [qName, h, hi]
theorem asgE {x : Str} {xp p : Pos} {e : Expr} {d : D} (h : evE cx ρ e σ = some (d, σ₁)) (hx : cx.isLocal x = true) (hn : frNil x e = false) : exS cx (.Assign [.Name x xp] e p) ρ σ = some (.next, setL ρ x d, σ₁) := by
  rw [qAsg, hx, hn, h]
theorem ifF {t : Expr} {b : List Stmt} {p : Pos} (h : evT cx ρ t σ = some (false, σ₁)) : exS cx (.If t b [] p) ρ σ = some (.next, ρ, σ₁) := by
  rw [qIf, h]; rfl
theorem ifT {t : Expr} {b o : List Stmt} {p : Pos} {r : Res} (h : evT cx ρ t σ = some (true, σ₁)) (hb : exSs cx b ρ σ₁ = r) : exS cx (.If t b o p) ρ σ = r := by
  rw [qIf, h]; exact hb
theorem tCmp {l r : Expr} {op : CmpOp} {p : Pos} {a b : D} {c : Bool} (hl : evE cx ρ l σ = some (a, σ₁)) (hr : evE cx ρ r σ₁ = some (b, σ₂)) (h : cmpD σ₂ op a b = some c) : evT cx ρ (.Compare l [op] [r] p) σ = some (c, σ₂) := by
  rw [qCmp, hl]
  dsimp only
  rw [hr]
  dsimp only
  rw [h]
theorem tOr2 {x y : Expr} {p : Pos} (h1 : evT cx ρ x σ = some (false, σ₁)) (h2 : evT cx ρ y σ₁ = some (false, σ₂)) : evT cx ρ (.BoolOp .Or [x, y] p) σ = some (false, σ₂) := by
  rw [qBoolOp, qOr1, h1]
  dsimp only
  rw [qOr1, h2]; rfl
theorem tAnd2 {x y : Expr} {p : Pos} (h1 : evT cx ρ x σ = some (true, σ₁)) (h2 : evT cx ρ y σ₁ = some (true, σ₂)) : evT cx ρ (.BoolOp .And [x, y] p) σ = some (true, σ₂) := by
  rw [qBoolOp, qAnd1, h1]
  dsimp only
  rw [qAnd1, h2]; rfl
theorem tNot {x : Expr} {p : Pos} {c : Bool} (h : evT cx ρ x σ = some (c, σ₁)) : evT cx ρ (.UnaryOp .Not x p) σ = some (!c, σ₁) := by
  rw [qNot, h]
theorem seqR {s : Stmt} {r : List Stmt} {d : PyData} (h : exS cx s ρ σ = some (.ret d, ρ', σ₁)) : exSs cx (s :: r) ρ σ = some (.ret d, ρ', σ₁) := by
  rw [qSs1, h]
end

noncomputable def rTurn (ρ : Loc) (x y one two : PyData) (op k num : Int) : Loc :=
  setL (setL (setL (setL (setL (setL (setL ρ (Str.ofString "x") (.dat x)) (Str.ofString "y") (.dat y)) (Str.ofString "one") (.dat one)) (Str.ofString "two") (.dat two)) (Str.ofString "op") (.dat (.int op))) (Str.ofString "k") (.dat (.int k))) (Str.ofString "num") (.dat (.int num))
theorem law_turnA {call : Str → List D → St → Option (PyData × St)} {N : Nat} {ρ : Loc} {x y one two one' two' l : PyData} {op k num : Int}
    (c1 : call (Str.ofString "_law_leaf") [.dat (.int (k.fmod 4)), .dat (.int num), .dat y, .dat x] none = some (l, none))
    (c2 : call (Str.ofString "_law_plain") [.dat one, .dat (.int (op.fmod 12)), .dat l, .dat x, .dat y] none = some (one', none))
    (c3 : call (Str.ofString "_law_calls") [.dat two, .dat (.int (op.fmod 12)), .dat l, .dat x, .dat y] none = some (two', none)) :
    exSs ⟨fLaw.1.sc, call, N⟩ lf.1.2.2.1 (rTurn ρ x y one two op k num) none = some (.next, setL (setL (setL (rTurn ρ x y one two op k num) (Str.ofString "leaf") (.dat l)) (Str.ofString "one") (.dat one')) (Str.ofString "two") (.dat two'), none) :=
  (seqN (asgE (eCall (ds := [.dat (.int (k.fmod 4)), .dat (.int num), .dat y, .dat x]) rfl rfl rfl rfl c1) rfl rfl)).trans
  ((seqN (asgE (eCall (ds := [.dat one, .dat (.int (op.fmod 12)), .dat l, .dat x, .dat y]) rfl rfl rfl rfl c2) rfl rfl)).trans
  ((seqN (asgE (eCall (ds := [.dat two, .dat (.int (op.fmod 12)), .dat l, .dat x, .dat y]) rfl rfl rfl rfl c3) rfl rfl)).trans rfl))

theorem law_turn {N : Nat} {sc : List Int} {x y : V} {nr : Nd} {one two : W} {ρ : Loc} {c : Int × Int × Int} {i : Nat} (L : LawLoc sc x y nr one two ρ) (hT : Two x y one two) (b1 : Bnd i one) (b2 : Bnd i two) (hi : i ≤ 4) :
    ∃ ρ₁ ρ', bindTup (lawCx N) lf.1.1.1 [.int c.1, .int c.2.1, .int c.2.2] ρ = some ρ₁ ∧ exSs (lawCx N) lf.1.2.2.1 ρ₁ none = some (.next, ρ', none) ∧ LawLoc sc x y nr (stepOne x y one c) (stepTwo x y two c) ρ' := by
  obtain ⟨op, k, num⟩ := c
  have n1 := b1.len
  have n2 := b2.len
  have ho := fmod_cast op (b := 12) (by decide)
  have hk := fmod_cast k (b := 4) (by decide)
  have hleaf := leaf_spec (N := N) (n := 2) (k := (k.fmod 4).toNat) (num := num) (near := y) (far := x) hk.2
  have hone := plain_spec (N := N) (n := 0) (w := one) (l := leafOf (k.fmod 4).toNat num y x) (x := x) (y := y) hT.ok1.pos (by omega) (op.fmod 12).toNat ho.2
  have htwo := calls_spec (N := N) (n := 0) (w := two) (l := leafOf (k.fmod 4).toNat num y x) (x := x) (y := y) hT.ok2.pos (by omega) (clo_four hT.rel) (op.fmod 12).toNat ho.2
  have ho1 : op.fmod 12 = ((op.fmod 12).toNat : Int) := ho.1
  have hk1 : k.fmod 4 = ((k.fmod 4).toNat : Int) := hk.1
  rw [← ho1] at hone htwo
  rw [← hk1] at hleaf
  obtain ⟨ρb, hρ⟩ : ∃ ρb, ρ = setL (setL (setL (setL ρb (Str.ofString "x") (.dat x.toD)) (Str.ofString "y") (.dat y.toD)) (Str.ofString "one") (.dat one.toD)) (Str.ofString "two") (.dat two.toD) :=
    ⟨ρ, by rw [setL_same L.xl, setL_same L.yl, setL_same L.one, setL_same L.two]⟩
  subst hρ
  exact ⟨rTurn ρb x.toD y.toD one.toD two.toD op k num, _, rfl, law_turnA hleaf hone htwo, ⟨L.script, rfl, rfl, L.near, rfl, rfl, L.int⟩⟩

theorem forD_cons {bind : List PyData → Loc → Option Loc} {body : Loc → St → Res} {ds : List PyData} {r : List PyData} {ρ ρ₁ ρ' : Loc} {σ σ' : St} (h1 : bind ds ρ = some ρ₁) (h2 : body ρ₁ σ = some (.next, ρ', σ')) :
    forD bind body (.tuple ds :: r) ρ σ = forD bind body r ρ' σ' := by
  rw [forD, h1, Option.bind_some, h2]
  rfl

theorem law_loop {N : Nat} {sc : List Int} {x y : V} {nr : Nd} (hx : Flat x) (hy : Flat y) : ∀ (cs : List (Int × Int × Int)) {one two : W} {ρ : Loc} {i : Nat}, LawLoc sc x y nr one two ρ → Two x y one two → Bnd i one → Bnd i two → i + cs.length ≤ 4 →
    ∃ ρ' one' two', forD (bindTup (lawCx N) lf.1.1.1) (exSs (lawCx N) lf.1.2.2.1) (cs.map cellD) ρ none = some (.next, ρ', none) ∧ LawLoc sc x y nr one' two' ρ' ∧ Two x y one' two' ∧ Bnd 4 one' ∧ Bnd 4 two'
  | [], one, two, ρ, i, L, hT, b1, b2, hi => by
    refine ⟨ρ, one, two, rfl, L, hT, ⟨?_, ?_, fun v hv => ?_⟩, ⟨?_, ?_, fun v hv => ?_⟩⟩
    · have := b1.len; simp at hi; omega
    · have := b1.cost; simp at hi; omega
    · have := b1.dep v hv; simp at hi; omega
    · have := b2.len; simp at hi; omega
    · have := b2.cost; simp at hi; omega
    · have := b2.dep v hv; simp at hi; omega
  | c :: cs, one, two, ρ, i, L, hT, b1, b2, hi => by
    rw [List.length_cons] at hi
    obtain ⟨ρ₁, ρ', e1, e2, L'⟩ := law_turn (N := N) (c := c) L hT b1 b2 (by omega)
    have hl := leaf_flat (k := (c.2.1.fmod 4).toNat) (n := c.2.2) hx hy
    have T' : Two x y (stepOne x y one c) (stepTwo x y two c) := hT.step hx hy _ _ _ (fmod_cast c.1 (b := 12) (by decide)).2
    have B1 : Bnd (i + 1) (stepOne x y one c) := plain_bnd b1 hx hy hl
    have B2 : Bnd (i + 1) (stepTwo x y two c) := calls_bnd b2 hx hy hl
    obtain ⟨ρ'', one', two', e3, r⟩ := law_loop hx hy cs L' T' B1 B2 (by omega)
    refine ⟨ρ'', one', two', ?_, r⟩
    rw [List.map_cons]
    show forD _ _ (.tuple [.int c.1, .int c.2.1, .int c.2.2] :: cs.map cellD) ρ none = _
    rw [forD_cons e1 e2]
    exact e3
end Zp
end

section
namespace Zp
open PySem

noncomputable abbrev ρ0 (sc : List Int) : Loc := setL (fun _ => none) (Str.ofString "script") (.dat (.list (sc.map PyData.int)))

theorem eCut1 {cx : Cx} {ρ : Loc} {σ σ₁ σ₂ : St} {v u : Expr} {p q : Pos} {xs : List PyData} {k : Int} (hv : evE cx ρ v σ = some (.dat (.list xs), σ₁)) (hu : evE cx ρ u σ₁ = some (.dat (.int k), σ₂)) (h : xs.length ≤ 4096) (h0 : 0 ≤ k) : evE cx ρ (.Subscript v (.Slice none (some u) none p) q) σ = some (.dat (.list (xs.take k.toNat)), σ₂) := by
  rw [qSub, hv]
  dsimp only
  rw [qSl1, hu]
  dsimp only [qSlI]
  rw [qCut1 h h0]
theorem seqFor {cx : Cx} {ρ ρ' : Loc} {σ σ₁ σ₂ : St} {ts : List Expr} {k : Nat} {xp p : Pos} {it : Expr} {b r : List Stmt} {ds : List PyData} (h : evE cx ρ it σ = some (.dat (.list ds), σ₁)) (hf : forD (bindTup cx ts) (exSs cx b) ds ρ σ₁ = some (.next, ρ', σ₂)) :
    exSs cx (.For (.Tuple ts k xp) it b [] p :: r) ρ σ = exSs cx r ρ' σ₂ := by
  refine seqN ?_
  rw [qFor, h]
  exact hf

theorem law_short {N : Nat} {sc : List Int} (h : sc.length < 19) : exSs (lawCx N) bLaw.1 (ρ0 sc) none = some (.ret (.bool true), ρ0 sc, none) := by
  have h1 : (sc.map PyData.int).length ≤ 4096 := by rw [List.length_map]; omega
  have h2 : (((sc.map PyData.int).length : Nat) : Int) < 19 := by rw [List.length_map]; omega
  exact seqR (ifT (tCmp (eLen (xs := sc.map PyData.int) rfl rfl h1 rfl) rfl (congrArg some (decide_eq_true h2))) rfl)

theorem leafD_eq (l : Nd × V) : leafD l = .tuple [l.1.toD, .tuple [l.2.toD, .int 1]] := rfl

noncomputable def rA (ρ : Loc) (x nr y f1 f2 cells : PyData) : Loc :=
  setL (setL (setL (setL (setL (setL (setL ρ (Str.ofString "x") (.dat x)) (Str.ofString "near") (.dat (.tuple [nr, .tuple [y, .int 1]]))) (Str.ofString "y") (.dat y)) (Str.ofString "first") (.dat (.tuple [f1, f2]))) (Str.ofString "one") (.dat (.tuple [.list [f1], f2]))) (Str.ofString "two") (.dat (.tuple [.list [f1], f2]))) (Str.ofString "cells") (.dat cells)

theorem law_A {call : Str → List D → St → Option (PyData × St)} {N : Nat} {s0 s1 s2 s3 s4 s5 s6 s7 s8 s9 s10 s11 s12 s13 s14 s15 s16 s17 s18 : Int} {rest : List Int} (hl : rest.length ≤ 60) {nr y f1 f2 : PyData}
    (c1 : call (Str.ofString "_law_leaf") [.dat (.int (s1.fmod 3)), .dat (.int s2), .dat (.tuple [.str (Str.ofString "int"), .int s0]), .dat (.tuple [.str (Str.ofString "int"), .int s0])] none = some (.tuple [nr, .tuple [y, .int 1]], none))
    (c2 : call (Str.ofString "_law_leaf") [.dat (.int (s4.fmod 4)), .dat (.int s5), .dat y, .dat (.tuple [.str (Str.ofString "int"), .int s0])] none = some (.tuple [f1, f2], none)) :
    exSs ⟨fLaw.1.sc, call, N⟩ bLaw.1 (ρ0 (s0 :: s1 :: s2 :: s3 :: s4 :: s5 :: s6 :: s7 :: s8 :: s9 :: s10 :: s11 :: s12 :: s13 :: s14 :: s15 :: s16 :: s17 :: s18 :: rest)) none = exSs ⟨fLaw.1.sc, call, N⟩ (bLaw.1.drop 8) (rA (ρ0 (s0 :: s1 :: s2 :: s3 :: s4 :: s5 :: s6 :: s7 :: s8 :: s9 :: s10 :: s11 :: s12 :: s13 :: s14 :: s15 :: s16 :: s17 :: s18 :: rest)) (.tuple [.str (Str.ofString "int"), .int s0]) nr y f1 f2 (.list ([(s6, s7, s8), (s9, s10, s11), (s12, s13, s14), (s15, s16, s17)].map cellD))) none := by
  have h1 : ((s0 :: s1 :: s2 :: s3 :: s4 :: s5 :: s6 :: s7 :: s8 :: s9 :: s10 :: s11 :: s12 :: s13 :: s14 :: s15 :: s16 :: s17 :: s18 :: rest).map PyData.int).length ≤ 4096 := by
    simp only [List.length_map, List.length_cons]; omega
  have h2 : ¬ (((s0 :: s1 :: s2 :: s3 :: s4 :: s5 :: s6 :: s7 :: s8 :: s9 :: s10 :: s11 :: s12 :: s13 :: s14 :: s15 :: s16 :: s17 :: s18 :: rest).map PyData.int).length : Int) < 19 := by
    simp only [List.length_map, List.length_cons]; omega
  have h3 : cmpD none .Lt (.dat (.int ((s0 :: s1 :: s2 :: s3 :: s4 :: s5 :: s6 :: s7 :: s8 :: s9 :: s10 :: s11 :: s12 :: s13 :: s14 :: s15 :: s16 :: s17 :: s18 :: rest).map PyData.int).length)) (.dat (.int 19)) = some false := congrArg some (decide_eq_false h2)
  exact (seqN (ifF (tCmp (eLen (xs := (s0 :: s1 :: s2 :: s3 :: s4 :: s5 :: s6 :: s7 :: s8 :: s9 :: s10 :: s11 :: s12 :: s13 :: s14 :: s15 :: s16 :: s17 :: s18 :: rest).map PyData.int) rfl rfl h1 rfl) rfl h3))).trans
    ((seqN (asgE (d := .dat (.tuple [.str (Str.ofString "int"), .int s0])) rfl rfl rfl)).trans
    ((seqN (asgE (eCall (ds := [.dat (.int (s1.fmod 3)), .dat (.int s2), .dat (.tuple [.str (Str.ofString "int"), .int s0]), .dat (.tuple [.str (Str.ofString "int"), .int s0])]) rfl rfl rfl rfl c1) rfl rfl)).trans
    ((seqN (asgE (d := .dat y) rfl rfl rfl)).trans
    ((seqN (asgE (eCall (ds := [.dat (.int (s4.fmod 4)), .dat (.int s5), .dat y, .dat (.tuple [.str (Str.ofString "int"), .int s0])]) rfl rfl rfl rfl c2) rfl rfl)).trans
    ((seqN (asgE (d := .dat (.tuple [.list [f1], f2])) rfl rfl rfl)).trans
    ((seqN (asgE (d := .dat (.tuple [.list [f1], f2])) rfl rfl rfl)).trans
    (seqN (asgE (d := .dat (.list ([(s6, s7, s8), (s9, s10, s11), (s12, s13, s14), (s15, s16, s17)].map cellD))) rfl rfl rfl))))))))

/-- the names from the loop on -/
noncomputable def rL (ρ : Loc) (S L1 L2 : List PyData) (near r1 r2 : PyData) : Loc :=
  setL (setL (setL (setL ρ (Str.ofString "script") (.dat (.list S))) (Str.ofString "near") (.dat near)) (Str.ofString "one") (.dat (.tuple [.list L1, r1]))) (Str.ofString "two") (.dat (.tuple [.list L2, r2]))
noncomputable def rB (ρ : Loc) (n m : Int) (bound : PyData) (P C : List PyData) (more : Int) : Loc :=
  setL (setL (setL (setL (setL (setL (setL (setL ρ (Str.ofString "n") (.dat (.int n))) (Str.ofString "m") (.dat (.int m))) (Str.ofString "bound") (.dat bound)) (Str.ofString "plain") (.dat (.list P))) (Str.ofString "calls") (.dat (.list C))) (Str.ofString "kept_plain") (.dat (.list P))) (Str.ofString "kept_calls") (.dat (.list C))) (Str.ofString "more") (.dat (.int more))
noncomputable def endP (nr : PyData) (n s0 : Int) : List PyData := [nr, .tuple [.str (Str.ofString "lam"), .int (n - 1), .int 0, .int 0], .tuple [.str (Str.ofString "app"), .int (n + 1), .int n, .int 0], .tuple [.str (Str.ofString "num"), .int s0, .int 0, .int 0], .tuple [.str (Str.ofString "let"), .int (n + 3), .int (n + 2), .int 0]]
noncomputable def endC (nr : PyData) (m s0 : Int) : List PyData := [nr, .tuple [.str (Str.ofString "let"), .int m, .int (m - 1), .int 0], .tuple [.str (Str.ofString "lam"), .int (m + 1), .int 0, .int 0], .tuple [.str (Str.ofString "num"), .int s0, .int 0, .int 0], .tuple [.str (Str.ofString "app"), .int (m + 2), .int (m + 3), .int 0]]

theorem law_B {call : Str → List D → St → Option (PyData × St)} {N : Nat} {s0 s1 s2 s3 s4 s5 s6 s7 s8 s9 s10 s11 s12 s13 s14 s15 s16 s17 s18 : Int} {rest : List Int} {ρ : Loc} {L1 L2 : List PyData} {nr nv r1 r2 : PyData} (h1 : L1.length ≤ 4000) (h2 : L2.length ≤ 4000) :
    exSs ⟨fLaw.1.sc, call, N⟩ (bLaw.1.drop 9) (rL ρ ((s0 :: s1 :: s2 :: s3 :: s4 :: s5 :: s6 :: s7 :: s8 :: s9 :: s10 :: s11 :: s12 :: s13 :: s14 :: s15 :: s16 :: s17 :: s18 :: rest).map PyData.int) L1 L2 (.tuple [nr, nv]) r1 r2) none =
    exSs ⟨fLaw.1.sc, call, N⟩ (bLaw.1.drop 17) (rB (rL ρ ((s0 :: s1 :: s2 :: s3 :: s4 :: s5 :: s6 :: s7 :: s8 :: s9 :: s10 :: s11 :: s12 :: s13 :: s14 :: s15 :: s16 :: s17 :: s18 :: rest).map PyData.int) L1 L2 (.tuple [nr, nv]) r1 r2) L1.length L2.length (.tuple [.str (Str.ofString "num"), .int s0, .int 0, .int 0]) (L1 ++ endP nr L1.length s0) (L2 ++ endC nr L2.length s0) (s18.fmod 3)) none := by
  have g1 : L1.length + (endP nr L1.length s0).length ≤ 4096 := Nat.le_trans (Nat.add_le_add_right h1 5) (by decide)
  have g2 : L2.length + (endC nr L2.length s0).length ≤ 4096 := Nat.le_trans (Nat.add_le_add_right h2 5) (by decide)
  have k1 : (L1 ++ endP nr L1.length s0).length ≤ 4096 := by rw [List.length_append]; exact g1
  have k2 : (L2 ++ endC nr L2.length s0).length ≤ 4096 := by rw [List.length_append]; exact g2
  exact (seqN (asgE (eLen (xs := L1) rfl rfl (Nat.le_trans h1 (by decide)) rfl) rfl rfl)).trans
    ((seqN (asgE (eLen (xs := L2) rfl rfl (Nat.le_trans h2 (by decide)) rfl) rfl rfl)).trans
    ((seqN (asgE (d := .dat (.tuple [.str (Str.ofString "num"), .int s0, .int 0, .int 0])) rfl rfl rfl)).trans
    ((seqN (asgE (eAdd (xs := L1) (ys := endP nr L1.length s0) rfl rfl g1) rfl rfl)).trans
    ((seqN (asgE (eAdd (xs := L2) (ys := endC nr L2.length s0) rfl rfl g2) rfl rfl)).trans
    ((seqN (asgE (eCut (xs := L1 ++ endP nr L1.length s0) rfl k1) rfl rfl)).trans
    ((seqN (asgE (eCut (xs := L2 ++ endC nr L2.length s0) rfl k2) rfl rfl)).trans
    (seqN (asgE (d := .dat (.int (s18.fmod 3))) rfl rfl rfl))))))))

theorem nd_dep (nd : Nd) : nd.toD.depth = 1 ∧ nd.toD.canLay0 = true := by
  cases nd <;> simp [Nd.toD, ndD, PyData.depth, PyData.depthAll, PyData.canLay0, PyData.canLayAll0, strOk_all]
theorem nds_shaped (P : List Nd) : SeqAt.shaped (.list (P.map Nd.toD)) = true := by
  have h1 : ∀ P : List Nd, PyData.canLayAll0 (P.map Nd.toD) = true ∧ PyData.depthAll (P.map Nd.toD) ≤ 1 := by
    intro P
    induction P with
    | nil => simp [PyData.canLayAll0, PyData.depthAll]
    | cons nd r ih =>
      have := nd_dep nd
      simp only [List.map_cons, PyData.canLayAll0, PyData.depthAll, this.1, this.2, ih.1, Bool.and_self, true_and]
      have := ih.2
      omega
  have := h1 P
  have h2 := this.2
  unfold SeqAt.shaped
  exact Bool.and_eq_true_iff.mpr ⟨by simpa [PyData.canLay0] using this.1, decide_eq_true (by simp only [PyData.depth]; omega)⟩
theorem out_shaped {o : Out} (h : ∀ v, o = .done v → v.toD.depth ≤ 9) : SeqAt.shaped (outD o) = true := by
  unfold SeqAt.shaped
  cases o with
  | fuel => simp [outD, PyData.canLay0, PyData.canLayAll0, PyData.depth, PyData.depthAll, strOk_all]
  | stuck => simp [outD, PyData.canLay0, PyData.canLayAll0, PyData.depth, PyData.depthAll, strOk_all]
  | done v =>
    have := h v rfl
    simp [outD, PyData.canLay0, PyData.canLayAll0, PyData.depth, PyData.depthAll, strOk_all, V.canLay v]
    omega
theorem eqv_self {d : PyData} (h : SeqAt.shaped d = true) : PyData.eqv d d = true := SeqAt.eqv_refl d (SeqAt.canLay_of_shaped h)

end Zp
end

section
namespace Zp
open PySem

theorem end3 {N : Nat} {r : R} : callD Text N 3 (Str.ofString "_law_end") [.dat (R.toD r)] none = some (outD (outOf r.1), none) := end_spec (n := 2)

noncomputable def s21 : { s : Stmt // bLaw.1.drop 21 = s :: bLaw.1.drop 22 } := ⟨_, rfl⟩
noncomputable def rC (ρ : Loc) (E1 E2 : PyData) : Loc := setL (setL ρ (Str.ofString "end_one") (.dat E1)) (Str.ofString "end_two") (.dat E2)
noncomputable def rM (ρ : Loc) (S L1 L2 : List PyData) (near v1 v2 bound : PyData) (c1 c2 n m : Int) (P C : List PyData) (more : Int) : Loc :=
  rB (rL ρ S L1 L2 near (.tuple [v1, .int c1]) (.tuple [v2, .int c2])) n m bound P C more
noncomputable def fuelD : PyData := .tuple [.str (Str.ofString "fuel"), .none]
theorem ne_self {l : List PyData} (h : SeqAt.shaped (.tuple l) = true) : cmpD none .NotEq (.dat (.tuple l)) (.dat (.tuple l)) = some false := qNeT h h (eqv_self h)
theorem ne_selfL {l : List PyData} (h : SeqAt.shaped (.list l) = true) : cmpD none .NotEq (.dat (.list l)) (.dat (.list l)) = some false := qNeL h h (eqv_self h)
theorem fuel_shaped : SeqAt.shaped fuelD = true := out_shaped (o := .fuel) (fun v e => by cases e)

section
variable {call : Str → List D → St → Option (PyData × St)} {N : Nat} {ρ : Loc} {S L1 L2 P C : List PyData} {near v1 v2 bound t1 t2 u1 u2 : PyData} {c1 c2 n m more : Int}
theorem law_C
    (hr1 : call (Str.ofString "run") [.dat (.list P), .dat (.int (c1 + 8 + more))] none = some (.tuple [t1, u1], none))
    (hr2 : call (Str.ofString "run") [.dat (.list C), .dat (.int (c2 + 8 + more))] none = some (.tuple [t2, u2], none))
    (he1 : call (Str.ofString "_law_end") [.dat (.tuple [v1, .int c1])] none = some (.tuple [t1, u1], none))
    (he2 : call (Str.ofString "_law_end") [.dat (.tuple [v2, .int c2])] none = some (.tuple [t2, u2], none))
    (hf1 : call (Str.ofString "run") [.dat (.list P), .dat (.int (c1 + 7))] none = some (fuelD, none))
    (hf2 : call (Str.ofString "run") [.dat (.list C), .dat (.int (c2 + 7))] none = some (fuelD, none))
    (hf0 : call (Str.ofString "run") [.dat (.list P), .dat (.int (-more))] none = some (fuelD, none))
    (sP : SeqAt.shaped (.list P) = true) (sC : SeqAt.shaped (.list C) = true) (s1 : SeqAt.shaped (.tuple [t1, u1]) = true) (s2 : SeqAt.shaped (.tuple [t2, u2]) = true)
    (h20 : cmpD none .NotEq (.dat t1) (.dat t2) = some false)
    (h21 : exS ⟨fLaw.1.sc, call, N⟩ s21.1 (rC (rM ρ S L1 L2 near v1 v2 bound c1 c2 n m P C more) (.tuple [t1, u1]) (.tuple [t2, u2])) none = some (.next, rC (rM ρ S L1 L2 near v1 v2 bound c1 c2 n m P C more) (.tuple [t1, u1]) (.tuple [t2, u2]), none)) :
    exSs ⟨fLaw.1.sc, call, N⟩ (bLaw.1.drop 17) (rM ρ S L1 L2 near v1 v2 bound c1 c2 n m P C more) none = some (.ret (.bool true), rC (rM ρ S L1 L2 near v1 v2 bound c1 c2 n m P C more) (.tuple [t1, u1]) (.tuple [t2, u2]), none) :=
  (seqN (asgE (eCall (ds := [.dat (.list P), .dat (.int (c1 + 8 + more))]) rfl rfl rfl rfl hr1) rfl rfl)).trans
  ((seqN (asgE (eCall (ds := [.dat (.list C), .dat (.int (c2 + 8 + more))]) rfl rfl rfl rfl hr2) rfl rfl)).trans
  ((seqN (ifF (tOr2 (tCmp (a := .dat (.tuple [t1, u1])) rfl (eCall (ds := [.dat (.tuple [v1, .int c1])]) rfl rfl rfl rfl he1) (ne_self s1)) (tCmp (a := .dat (.tuple [t2, u2])) rfl (eCall (ds := [.dat (.tuple [v2, .int c2])]) rfl rfl rfl rfl he2) (ne_self s2))))).trans
  ((seqN (ifF (tCmp (a := .dat t1) (b := .dat t2) rfl rfl h20))).trans
  ((seqN h21).trans
  ((seqN (ifF (tOr2 (tCmp (b := .dat fuelD) (eCall (ds := [.dat (.list P), .dat (.int (c1 + 7))]) rfl rfl rfl rfl hf1) rfl (ne_self fuel_shaped)) (tCmp (b := .dat fuelD) (eCall (ds := [.dat (.list C), .dat (.int (c2 + 7))]) rfl rfl rfl rfl hf2) rfl (ne_self fuel_shaped))))).trans
  ((seqN (ifF (tCmp (b := .dat fuelD) (eCall (ds := [.dat (.list P), .dat (.int (-more))]) rfl rfl rfl rfl hf0) rfl (ne_self fuel_shaped)))).trans
  ((seqN (ifF (tOr2 (tCmp (a := .dat (.list P)) (b := .dat (.list P)) rfl rfl (ne_selfL sP)) (tCmp (a := .dat (.list C)) (b := .dat (.list C)) rfl rfl (ne_selfL sC))))).trans
  rfl)))))))

theorem law_21n : exS ⟨fLaw.1.sc, call, N⟩ s21.1 (rC (rM ρ S L1 L2 near .none v2 bound c1 c2 n m P C more) t1 t2) none = some (.next, rC (rM ρ S L1 L2 near .none v2 bound c1 c2 n m P C more) t1 t2, none) := ifF rfl
theorem law_21p {a b : PyData} : exS ⟨fLaw.1.sc, call, N⟩ s21.1 (rC (rM ρ S L1 L2 near (.tuple [.str (Str.ofString "pair"), a, b]) v2 bound c1 c2 n m P C more) t1 t2) none = some (.next, rC (rM ρ S L1 L2 near (.tuple [.str (Str.ofString "pair"), a, b]) v2 bound c1 c2 n m P C more) t1 t2, none) := ifF rfl
theorem law_21i {i : Int} {k t : Str} (hi : ρ (Str.ofString "int") = none) (hk : cmpD none .NotEq (.dat (.str k)) (.dat (.str (Str.ofString "pair"))) = some true) (s1 : SeqAt.shaped (.tuple [.str t, .tuple [.str k, .int i]]) = true) :
    exS ⟨fLaw.1.sc, call, N⟩ s21.1 (rC (rM ρ S L1 L2 near (.tuple [.str k, .int i]) v2 bound c1 c2 n m P C more) (.tuple [.str t, .tuple [.str k, .int i]]) (.tuple [.str t, .tuple [.str k, .int i]])) none = some (.next, rC (rM ρ S L1 L2 near (.tuple [.str k, .int i]) v2 bound c1 c2 n m P C more) (.tuple [.str t, .tuple [.str k, .int i]]) (.tuple [.str t, .tuple [.str k, .int i]]), none) :=
  have hi' : (rC (rM ρ S L1 L2 near (.tuple [.str k, .int i]) v2 bound c1 c2 n m P C more) (.tuple [.str t, .tuple [.str k, .int i]]) (.tuple [.str t, .tuple [.str k, .int i]])) (Str.ofString "int") = none := hi
  ifT (tAnd2 rfl (tCmp (a := .dat (.str k)) (b := .dat (.str (Str.ofString "pair"))) rfl rfl hk))
    ((seqN (ifF (tCmp (a := .dat (.tuple [.str t, .tuple [.str k, .int i]])) (b := .dat (.tuple [.str t, .tuple [.str k, .int i]])) rfl rfl (ne_self s1)))).trans
    ((seqN (ifF (tNot (c := true) (tAnd2 (tCmp (a := .ty "int") rfl (eInt hi' rfl) rfl) (tCmp (a := .ty "int") rfl (eInt hi' rfl) rfl))))).trans rfl))
end

theorem law_tail {N : Nat} {ρ : Loc} {S L1 L2 P C : List PyData} {near bound : PyData} {n m more : Int} {r1 r2 : R} {Q : List Nd} {x y : V} (hint : ρ (Str.ofString "int") = none) (rel : RelR Q x y r1.1 r2.1)
    (hr1 : callD Text N 3 (Str.ofString "run") [.dat (.list P), .dat (.int ((r1.2 : Int) + 8 + more))] none = some (outD (outOf r1.1), none))
    (hr2 : callD Text N 3 (Str.ofString "run") [.dat (.list C), .dat (.int ((r2.2 : Int) + 8 + more))] none = some (outD (outOf r2.1), none))
    (hf1 : callD Text N 3 (Str.ofString "run") [.dat (.list P), .dat (.int ((r1.2 : Int) + 7))] none = some (outD .fuel, none))
    (hf2 : callD Text N 3 (Str.ofString "run") [.dat (.list C), .dat (.int ((r2.2 : Int) + 7))] none = some (outD .fuel, none))
    (hf0 : callD Text N 3 (Str.ofString "run") [.dat (.list P), .dat (.int (-more))] none = some (outD .fuel, none))
    (sP : SeqAt.shaped (.list P) = true) (sC : SeqAt.shaped (.list C) = true) (s1 : SeqAt.shaped (outD (outOf r1.1)) = true) (s2 : SeqAt.shaped (outD (outOf r2.1)) = true) :
    ∃ ρ', exSs (lawCx N) (bLaw.1.drop 17) (rB (rL ρ S L1 L2 near (R.toD r1) (R.toD r2)) n m bound P C more) none = some (.ret (.bool true), ρ', none) := by
  have n1 := end3 (N := N) (r := r1)
  have n2 := end3 (N := N) (r := r2)
  obtain ⟨r1, c1⟩ := r1
  obtain ⟨r2, c2⟩ := r2
  dsimp only at rel hr1 hr2 hf1 hf2 s1 s2 n1 n2
  cases rel with
  | none => exact ⟨_, law_C (v1 := .none) (v2 := .none) (c1 := c1) (c2 := c2) hr1 hr2 n1 n2 hf1 hf2 hf0 sP sC s1 s2 rfl law_21n⟩
  | some h =>
    cases h with
    | int i => exact ⟨_, law_C (v1 := V.toD _) (v2 := V.toD _) (c1 := c1) (c2 := c2) hr1 hr2 n1 n2 hf1 hf2 hf0 sP sC s1 s2 rfl (law_21i hint rfl s1)⟩
    | bool i => exact ⟨_, law_C (v1 := V.toD _) (v2 := V.toD _) (c1 := c1) (c2 := c2) hr1 hr2 n1 n2 hf1 hf2 hf0 sP sC s1 s2 rfl (law_21i hint rfl s1)⟩
    | pair m _ _ _ _ _ _ _ => exact ⟨_, law_C (v1 := V.toD _) (v2 := V.toD _) (c1 := c1) (c2 := c2) hr1 hr2 n1 n2 hf1 hf2 hf0 sP sC s1 s2 rfl law_21p⟩

theorem cons_of {n : Nat} {l : List Int} (h : n + 1 ≤ l.length) : ∃ s t, l = s :: t ∧ n ≤ t.length := by
  cases l with
  | nil => simp at h
  | cons s t => exact ⟨s, t, rfl, by simpa using h⟩


theorem law_spec {sc : List Int} (hsc : sc.length ≤ 63) : ∃ ρ' σ', exSs (lawCx 5000) fLaw.1.body (ρ0 sc) none = some (.ret (.bool true), ρ', σ') := by
  rw [eLaw]
  by_cases h19 : sc.length < 19
  · exact ⟨_, _, law_short h19⟩
  · have q0 : 19 ≤ sc.length := by omega
    obtain ⟨s0, t0, rfl, q1⟩ := cons_of q0
    obtain ⟨s1, t1, rfl, q2⟩ := cons_of q1
    obtain ⟨s2, t2, rfl, q3⟩ := cons_of q2
    obtain ⟨s3, t3, rfl, q4⟩ := cons_of q3
    obtain ⟨s4, t4, rfl, q5⟩ := cons_of q4
    obtain ⟨s5, t5, rfl, q6⟩ := cons_of q5
    obtain ⟨s6, t6, rfl, q7⟩ := cons_of q6
    obtain ⟨s7, t7, rfl, q8⟩ := cons_of q7
    obtain ⟨s8, t8, rfl, q9⟩ := cons_of q8
    obtain ⟨s9, t9, rfl, q10⟩ := cons_of q9
    obtain ⟨s10, t10, rfl, q11⟩ := cons_of q10
    obtain ⟨s11, t11, rfl, q12⟩ := cons_of q11
    obtain ⟨s12, t12, rfl, q13⟩ := cons_of q12
    obtain ⟨s13, t13, rfl, q14⟩ := cons_of q13
    obtain ⟨s14, t14, rfl, q15⟩ := cons_of q14
    obtain ⟨s15, t15, rfl, q16⟩ := cons_of q15
    obtain ⟨s16, t16, rfl, q17⟩ := cons_of q16
    obtain ⟨s17, t17, rfl, q18⟩ := cons_of q17
    obtain ⟨s18, rest, rfl, q19⟩ := cons_of q18
    have hl : rest.length ≤ 60 := by simp only [List.length_cons] at hsc; omega
    obtain ⟨nr, y, hn⟩ : ∃ nr y, leafOf (s1.fmod 3).toNat s2 (.int s0) (.int s0) = (nr, y) := ⟨_, _, rfl⟩
    have hx : Flat (.int s0) := trivial
    have hy : Flat y := by
      have := leaf_flat (k := (s1.fmod 3).toNat) (n := s2) hx hx
      rw [hn] at this; exact this
    have hnear : NearOk (.int s0) y nr := by
      have := near_ok (s1.fmod 3).toNat (fmod_cast s1 (b := 3) (by decide)).2 s2 (.int s0)
      rw [hn] at this; exact this
    have ho := fmod_cast s1 (b := 3) (by decide)
    have hk := fmod_cast s4 (b := 4) (by decide)
    have ho1 : s1.fmod 3 = ((s1.fmod 3).toNat : Int) := ho.1
    have hk1 : s4.fmod 4 = ((s4.fmod 4).toNat : Int) := hk.1
    have hlt : (s1.fmod 3).toNat < 3 := ho.2
    have l1 := leaf_spec (N := 5000) (n := 2) (k := (s1.fmod 3).toNat) (num := s2) (near := .int s0) (far := .int s0) (by omega)
    have l2 := leaf_spec (N := 5000) (n := 2) (k := (s4.fmod 4).toNat) (num := s5) (near := y) (far := .int s0) hk.2
    rw [← ho1, hn] at l1
    rw [← hk1] at l2
    have eA := law_A (N := 5000) (call := callD Text 5000 3) (s0 := s0) (s1 := s1) (s2 := s2) (s3 := s3) (s4 := s4) (s5 := s5) (s6 := s6) (s7 := s7) (s8 := s8) (s9 := s9) (s10 := s10) (s11 := s11) (s12 := s12) (s13 := s13) (s14 := s14) (s15 := s15) (s16 := s16) (s17 := s17) (s18 := s18) hl l1 l2
    have start := Two.start hx hy (s4.fmod 4).toNat s5
    have hf := leaf_flat (k := (s4.fmod 4).toNat) (n := s5) hx hy
    have B0 : Bnd 0 ⟨[(leafOf (s4.fmod 4).toNat s5 y (.int s0)).1], (some (leafOf (s4.fmod 4).toNat s5 y (.int s0)).2, 1)⟩ :=
      ⟨Nat.le_refl _, Nat.le_refl _, fun v e => by cases e; exact dep_flat hf⟩
    have hj := fmod_cast s3 (b := 5) (by decide)
    have hj2 : (s3.fmod 5).toNat < 5 := hj.2
    have hlen4 : 0 + (([(s6, s7, s8), (s9, s10, s11), (s12, s13, s14), (s15, s16, s17)] : List (Int × Int × Int)).take (s3.fmod 5).toNat).length ≤ 4 := by
      rw [List.length_take]
      simp only [List.length_cons, List.length_nil]
      omega
    have hnn : (0 : Int) ≤ s3.fmod 5 := Int.fmod_nonneg_of_pos s3 (by decide)
    have L1 : LawLoc (s0 :: s1 :: s2 :: s3 :: s4 :: s5 :: s6 :: s7 :: s8 :: s9 :: s10 :: s11 :: s12 :: s13 :: s14 :: s15 :: s16 :: s17 :: s18 :: rest) (.int s0) y nr ⟨[(leafOf (s4.fmod 4).toNat s5 y (.int s0)).1], (some (leafOf (s4.fmod 4).toNat s5 y (.int s0)).2, 1)⟩ ⟨[(leafOf (s4.fmod 4).toNat s5 y (.int s0)).1], (some (leafOf (s4.fmod 4).toNat s5 y (.int s0)).2, 1)⟩ (rA (ρ0 (s0 :: s1 :: s2 :: s3 :: s4 :: s5 :: s6 :: s7 :: s8 :: s9 :: s10 :: s11 :: s12 :: s13 :: s14 :: s15 :: s16 :: s17 :: s18 :: rest)) (V.int s0).toD nr.toD y.toD (leafOf (s4.fmod 4).toNat s5 y (.int s0)).1.toD (R.toD (some (leafOf (s4.fmod 4).toNat s5 y (.int s0)).2, 1)) (.list ([(s6, s7, s8), (s9, s10, s11), (s12, s13, s14), (s15, s16, s17)].map cellD))) :=
      ⟨rfl, rfl, rfl, rfl, rfl, rfl, rfl⟩
    obtain ⟨ρ2, one, two, eL, L2, T2, B1, B2⟩ := law_loop (N := 5000) (ρ := rA (ρ0 (s0 :: s1 :: s2 :: s3 :: s4 :: s5 :: s6 :: s7 :: s8 :: s9 :: s10 :: s11 :: s12 :: s13 :: s14 :: s15 :: s16 :: s17 :: s18 :: rest)) (V.int s0).toD nr.toD y.toD (leafOf (s4.fmod 4).toNat s5 y (.int s0)).1.toD (R.toD (some (leafOf (s4.fmod 4).toNat s5 y (.int s0)).2, 1)) (.list ([(s6, s7, s8), (s9, s10, s11), (s12, s13, s14), (s15, s16, s17)].map cellD))) hx hy _ L1 start B0 B0 hlen4
    have n1 := B1.len
    have n2 := B2.len
    have c1 := B1.cost
    have c2 := B2.cost
    have m0 := Int.fmod_nonneg_of_pos s18 (b := 3) (by decide)
    have m3 := Int.fmod_lt_of_pos s18 (b := 3) (by decide)
    have lp : (plainP one nr s0).length = one.nodes.length + 5 := by simp [plainP]
    have lc : (callsP two nr s0).length = two.nodes.length + 5 := by simp [callsP]
    have ev1 := plain_ev (s0 := s0) rfl T2.ok1 hnear
    have ev2 := calls_ev (s0 := s0) rfl T2.ok2 hnear
    have p1 := T2.ok1.pos
    have p2 := T2.ok2.pos
    have f1 : ((one.r.2 : Int) + 8 + s18.fmod 3).toNat = one.r.2 + 8 + (s18.fmod 3).toNat := by omega
    have f2 : ((two.r.2 : Int) + 8 + s18.fmod 3).toNat = two.r.2 + 8 + (s18.fmod 3).toNat := by omega
    have f3 : ((one.r.2 : Int) + 7).toNat = one.r.2 + 7 := by omega
    have f4 : ((two.r.2 : Int) + 7).toNat = two.r.2 + 7 := by omega
    have f5 : (-(s18.fmod 3)).toNat = 0 := by omega
    have hr1 := run_spec (N := 5000) (n := 1) (P := plainP one nr s0) (fuel := (one.r.2 : Int) + 8 + s18.fmod 3) (o := outOf one.r.1) (by omega) (by omega) (by omega) (by omega) (by rw [f1]; exact ev1.run _)
    have hr2 := run_spec (N := 5000) (n := 1) (P := callsP two nr s0) (fuel := (two.r.2 : Int) + 8 + s18.fmod 3) (o := outOf two.r.1) (by omega) (by omega) (by omega) (by omega) (by rw [f2]; exact ev2.run _)
    have hf1 := run_spec (N := 5000) (n := 1) (P := plainP one nr s0) (fuel := (one.r.2 : Int) + 7) (o := .fuel) (by omega) (by omega) (by omega) (by omega) (by rw [f3]; exact ev1.short (by omega))
    have hf2 := run_spec (N := 5000) (n := 1) (P := callsP two nr s0) (fuel := (two.r.2 : Int) + 7) (o := .fuel) (by omega) (by omega) (by omega) (by omega) (by rw [f4]; exact ev2.short (by omega))
    have hf0 := run_spec (N := 5000) (n := 1) (P := plainP one nr s0) (fuel := -(s18.fmod 3)) (o := .fuel) (by omega) (by omega) (by omega) (by omega) (by rw [f5]; rfl)
    have s1' : SeqAt.shaped (outD (outOf one.r.1)) = true := out_shaped fun v e => by
      cases hr : one.r.1 with
      | none => rw [hr] at e; cases e
      | some u => rw [hr] at e; cases e; exact B1.dep _ hr
    have s2' : SeqAt.shaped (outD (outOf two.r.1)) = true := out_shaped fun v e => by
      cases hr : two.r.1 with
      | none => rw [hr] at e; cases e
      | some u => rw [hr] at e; cases e; exact B2.dep _ hr
    obtain ⟨ρb, hρ⟩ : ∃ ρb, ρ2 = rL ρb ((s0 :: s1 :: s2 :: s3 :: s4 :: s5 :: s6 :: s7 :: s8 :: s9 :: s10 :: s11 :: s12 :: s13 :: s14 :: s15 :: s16 :: s17 :: s18 :: rest).map PyData.int) (one.nodes.map Nd.toD) (two.nodes.map Nd.toD) (leafD (nr, y)) (R.toD one.r) (R.toD two.r) :=
      ⟨ρ2, by
        rw [rL, setL_same L2.script, setL_same L2.near]
        exact ((setL_same (d := .dat two.toD) L2.two).symm.trans (congrArg (fun r => setL r (Str.ofString "two") (.dat two.toD)) (setL_same (d := .dat one.toD) L2.one).symm))⟩
    subst hρ
    have hint : ρb (Str.ofString "int") = none := L2.int
    have P1 : one.nodes.map Nd.toD ++ endP nr.toD ((one.nodes.map Nd.toD).length : Nat) s0 = (plainP one nr s0).map Nd.toD := by
      rw [plainP, mapD_app, List.length_map, endP, show (one.nodes.length : Int) - 1 = ((one.nodes.length - 1 : Nat) : Int) from by omega]; rfl
    have P2 : two.nodes.map Nd.toD ++ endC nr.toD ((two.nodes.map Nd.toD).length : Nat) s0 = (callsP two nr s0).map Nd.toD := by
      rw [callsP, mapD_app, List.length_map, endC, show (two.nodes.length : Int) - 1 = ((two.nodes.length - 1 : Nat) : Int) from by omega]; rfl
    have eB := law_B (N := 5000) (call := callD Text 5000 3) (s0 := s0) (s1 := s1) (s2 := s2) (s3 := s3) (s4 := s4) (s5 := s5) (s6 := s6) (s7 := s7) (s8 := s8) (s9 := s9) (s10 := s10) (s11 := s11) (s12 := s12) (s13 := s13) (s14 := s14) (s15 := s15) (s16 := s16) (s17 := s17) (s18 := s18) (rest := rest) (ρ := ρb) (L1 := one.nodes.map Nd.toD) (L2 := two.nodes.map Nd.toD) (nr := nr.toD) (nv := R.toD (some y, 1)) (r1 := R.toD one.r) (r2 := R.toD two.r) (by rw [List.length_map]; omega) (by rw [List.length_map]; omega)
    rw [P1, P2] at eB
    obtain ⟨ρ4, eC⟩ := law_tail hint T2.rel hr1 hr2 hf1 hf2 hf0 (nds_shaped _) (nds_shaped _) s1' s2'
    refine ⟨ρ4, none, ?_⟩
    refine eA.trans ?_
    rw [lf.2]
    refine (seqFor (eCut1 (xs := [(s6, s7, s8), (s9, s10, s11), (s12, s13, s14), (s15, s16, s17)].map cellD) (k := s3.fmod 5) rfl rfl (show (4 : Nat) ≤ 4096 by decide) hnn) ?_).trans (eB.trans eC)
    rw [← List.map_take]
    exact eL
end Zp
end

section
namespace Zp
open PySem PySem.Calls PyProof.Rows PySem.W

structure FnOk (fn : Fn) : Prop where
  kind : fn.sc.kind = .function
  co : fn.sc.isCoroutine = false
  gen : fn.sc.isGenerator = false
  cell : ∀ x ∈ fn.sc.names, x.2 ≠ .cell
  loc : ∀ x ∈ fn.params, fn.sc.names.lookup x = some .local
  nd : fn.params.Nodup
  nb : ∀ x ∈ fn.params, x ≠ Str.ofString "__debug__"

noncomputable def fnList : List (String × Fn) := [("begin_node", fBegin.1), ("resume_frame", fResume.1), ("run", fRun.1), ("_law_leaf", fLeaf.1), ("_law_sides", fSides.1), ("_law_both", fBoth.1), ("_law_closure", fClosure.1), ("_law_part", fPart.1), ("_law_if", fIf.1), ("_law_bound", fBound.1),
  ("_law_plain", fPlain.1), ("_law_calls", fCalls.1), ("_law_end", fEnd.1), ("law", fLaw.1)]

theorem okBegin : FnOk fBegin.1 := ⟨rfl, rfl, rfl, by decide, by decide +kernel, by decide +kernel, by decide +kernel⟩
theorem okResume : FnOk fResume.1 := ⟨rfl, rfl, rfl, by decide, by decide +kernel, by decide +kernel, by decide +kernel⟩
theorem okRun : FnOk fRun.1 := ⟨rfl, rfl, rfl, by decide, by decide +kernel, by decide +kernel, by decide +kernel⟩
theorem okLeaf : FnOk fLeaf.1 := ⟨rfl, rfl, rfl, by decide, by decide +kernel, by decide +kernel, by decide +kernel⟩
theorem okSides : FnOk fSides.1 := ⟨rfl, rfl, rfl, by decide, by decide +kernel, by decide +kernel, by decide +kernel⟩
theorem okBoth : FnOk fBoth.1 := ⟨rfl, rfl, rfl, by decide, by decide +kernel, by decide +kernel, by decide +kernel⟩
theorem okClosure : FnOk fClosure.1 := ⟨rfl, rfl, rfl, by decide, by decide +kernel, by decide +kernel, by decide +kernel⟩
theorem okPart : FnOk fPart.1 := ⟨rfl, rfl, rfl, by decide, by decide +kernel, by decide +kernel, by decide +kernel⟩
theorem okIf : FnOk fIf.1 := ⟨rfl, rfl, rfl, by decide, by decide +kernel, by decide +kernel, by decide +kernel⟩
theorem okBound : FnOk fBound.1 := ⟨rfl, rfl, rfl, by decide, by decide +kernel, by decide +kernel, by decide +kernel⟩
theorem okPlain : FnOk fPlain.1 := ⟨rfl, rfl, rfl, by decide, by decide +kernel, by decide +kernel, by decide +kernel⟩
theorem okCalls : FnOk fCalls.1 := ⟨rfl, rfl, rfl, by decide, by decide +kernel, by decide +kernel, by decide +kernel⟩
theorem okEnd : FnOk fEnd.1 := ⟨rfl, rfl, rfl, by decide, by decide +kernel, by decide +kernel, by decide +kernel⟩
theorem okLaw : FnOk fLaw.1 := ⟨rfl, rfl, rfl, by decide, by decide +kernel, by decide +kernel, by decide +kernel⟩

theorem ok_all : ∀ p ∈ fnList, FnOk p.2 := by
  intro p hp
  simp only [fnList, List.mem_cons, List.not_mem_nil, or_false] at hp
  rcases hp with rfl | rfl | rfl | rfl | rfl | rfl | rfl | rfl | rfl | rfl | rfl | rfl | rfl | rfl
  · exact okBegin
  · exact okResume
  · exact okRun
  · exact okLeaf
  · exact okSides
  · exact okBoth
  · exact okClosure
  · exact okPart
  · exact okIf
  · exact okBound
  · exact okPlain
  · exact okCalls
  · exact okEnd
  · exact okLaw

/-- the written part bears the def -/
noncomputable def KFn (K : Frag) (name : String) (fn : Fn) : Prop :=
  ∃ a oc od fd osl, nsIn K mainGlobals (Str.ofString name) = some (some (.ref a)) ∧ K.lookup a = some ⟨oc, od, .func fd, osl⟩ ∧ codeIn K fd.code fd.qualname = true ∧ fd.body = .stmts fn.body ∧ fd.scope = fn.sc ∧ fd.globals = mainGlobals ∧ fd.builtins = builtinsNs ∧
    ∀ vs : List Value, vs.length = fn.params.length → bindArgs fd ⟨vs, []⟩ = pure (fn.params.zip vs)

theorem kfn_of {K : Frag} {name : String} {fn : Fn} {a : Addr} {oc : Value} {od : Option Addr} {fd : FuncData} {osl : Array (Option Value)} (e1 : nsIn K mainGlobals (Str.ofString name) = some (some (.ref a))) (e2 : K.lookup a = some ⟨oc, od, .func fd, osl⟩) (e3 : codeIn K fd.code fd.qualname = true)
    (e4 : fd.body = .stmts fn.body) (e5 : fd.scope = fn.sc) (e6 : fd.globals = mainGlobals) (e7 : fd.builtins = builtinsNs) (e8 : ∀ vs : List Value, vs.length = fn.params.length → bindArgs fd ⟨vs, []⟩ = pure (fn.params.zip vs)) : KFn K name fn :=
  ⟨a, oc, od, fd, osl, e1, e2, e3, e4, e5, e6, e7, e8⟩

theorem bind1 {fd : FuncData} {x1 : Str} (h : ∀ v1, bindArgs fd ⟨[v1], []⟩ = pure [(x1, v1)]) : ∀ vs : List Value, vs.length = [x1].length → bindArgs fd ⟨vs, []⟩ = pure ([x1].zip vs) := by
  intro vs hv
  match vs, hv with
  | [v1], _ => exact h v1
theorem bind2 {fd : FuncData} {x1 x2 : Str} (h : ∀ v1 v2, bindArgs fd ⟨[v1, v2], []⟩ = pure [(x1, v1), (x2, v2)]) : ∀ vs : List Value, vs.length = [x1, x2].length → bindArgs fd ⟨vs, []⟩ = pure ([x1, x2].zip vs) := by
  intro vs hv
  match vs, hv with
  | [v1, v2], _ => exact h v1 v2
theorem bind3 {fd : FuncData} {x1 x2 x3 : Str} (h : ∀ v1 v2 v3, bindArgs fd ⟨[v1, v2, v3], []⟩ = pure [(x1, v1), (x2, v2), (x3, v3)]) : ∀ vs : List Value, vs.length = [x1, x2, x3].length → bindArgs fd ⟨vs, []⟩ = pure ([x1, x2, x3].zip vs) := by
  intro vs hv
  match vs, hv with
  | [v1, v2, v3], _ => exact h v1 v2 v3
theorem bind4 {fd : FuncData} {x1 x2 x3 x4 : Str} (h : ∀ v1 v2 v3 v4, bindArgs fd ⟨[v1, v2, v3, v4], []⟩ = pure [(x1, v1), (x2, v2), (x3, v3), (x4, v4)]) : ∀ vs : List Value, vs.length = [x1, x2, x3, x4].length → bindArgs fd ⟨vs, []⟩ = pure ([x1, x2, x3, x4].zip vs) := by
  intro vs hv
  match vs, hv with
  | [v1, v2, v3, v4], _ => exact h v1 v2 v3 v4
theorem bind5 {fd : FuncData} {x1 x2 x3 x4 x5 : Str} (h : ∀ v1 v2 v3 v4 v5, bindArgs fd ⟨[v1, v2, v3, v4, v5], []⟩ = pure [(x1, v1), (x2, v2), (x3, v3), (x4, v4), (x5, v5)]) : ∀ vs : List Value, vs.length = [x1, x2, x3, x4, x5].length → bindArgs fd ⟨vs, []⟩ = pure ([x1, x2, x3, x4, x5].zip vs) := by
  intro vs hv
  match vs, hv with
  | [v1, v2, v3, v4, v5], _ => exact h v1 v2 v3 v4 v5

theorem defs_of {K : Frag} {h₀ : Heap} {mg : Str → Option Value} (KX : K.In h₀) (g : h₀.Ns mainGlobals mg) (hK : ∀ p ∈ fnList, KFn K p.1 p.2) : Defs Text h₀ mg := by
  intro f fn h
  unfold theFn at h
  rw [text_fns] at h
  have hm : ∃ p ∈ fnList, f = Str.ofString p.1 ∧ fn = p.2 := by
    have : ∀ (l : List (String × Fn)), (l.map fun p => (Str.ofString p.1, p.2)).lookup f = some fn → ∃ p ∈ l, f = Str.ofString p.1 ∧ fn = p.2 := by
      intro l
      induction l with
      | nil => intro h; cases h
      | cons p l ih =>
        intro h
        rw [List.map_cons, lookup_cons'] at h
        split at h
        · rename_i e
          cases h
          exact ⟨p, .head _, e, rfl⟩
        · obtain ⟨q, hq, r⟩ := ih h
          exact ⟨q, .tail _ hq, r⟩
    exact this fnList h
  obtain ⟨p, hp, rfl, rfl⟩ := hm
  obtain ⟨a, oc, od, fd, osl, e1, e2, e3, e4, e5, e6, e7, e8⟩ := hK p hp
  have ok := ok_all p hp
  exact ⟨a, mg_of KX g e1, ⟨⟨_, fd, KX _ _ e2, rfl, codeRec_of KX e3, e4, e5, e6, e7, fun s vs hv => BindsTo.of_eq (e8 vs hv)⟩, ok.kind, ok.co, ok.gen, ok.cell, ok.loc, ok.nd, ok.nb⟩⟩

theorem rep_ints {F : Option Addr} {h : Heap} : ∀ {vs : List Value} {ns : List Int}, IntsAre vs ns → RepL F h vs (ns.map PyData.int)
  | _, _, .nil => .nil
  | _, _, .cons n t r => .cons (.int n t) (rep_ints r)

theorem law_core {prog : Program} {w : World} {A : Around} {h₀ : Heap} {mg mb m : Str → Option Value} {env : Env} {L l : Addr} {vs : List Value} {sc : List Int} {s : Shared} {Q : Flow → Shared → Prop} {E : Value → Shared → Prop}
    (G : Glo h₀ mg mb) (D : Defs Text h₀ mg) (he : EnvOk env fLaw.1.sc L) (hd : A.handled = none) (hu : A.units + 100 < cLine) (hr : A.depth + 3 ≤ recursionLimit) (F : Fr h₀ L s.heap m) (hl0 : h₀.get? L = none)
    (hL : h₀.IsList l vs.toArray) (hI : IntsAre vs sc) (hlen : sc.length ≤ 63) (hm : m (Str.ofString "script") = some (.ref l))
    (h : ∀ m' h' tk', Fr h₀ L h' m' → Q (.ret (.bool true)) { s with heap := h', toks := tk' }) : wpAny (model prog w) A (execs fLaw.1.body env) Q E s := by
  have O : (Sx.mk prog w A h₀ mg mb L env (lawCx 5000)).Ok := {
    G := G
    env := he
    call := callD_ok G D 3 A hd (by omega) hr
    u := by show A.units + 64 < cLine; omega
    hd := hd }
  obtain ⟨ρ', σ', e⟩ := law_spec hlen
  obtain ⟨o, ho, hc, n, hdat⟩ := hL
  have X : Fx fLaw.1.sc h₀ L none m (ρ0 sc) none s.heap := {
    base := F.keep
    f0 := fun a e => nomatch e
    l0 := hl0
    ns := F.ns
    lF := fun e => nomatch e
    loc := fun y d q => by
      unfold ρ0 setL at q
      split at q
      · rename_i hy
        subst hy
        cases q
        exact ⟨_, hm, .list (F.keep _ _ ho) hc hdat (fun e => nomatch e) (rep_ints hI)⟩
      · cases q
    fr := rfl
    dom := fun y d q => by
      unfold ρ0 setL at q
      split at q
      · rename_i hy
        subst hy
        exact ⟨okLaw.loc _ (.head _), okLaw.nb _ (.head _)⟩
      · cases q }
  refine exSs_sound O fLaw.1.body (ρ0 sc) none _ ρ' σ' e none m s Q E X fun f F' m' h' tk' x X' rf => ?_
  obtain ⟨v, rfl, rv⟩ := rf
  cases rv
  exact h m' h' tk' ⟨X'.ns, X'.base, F.above⟩
end Zp
end

open PySem PySem.W PyProof.Rows Zp
set_option maxHeartbeats 8000000 in
theorem PySem.Challenge.cw_sx_zprincipal_5_holds : PySem.Challenge.rw_sx_zprincipal_5.Holds := by
  w_on
  o_law
  k_head
  (case hw => w_witness2)
  k_go0
  rename Top _ _ _ _ _ _ => TT
  rename Frag.In _ _ => KX
  rename Fr _ _ _ _ => FF
  rename IntsAre _ _ => II
  rename Heap.IsList _ _ _ => LL
  rename ¬ _ => hc
  refine law_core (mg := _) (mb := _) ⟨TT.g, TT.b, TT.nolimit, ⟨mg_none_of KX TT.g (by k_is), (TT.builtins _ (by decide)).trans (by boot_fast)⟩, ⟨mg_none_of KX TT.g (by k_is), (TT.builtins _ (by decide)).trans (by boot_fast)⟩, ⟨mg_none_of KX TT.g (by k_is), (TT.builtins _ (by decide)).trans (by boot_fast)⟩⟩
    (defs_of KX TT.g ?hK) ⟨rfl, rfl, rfl, rfl, rfl⟩ rfl ?hu ?hr FF ?hl0 LL II ?hlen rfl ?hq
  case hu => exact Nat.lt_of_lt_of_le (show callerA.units + 3 + 100 < 200 by decide) (by decide)
  case hr => exact (by decide : callerA.depth + 1 + 3 ≤ recursionLimit)
  case hl0 => exact Heap.get?_none_of_le (Nat.le_refl _)
  case hlen => omega
  case hq =>
    intro m' h' tk' F'
    dsimp only at F' ⊢
    first | wrow_close | (w_end; wrow_close)
  case hK =>
    intro p hp
    simp only [fnList, List.mem_cons, List.not_mem_nil, or_false] at hp
    rcases hp with rfl | rfl | rfl | rfl | rfl | rfl | rfl | rfl | rfl | rfl | rfl | rfl | rfl | rfl
    · exact kfn_of (name := "begin_node") (fn := fBegin.1) (by k_is) (by k_is) (by k_is) (by exact rfl) (by exact rfl) (by exact rfl) (by exact rfl) (by exact bind4 (fun _ _ _ _ => rfl))
    · exact kfn_of (name := "resume_frame") (fn := fResume.1) (by k_is) (by k_is) (by k_is) (by exact rfl) (by exact rfl) (by exact rfl) (by exact rfl) (by exact bind3 (fun _ _ _ => rfl))
    · exact kfn_of (name := "run") (fn := fRun.1) (by k_is) (by k_is) (by k_is) (by exact rfl) (by exact rfl) (by exact rfl) (by exact rfl) (by exact bind2 (fun _ _ => rfl))
    · exact kfn_of (name := "_law_leaf") (fn := fLeaf.1) (by k_is) (by k_is) (by k_is) (by exact rfl) (by exact rfl) (by exact rfl) (by exact rfl) (by exact bind4 (fun _ _ _ _ => rfl))
    · exact kfn_of (name := "_law_sides") (fn := fSides.1) (by k_is) (by k_is) (by k_is) (by exact rfl) (by exact rfl) (by exact rfl) (by exact rfl) (by exact bind3 (fun _ _ _ => rfl))
    · exact kfn_of (name := "_law_both") (fn := fBoth.1) (by k_is) (by k_is) (by k_is) (by exact rfl) (by exact rfl) (by exact rfl) (by exact rfl) (by exact bind3 (fun _ _ _ => rfl))
    · exact kfn_of (name := "_law_closure") (fn := fClosure.1) (by k_is) (by k_is) (by k_is) (by exact rfl) (by exact rfl) (by exact rfl) (by exact rfl) (by exact bind4 (fun _ _ _ _ => rfl))
    · exact kfn_of (name := "_law_part") (fn := fPart.1) (by k_is) (by k_is) (by k_is) (by exact rfl) (by exact rfl) (by exact rfl) (by exact rfl) (by exact bind3 (fun _ _ _ => rfl))
    · exact kfn_of (name := "_law_if") (fn := fIf.1) (by k_is) (by k_is) (by k_is) (by exact rfl) (by exact rfl) (by exact rfl) (by exact rfl) (by exact bind3 (fun _ _ _ => rfl))
    · exact kfn_of (name := "_law_bound") (fn := fBound.1) (by k_is) (by k_is) (by k_is) (by exact rfl) (by exact rfl) (by exact rfl) (by exact rfl) (by exact bind5 (fun _ _ _ _ _ => rfl))
    · exact kfn_of (name := "_law_plain") (fn := fPlain.1) (by k_is) (by k_is) (by k_is) (by exact rfl) (by exact rfl) (by exact rfl) (by exact rfl) (by exact bind5 (fun _ _ _ _ _ => rfl))
    · exact kfn_of (name := "_law_calls") (fn := fCalls.1) (by k_is) (by k_is) (by k_is) (by exact rfl) (by exact rfl) (by exact rfl) (by exact rfl) (by exact bind5 (fun _ _ _ _ _ => rfl))
    · exact kfn_of (name := "_law_end") (fn := fEnd.1) (by k_is) (by k_is) (by k_is) (by exact rfl) (by exact rfl) (by exact rfl) (by exact rfl) (by exact bind1 (fun _ => rfl))
    · exact kfn_of (name := "law") (fn := fLaw.1) (by k_is) (by k_is) (by k_is) (by exact rfl) (by exact rfl) (by exact rfl) (by exact rfl) (by exact bind1 (fun _ => rfl))
