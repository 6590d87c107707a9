import PyProof.Rows.All
import HandS.ForMost
import HandS.Exc
import HandS.More
import HandS.Defaults
import HandS.HeadHook1
import HandS.HeadHook2
import HandS.HeadHook3
import HandS.Head0
import HandS.Head1
import HandS.Head2
import HandS.ExcInit
import HandS.Slots
import HandS.Property
import HandS.Codes
import HandS.IsInst
import HandS.ExcOwn
import HandS.WordsExc
import HandS.ExcCtx
import HandS.Star
import HandS.OwnEq
import HandS.TupAny
import HandS.DictComp
import HandS.NoneIn
import HandS.Walk
import HandS.Strs
import HandS.FStr
import HandS.ExcInitHot
import HandS.Set
import HandS.SetTxt0
import PyProof.Rows.SortShellAny
import PyProof.Rows.TupAdd
import KE.GoesNew
import KE.GoesEnum
import HandS.RaiseFrom
import PyProof.NeKinds
import HandS.TryOnly
import Wide.All
import OpenK.AllK
import Wide.FinOn
import KE.KStateDown
import Wide.Once
import HandS.HeadEnd
import HandS.HeadWalk
import PySem.Challenge.RW_loginstacks_k68_whole_scripts_rolled_out
/-! K68Math: the mathematics of law k68 in plain Lean: trees of rows, states of the machine, what executing does, repeats written out. -/
namespace K68
inductive Ct where
  | req | rqs | suf | opt | mix
  deriving DecidableEq, Inhabited
inductive Md where
  | key | lan | pin
  deriving DecidableEq, Inhabited
inductive Rs where
  | yes | no | skip | gone
  deriving DecidableEq, Inhabited
inductive Ac where
  | ok | bad | die | done | ign | jmp
  deriving DecidableEq, Inhabited
inductive Mk where
  | non | good | bad (n : Nat)
  deriving DecidableEq, Inhabited
def Ct.act : Ct → Rs → Ac
  | .req, .yes => .ok | .req, .no => .bad | .req, .skip => .ign | .req, .gone => .bad
  | .rqs, .yes => .ok | .rqs, .no => .die | .rqs, .skip => .ign | .rqs, .gone => .die
  | .suf, .yes => .done | .suf, _ => .ign
  | .opt, .yes => .ok | .opt, _ => .ign
  | .mix, .yes => .jmp | .mix, .no => .ok | .mix, .skip => .bad | .mix, .gone => .die
/-- the mark behind an action of the rule n -/
def marked (a : Ac) (m : Mk) (n : Nat) : Mk :=
  match a with
  | .ok => if m = .non then .good else m
  | .done => if m = .non then .good else m
  | .bad => match m with | .bad k => .bad k | _ => .bad n
  | .die => match m with | .bad k => .bad k | _ => .bad n
  | .ign => m
  | .jmp => m
def Ac.skips : Ac → Nat
  | .jmp => 1
  | _ => 0
def Ac.ends (a : Ac) (m : Mk) : Bool := decide (a = .die) || (decide (a = .done) && decide (m = .good))
abbrev Ru := Md × Ct
/-- a run of a stack from the rule i on: the mark, the rules asked -/
def runI (rs : List Ru) (told : Md → Rs) (i : Nat) (m : Mk) (as : List Nat) : Mk × List Nat :=
  if h : i < rs.length then
    let a := (rs[i]).2.act (told (rs[i]).1)
    let m' := marked a m i
    if a.ends m' = true then (m', as ++ [i]) else runI rs told (i + 1 + a.skips) m' (as ++ [i])
  else (m, as)
termination_by rs.length - i
theorem runI_end {rs : List Ru} {told : Md → Rs} {i : Nat} {m : Mk} {as : List Nat} (h : ¬ i < rs.length) : runI rs told i m as = (m, as) := by
  rw [runI, dif_neg h]
theorem runI_stop {rs : List Ru} {told : Md → Rs} {i : Nat} {m : Mk} {as : List Nat} {r : Ru} (h : rs[i]? = some r) (e : (r.2.act (told r.1)).ends (marked (r.2.act (told r.1)) m i) = true) :
    runI rs told i m as = (marked (r.2.act (told r.1)) m i, as ++ [i]) := by
  obtain ⟨hl, rfl⟩ := List.getElem?_eq_some_iff.mp h
  rw [runI, dif_pos hl]
  dsimp only
  rw [if_pos e]
theorem runI_go {rs : List Ru} {told : Md → Rs} {i : Nat} {m : Mk} {as : List Nat} {r : Ru} (h : rs[i]? = some r) (e : (r.2.act (told r.1)).ends (marked (r.2.act (told r.1)) m i) = false) :
    runI rs told i m as = runI rs told (i + 1 + (r.2.act (told r.1)).skips) (marked (r.2.act (told r.1)) m i) (as ++ [i]) := by
  obtain ⟨hl, rfl⟩ := List.getElem?_eq_some_iff.mp h
  rw [runI, dif_pos hl]
  dsimp only
  rw [if_neg (by rw [e]; decide)]
inductive OutLn where
  | inn | out | asked (as : List Nat)
  deriving DecidableEq, Inhabited
/-- what the machine holds, without the count of steps -/
structure Co where
  rs : List Ru
  told : Md → Option Rs
  out : List OutLn
def tellF (t : Md → Option Rs) (m : Md) : Rs := (t m).getD .skip
def Co.run (c : Co) : Mk × List Nat := runI c.rs (tellF c.told) 0 .non []
def Co.isIn (c : Co) : Bool := decide (c.run.1 = .good)
def outW (b : Bool) : OutLn := if b = true then .inn else .out
structure Sx where
  co : Co
  n : Nat
inductive Ln where
  | add (c : Ct) (m : Md) | drop | swap | drop99 | tell (m : Md) (r : Rs) | run | rules
  deriving DecidableEq, Inhabited
def exL (l : Ln) (c : Co) : Option Co :=
  match l with
  | .add k m => if c.rs.length < 12 then some { c with rs := c.rs ++ [(m, k)] } else none
  | .drop => match c.rs with | [] => none | _ :: r => some { c with rs := r }
  | .swap => match c.rs with | a :: b :: r => some { c with rs := b :: a :: r } | _ => none
  | .drop99 => none
  | .tell m r => some { c with told := fun x => if x = m then some r else c.told x }
  | .run => some { c with out := c.out ++ [outW c.isIn] }
  | .rules => some { c with out := c.out ++ [.asked c.run.2] }
def step (s : Sx) : Option Sx := if s.n < 300 then some { s with n := s.n + 1 } else none
/-- rows -/
inductive T where
  | nil
  | line (l : Ln) (t : T)
  | rep (k : Nat) (b t : T)
  | whn (o : Bool) (b t : T)
  deriving Inhabited
def iter (f : Sx → Option Sx) : Nat → Sx → Option Sx
  | 0, s => some s
  | k + 1, s => (step s).bind fun s1 => (f s1).bind (iter f k)
def exT : T → Sx → Option Sx
  | .nil, s => some s
  | .line l t, s => (step s).bind fun s1 => ((exL l s1.co).map fun c => ({ s1 with co := c } : Sx)).bind (exT t)
  | .rep k b t, s => (step s).bind fun s1 => (iter (exT b) k s1).bind (exT t)
  | .whn o b t, s => (step s).bind fun s1 => (if s1.co.isIn = o then exT b s1 else some s1).bind (exT t)
/-- .. without steps -/
def iterC (f : Co → Option Co) : Nat → Co → Option Co
  | 0, s => some s
  | k + 1, s => (f s).bind (iterC f k)
def exC : T → Co → Option Co
  | .nil, s => some s
  | .line l t, s => (exL l s).bind (exC t)
  | .rep k b t, s => (iterC (exC b) k s).bind (exC t)
  | .whn o b t, s => (if s.isIn = o then exC b s else some s).bind (exC t)
def app : T → T → T
  | .nil, u => u
  | .line l t, u => .line l (app t u)
  | .rep k b t, u => .rep k b (app t u)
  | .whn o b t, u => .whn o b (app t u)
def times (b : T) : Nat → T
  | 0 => .nil
  | k + 1 => app b (times b k)
def rolled : T → T
  | .nil => .nil
  | .line l t => .line l (rolled t)
  | .rep k b t => app (times (rolled b) k) (rolled t)
  | .whn o b t => .whn o (rolled b) (rolled t)
/-- how many rows a text of it has -/
def nl : T → Nat
  | .nil => 0
  | .line _ t => 1 + nl t
  | .rep _ b t => 2 + nl b + nl t
  | .whn _ b t => 2 + nl b + nl t
/-- at most so many steps -/
def sm : T → Nat
  | .nil => 0
  | .line _ t => 1 + sm t
  | .rep k b t => 1 + k * (1 + sm b) + sm t
  | .whn _ b t => 1 + sm b + sm t
def width : T → Nat
  | .nil => 0
  | .line _ t => 1 + width t
  | .rep _ _ t => 1 + width t
  | .whn _ _ t => 1 + width t
/-- drawn rows: blocks so deep, at most four in a block, at most three times -/
def wf : Nat → T → Prop
  | _, .nil => True
  | d, .line _ t => wf d t
  | 0, .rep _ _ _ => False
  | d + 1, .rep k b t => k ≤ 3 ∧ wf d b ∧ 1 ≤ width b ∧ width b ≤ 4 ∧ wf (d + 1) t
  | 0, .whn _ _ _ => False
  | d + 1, .whn _ b t => wf d b ∧ 1 ≤ width b ∧ width b ≤ 4 ∧ wf (d + 1) t
/-! ### executing is what it is without steps, while there are steps -/
theorem step_ok {s : Sx} (h : s.n < 300) : step s = some { s with n := s.n + 1 } := if_pos h
theorem iter_co {f : Sx → Option Sx} {g : Co → Option Co} {w : Nat} (hf : ∀ s : Sx, s.n + w ≤ 300 → (f s).map (·.co) = g s.co ∧ ∀ s', f s = some s' → s'.n ≤ s.n + w) :
    ∀ (k : Nat) (s : Sx), s.n + k * (1 + w) ≤ 300 → (iter f k s).map (·.co) = iterC g k s.co ∧ ∀ s', iter f k s = some s' → s'.n ≤ s.n + k * (1 + w)
  | 0, s, _ => ⟨rfl, fun s' e => by cases e; omega⟩
  | k + 1, s, h => by
    have e : (k + 1) * (1 + w) = k * (1 + w) + (1 + w) := Nat.succ_mul _ _
    rw [e] at h
    have h0 : s.n < 300 := by omega
    have hs : iter f (k + 1) s = (f { s with n := s.n + 1 }).bind (iter f k) := by
      show (step s).bind _ = _
      rw [step_ok h0]; rfl
    have hc : iterC g (k + 1) s.co = (g s.co).bind (iterC g k) := rfl
    rw [hs, hc, e]
    obtain ⟨a1, a2⟩ := hf { s with n := s.n + 1 } (by show s.n + 1 + w ≤ 300; omega)
    cases q : f { s with n := s.n + 1 } with
    | none =>
      rw [q] at a1
      rw [← a1]
      exact ⟨rfl, fun s' e => by cases e⟩
    | some s1 =>
      rw [q] at a1
      have a3 : s1.n ≤ s.n + 1 + w := a2 s1 q
      have a4 : g s.co = some s1.co := a1.symm
      rw [a4]
      obtain ⟨b1, b2⟩ := iter_co hf k s1 (by omega)
      refine ⟨b1, fun s' e => ?_⟩
      have := b2 s' e
      omega
theorem exT_co : ∀ (t : T) (s : Sx), s.n + sm t ≤ 300 → (exT t s).map (·.co) = exC t s.co ∧ ∀ s', exT t s = some s' → s'.n ≤ s.n + sm t
  | .nil, s, _ => ⟨rfl, fun s' e => by cases e; omega⟩
  | .line l t, s, h => by
    have h' : s.n + (1 + sm t) ≤ 300 := h
    have hs : exT (.line l t) s = ((exL l s.co).map fun c => ({ co := c, n := s.n + 1 } : Sx)).bind (exT t) := by
      show (step s).bind _ = _
      rw [step_ok (by omega)]; rfl
    have hc : exC (.line l t) s.co = (exL l s.co).bind (exC t) := rfl
    rw [hs, hc]
    cases q : exL l s.co with
    | none => exact ⟨rfl, fun s' e => by cases e⟩
    | some c =>
      obtain ⟨b1, b2⟩ := exT_co t { co := c, n := s.n + 1 } (by show s.n + 1 + sm t ≤ 300; omega)
      refine ⟨b1, fun s' e => ?_⟩
      have z : s'.n ≤ s.n + 1 + sm t := b2 s' e
      show s'.n ≤ s.n + (1 + sm t)
      omega
  | .rep k b t, s, h => by
    have h' : s.n + (1 + k * (1 + sm b) + sm t) ≤ 300 := h
    have hs : exT (.rep k b t) s = (iter (exT b) k { s with n := s.n + 1 }).bind (exT t) := by
      show (step s).bind _ = _
      rw [step_ok (by omega)]; rfl
    have hc : exC (.rep k b t) s.co = (iterC (exC b) k s.co).bind (exC t) := rfl
    rw [hs, hc]
    obtain ⟨a1, a2⟩ := iter_co (f := exT b) (g := exC b) (w := sm b) (fun s2 h2 => exT_co b s2 h2) k { s with n := s.n + 1 } (by show s.n + 1 + k * (1 + sm b) ≤ 300; omega)
    cases q : iter (exT b) k { s with n := s.n + 1 } with
    | none =>
      rw [q] at a1
      have a4 : iterC (exC b) k s.co = none := a1.symm
      rw [a4]
      exact ⟨rfl, fun s' e => by cases e⟩
    | some s1 =>
      rw [q] at a1
      have a3 : s1.n ≤ s.n + 1 + k * (1 + sm b) := a2 s1 q
      have a4 : iterC (exC b) k s.co = some s1.co := a1.symm
      rw [a4]
      obtain ⟨b1, b2⟩ := exT_co t s1 (by omega)
      refine ⟨b1, fun s' e => ?_⟩
      have z := b2 s' e
      show s'.n ≤ s.n + (1 + k * (1 + sm b) + sm t)
      omega
  | .whn o b t, s, h => by
    have h' : s.n + (1 + sm b + sm t) ≤ 300 := h
    have hs : exT (.whn o b t) s = (if s.co.isIn = o then exT b { s with n := s.n + 1 } else some { s with n := s.n + 1 }).bind (exT t) := by
      show (step s).bind _ = _
      rw [step_ok (by omega)]; rfl
    have hc : exC (.whn o b t) s.co = (if s.co.isIn = o then exC b s.co else some s.co).bind (exC t) := rfl
    rw [hs, hc]
    by_cases c : s.co.isIn = o
    · rw [if_pos c, if_pos c]
      obtain ⟨a1, a2⟩ := exT_co b { s with n := s.n + 1 } (by show s.n + 1 + sm b ≤ 300; omega)
      cases q : exT b { s with n := s.n + 1 } with
      | none =>
        rw [q] at a1
        have a4 : exC b s.co = none := a1.symm
        rw [a4]
        exact ⟨rfl, fun s' e => by cases e⟩
      | some s1 =>
        rw [q] at a1
        have a3 : s1.n ≤ s.n + 1 + sm b := a2 s1 q
        have a4 : exC b s.co = some s1.co := a1.symm
        rw [a4]
        obtain ⟨b1, b2⟩ := exT_co t s1 (by omega)
        refine ⟨b1, fun s' e => ?_⟩
        have z := b2 s' e
        show s'.n ≤ s.n + (1 + sm b + sm t)
        omega
    · rw [if_neg c, if_neg c]
      obtain ⟨b1, b2⟩ := exT_co t { s with n := s.n + 1 } (by show s.n + 1 + sm t ≤ 300; omega)
      refine ⟨b1, fun s' e => ?_⟩
      have z : s'.n ≤ s.n + 1 + sm t := b2 s' e
      show s'.n ≤ s.n + (1 + sm b + sm t)
      omega
/-! ### repeats written out -/
theorem exC_app : ∀ (t u : T) (c : Co), exC (app t u) c = (exC t c).bind (exC u)
  | .nil, u, c => rfl
  | .line l t, u, c => by
    show (exL l c).bind (exC (app t u)) = ((exL l c).bind (exC t)).bind (exC u)
    cases exL l c with
    | none => rfl
    | some c1 => exact exC_app t u c1
  | .rep k b t, u, c => by
    show (iterC (exC b) k c).bind (exC (app t u)) = ((iterC (exC b) k c).bind (exC t)).bind (exC u)
    cases iterC (exC b) k c with
    | none => rfl
    | some c1 => exact exC_app t u c1
  | .whn o b t, u, c => by
    show (if c.isIn = o then exC b c else some c).bind (exC (app t u)) = ((if c.isIn = o then exC b c else some c).bind (exC t)).bind (exC u)
    cases (if c.isIn = o then exC b c else some c) with
    | none => rfl
    | some c1 => exact exC_app t u c1
theorem exC_times {b : T} {g : Co → Option Co} (h : ∀ c, exC b c = g c) : ∀ (k : Nat) (c : Co), exC (times b k) c = iterC g k c
  | 0, c => rfl
  | k + 1, c => by
    show exC (app b (times b k)) c = (g c).bind (iterC g k)
    rw [exC_app, h]
    cases g c with
    | none => rfl
    | some c1 => exact exC_times h k c1
theorem exC_rolled : ∀ (t : T) (c : Co), exC (rolled t) c = exC t c
  | .nil, c => rfl
  | .line l t, c => by
    show (exL l c).bind (exC (rolled t)) = (exL l c).bind (exC t)
    cases exL l c with
    | none => rfl
    | some c1 => exact exC_rolled t c1
  | .rep k b t, c => by
    show exC (app (times (rolled b) k) (rolled t)) c = (iterC (exC b) k c).bind (exC t)
    rw [exC_app, exC_times (g := exC b) (fun c2 => exC_rolled b c2)]
    cases iterC (exC b) k c with
    | none => rfl
    | some c1 => exact exC_rolled t c1
  | .whn o b t, c => by
    show (if c.isIn = o then exC (rolled b) c else some c).bind (exC (rolled t)) = (if c.isIn = o then exC b c else some c).bind (exC t)
    rw [exC_rolled b c]
    cases (if c.isIn = o then exC b c else some c) with
    | none => rfl
    | some c1 => exact exC_rolled t c1
/-! ### steps are few -/
theorem nl_app : ∀ t u : T, nl (app t u) = nl t + nl u
  | .nil, u => (Nat.zero_add _).symm
  | .line _ t, u => by show 1 + nl (app t u) = 1 + nl t + nl u; rw [nl_app t u]; omega
  | .rep _ b t, u => by show 2 + nl b + nl (app t u) = 2 + nl b + nl t + nl u; rw [nl_app t u]; omega
  | .whn _ b t, u => by show 2 + nl b + nl (app t u) = 2 + nl b + nl t + nl u; rw [nl_app t u]; omega
theorem nl_times (b : T) : ∀ k, nl (times b k) = k * nl b
  | 0 => (Nat.zero_mul _).symm
  | k + 1 => by show nl (app b (times b k)) = _; rw [nl_app, nl_times b k, Nat.succ_mul]; omega
theorem nl_rolled_rep (k : Nat) (b t : T) : nl (rolled (.rep k b t)) = k * nl (rolled b) + nl (rolled t) := by
  show nl (app (times (rolled b) k) (rolled t)) = _
  rw [nl_app, nl_times]
/-- depth 0 -/
theorem sm0 : ∀ t : T, wf 0 t → sm t = nl (rolled t)
  | .nil, _ => rfl
  | .line _ t, h => by show 1 + sm t = 1 + nl (rolled t); rw [sm0 t h]
  | .rep _ _ _, h => h.elim
  | .whn _ _ _, h => h.elim
theorem mul_le {k a b : Nat} (h : a ≤ b) : k * a ≤ k * b := Nat.mul_le_mul_left k h
theorem width0 : ∀ t : T, wf 0 t → width t = nl (rolled t)
  | .nil, _ => rfl
  | .line _ t, h => by show 1 + width t = 1 + nl (rolled t); rw [width0 t h]
  | .rep _ _ _, h => h.elim
  | .whn _ _ _, h => h.elim
/-- depth 1: blocks have at least one row -/
theorem sm1 : ∀ t : T, wf 1 t → sm t ≤ width t + 2 * nl (rolled t)
  | .nil, _ => Nat.zero_le _
  | .line _ t, h => by
    have z := sm1 t h
    show 1 + sm t ≤ (1 + width t) + 2 * (1 + nl (rolled t))
    omega
  | .rep k b t, h => by
    obtain ⟨hk, hb, h1, hw, ht⟩ := h
    have z := sm1 t ht
    have z0 := sm0 b hb
    have z1 := width0 b hb
    rw [nl_rolled_rep]
    show 1 + k * (1 + sm b) + sm t ≤ (1 + width t) + 2 * (k * nl (rolled b) + nl (rolled t))
    have e1 : k * (1 + sm b) ≤ k * (2 * nl (rolled b)) := mul_le (by omega)
    have e2 : k * (2 * nl (rolled b)) = 2 * (k * nl (rolled b)) := Nat.mul_left_comm _ _ _
    omega
  | .whn o b t, h => by
    obtain ⟨hb, h1, hw, ht⟩ := h
    have z := sm1 t ht
    have z0 := sm0 b hb
    show 1 + sm b + sm t ≤ (1 + width t) + 2 * (2 + nl (rolled b) + nl (rolled t))
    omega
theorem sm2 : ∀ t : T, wf 2 t → sm t ≤ 16 * width t + 2 * nl (rolled t)
  | .nil, _ => Nat.zero_le _
  | .line _ t, h => by
    have z := sm2 t h
    show 1 + sm t ≤ 16 * (1 + width t) + 2 * (1 + nl (rolled t))
    omega
  | .rep k b t, h => by
    obtain ⟨hk, hb, h1, hw, ht⟩ := h
    have z := sm2 t ht
    have z0 := sm1 b hb
    rw [nl_rolled_rep]
    show 1 + k * (1 + sm b) + sm t ≤ 16 * (1 + width t) + 2 * (k * nl (rolled b) + nl (rolled t))
    have e1 : k * (1 + sm b) ≤ k * (5 + 2 * nl (rolled b)) := mul_le (by omega)
    have e2 : k * (5 + 2 * nl (rolled b)) = k * 5 + 2 * (k * nl (rolled b)) := by
      rw [Nat.mul_add, Nat.mul_left_comm]
    omega
  | .whn o b t, h => by
    obtain ⟨hb, h1, hw, ht⟩ := h
    have z := sm2 t ht
    have z0 := sm1 b hb
    show 1 + sm b + sm t ≤ 16 * (1 + width t) + 2 * (2 + nl (rolled b) + nl (rolled t))
    omega
theorem sm_app : ∀ t u : T, sm (app t u) = sm t + sm u
  | .nil, u => (Nat.zero_add _).symm
  | .line _ t, u => by show 1 + sm (app t u) = 1 + sm t + sm u; rw [sm_app t u]; omega
  | .rep k b t, u => by show 1 + k * (1 + sm b) + sm (app t u) = 1 + k * (1 + sm b) + sm t + sm u; rw [sm_app t u]; omega
  | .whn _ b t, u => by show 1 + sm b + sm (app t u) = 1 + sm b + sm t + sm u; rw [sm_app t u]; omega
/-- rows written out: without repeats steps are at most the rows -/
def flat : T → Prop
  | .nil => True
  | .line _ t => flat t
  | .rep _ _ _ => False
  | .whn _ b t => flat b ∧ flat t
theorem flat_app : ∀ {t u : T}, flat t → flat u → flat (app t u)
  | .nil, _, _, h => h
  | .line _ t, _, h, h' => flat_app (t := t) h h'
  | .rep _ _ _, _, h, _ => h.elim
  | .whn _ _ t, _, h, h' => ⟨h.1, flat_app (t := t) h.2 h'⟩
theorem flat_times {b : T} (h : flat b) : ∀ k, flat (times b k)
  | 0 => trivial
  | k + 1 => flat_app h (flat_times h k)
theorem flat_rolled : ∀ t : T, flat (rolled t)
  | .nil => trivial
  | .line _ t => flat_rolled t
  | .rep k b t => flat_app (flat_times (flat_rolled b) k) (flat_rolled t)
  | .whn _ b t => ⟨flat_rolled b, flat_rolled t⟩
theorem sm_flat : ∀ t : T, flat t → sm t ≤ nl t
  | .nil, _ => Nat.le_refl _
  | .line _ t, h => Nat.add_le_add_left (sm_flat t h) 1
  | .rep _ _ _, h => h.elim
  | .whn _ b t, h => by
    have z1 := sm_flat b h.1
    have z2 := sm_flat t h.2
    show 1 + sm b + sm t ≤ 2 + nl b + nl t
    omega
/-! ### what the law asks -/
def co0 : Co := ⟨[], fun _ => none, []⟩
/-- what a script leaves: the rules, the output -/
def res (t : T) : Option (List Ru × List OutLn) := (exT t ⟨co0, 0⟩).map fun s => (s.co.rs, s.co.out)
theorem res_co {t : T} (h : sm t ≤ 300) : res t = (exC t co0).map fun c => (c.rs, c.out) := by
  have z := (exT_co t ⟨co0, 0⟩ (by show 0 + sm t ≤ 300; omega)).1
  show (exT t ⟨co0, 0⟩).map _ = _
  have z' : exC t co0 = (exT t ⟨co0, 0⟩).map (·.co) := z.symm
  rw [z', Option.map_map]
  rfl
/-- a drawn tree -/
structure Dr (t : T) : Prop where
  w2 : wf 2 t
  w4 : width t ≤ 4
  n1 : nl t < 50
  n2 : nl (rolled t) < 50
theorem Dr.few {t : T} (d : Dr t) : sm t ≤ 162 := by
  have z := sm2 t d.w2
  have := d.w4
  have := d.n2
  omega
theorem Dr.rolled_eq {t : T} (d : Dr t) : res (rolled t) = res t := by
  have z := d.few
  have z2 := sm_flat (rolled t) (flat_rolled t)
  have z3 := d.n2
  rw [res_co (by omega), res_co (by omega), exC_rolled]
def tMore : T := .line .run (.line .rules .nil)
def tAgain : T := .rep 0 (.line .drop99 .nil) (.rep 1 (.line .run .nil) .nil)
def tBoth : T := .whn true (.line .run .nil) (.whn false (.line .run .nil) .nil)
theorem Dr.ext {t : T} (d : Dr t) {rs : List Ru} {out : List OutLn} (h : res t = some (rs, out)) :
    ∃ c : Co, c.rs = rs ∧ c.out = out ∧ ∀ u : T, sm u ≤ 100 → res (app t u) = (exC u c).map fun c => (c.rs, c.out) := by
  have z := d.few
  rw [res_co (by omega)] at h
  cases q : exC t co0 with
  | none => rw [q] at h; cases h
  | some c =>
    rw [q] at h
    have h' := Option.some.inj h
    refine ⟨c, congrArg Prod.fst h', congrArg Prod.snd h', fun u hu => ?_⟩
    rw [res_co (by rw [sm_app]; omega), exC_app, q]
    rfl
/-- the three further scripts: one word, one list of numbers -/
theorem Dr.three {t : T} (d : Dr t) {rs : List Ru} {out : List OutLn} (h : res t = some (rs, out)) :
    ∃ (b : Bool) (as : List Nat), res (app t tMore) = some (rs, out ++ [outW b, .asked as]) ∧ res (app t tAgain) = some (rs, out ++ [outW b]) ∧ res (app t tBoth) = some (rs, out ++ [outW b]) := by
  obtain ⟨c, h1, h2, e⟩ := d.ext h
  refine ⟨c.isIn, c.run.2, ?_, ?_, ?_⟩
  · rw [e tMore (by decide), ← h1, ← h2]
    show some (c.rs, (c.out ++ [outW c.isIn]) ++ [.asked c.run.2]) = _
    rw [List.append_assoc]
    rfl
  · rw [e tAgain (by decide), ← h1, ← h2]
    rfl
  · rw [e tBoth (by decide), ← h1, ← h2]
    show ((if c.isIn = true then exC (.line .run .nil) c else some c).bind (exC (.whn false (.line .run .nil) .nil))).map _ = _
    cases q : c.isIn with
    | true =>
      rw [if_pos rfl]
      have q' : ({ c with out := c.out ++ [outW c.isIn] } : Co).isIn = true := q
      have e1 : exC (.line .run .nil) c = some { c with out := c.out ++ [outW c.isIn] } := rfl
      have e2 : exC (.whn false (.line .run .nil) .nil) { c with out := c.out ++ [outW c.isIn] } = some { c with out := c.out ++ [outW c.isIn] } := by
        show (if ({ c with out := c.out ++ [outW c.isIn] } : Co).isIn = false then exC (.line .run .nil) { c with out := c.out ++ [outW c.isIn] } else some { c with out := c.out ++ [outW c.isIn] }).bind (exC .nil) = _
        rw [q', if_neg (by decide)]
        rfl
      rw [e1, Option.bind_some, e2, q]
      rfl
    | false =>
      rw [if_neg Bool.false_ne_true]
      show ((if c.isIn = false then exC (.line .run .nil) c else some c).bind (exC .nil)).map _ = _
      rw [if_pos q]
      show some (c.rs, c.out ++ [outW c.isIn]) = _
      rw [q]
end K68
set_option Elab.async false
set_option linter.all false
set_option maxRecDepth 100000
/-! K68Txt: the text of law k68 by places; what is asked of the head. Printed by gen_txt.py -/
namespace K6
open PySem PySem.Spec PyProof.Rows L2
def top (i : Nat) : Stmt := PySem.Challenge.pw_loginstacks_k68_whole_scripts_rolled_out.main.body.getD i (.Pass ⟨0, 0, 0, 0⟩)
abbrev s_isNumber : Stmt := top 26
abbrev s_isWord : Stmt := top 27
abbrev s_isAction : Stmt := top 28
abbrev s_tableOf : Stmt := top 29
abbrev s_RuleInit : Stmt := inClass (top 30) 0
abbrev s_RuleEq : Stmt := inClass (top 30) 4
abbrev s_RuleAct : Stmt := inClass (top 30) 5
abbrev s_StInit : Stmt := inClass (top 36) 0
abbrev s_StLen : Stmt := inClass (top 36) 4
abbrev s_StGet : Stmt := inClass (top 36) 5
abbrev s_StAdd : Stmt := inClass (top 36) 7
abbrev s_StEq : Stmt := inClass (top 36) 8
abbrev s_StSpl : Stmt := inClass (top 36) 10
abbrev s_stepsOf : Stmt := top 37
abbrev s_firstsOf : Stmt := top 38
abbrev s_RunInit : Stmt := inClass (top 44) 0
abbrev s_RunEnd : Stmt := inClass (top 44) 1
abbrev s_RunOut : Stmt := inClass (top 44) 2
abbrev s_markD : Stmt := top 45
abbrev s_readAct : Stmt := top 48
abbrev s_readCtl : Stmt := top 49
abbrev s_isIndex : Stmt := top 66
abbrev s_isCtl : Stmt := top 67
abbrev s_isRes : Stmt := top 68
abbrev s_isOut : Stmt := top 69
abbrev s_RowInit : Stmt := inClass (top 71) 1
abbrev s_isRow : Stmt := top 72
abbrev s_readScr : Stmt := top 73
abbrev s_MaInit : Stmt := inClass (top 74) 0
abbrev s_MaStep : Stmt := inClass (top 74) 1
abbrev s_MaRun : Stmt := inClass (top 74) 2
abbrev s_MaAll : Stmt := inClass (top 74) 3
abbrev s_MaExe : Stmt := inClass (top 74) 4
abbrev s_MaSpl : Stmt := inClass (top 74) 5
abbrev s_runScr : Stmt := top 75
abbrev s_lTaken : Stmt := top 77
abbrev s_lLine : Stmt := top 78
abbrev s_lTree : Stmt := top 79
abbrev s_lLines : Stmt := top 80
abbrev s_lRolled : Stmt := top 81
abbrev s_lRun : Stmt := top 82
abbrev s_lLaw : Stmt := top 83
abbrev s_XStk : Stmt := inClass (top 4) 0
abbrev s_XExe : Stmt := inClass (top 7) 0
def d_isNumber : He.DefD := ⟨("is_number", none), "is_number", "is_number", defArgs s_isNumber, defBody s_isNumber, defScope s_isNumber, [], []⟩
def d_isWord : He.DefD := ⟨("is_word", none), "is_word", "is_word", defArgs s_isWord, defBody s_isWord, defScope s_isWord, [], []⟩
def d_isAction : He.DefD := ⟨("is_action", none), "is_action", "is_action", defArgs s_isAction, defBody s_isAction, defScope s_isAction, [], []⟩
def d_tableOf : He.DefD := ⟨("table_of", none), "table_of", "table_of", defArgs s_tableOf, defBody s_tableOf, defScope s_tableOf, [], []⟩
def d_RuleInit : He.DefD := ⟨("Rule", some "__init__"), "__init__", "Rule.__init__", defArgs s_RuleInit, defBody s_RuleInit, defScope s_RuleInit, [], []⟩
def d_RuleEq : He.DefD := ⟨("Rule", some "__eq__"), "__eq__", "Rule.__eq__", defArgs s_RuleEq, defBody s_RuleEq, defScope s_RuleEq, [], []⟩
def d_RuleAct : He.DefD := ⟨("Rule", some "action_for"), "action_for", "Rule.action_for", defArgs s_RuleAct, defBody s_RuleAct, defScope s_RuleAct, [], []⟩
def d_StInit : He.DefD := ⟨("Stack", some "__init__"), "__init__", "Stack.__init__", defArgs s_StInit, defBody s_StInit, defScope s_StInit, [], []⟩
def d_StLen : He.DefD := ⟨("Stack", some "__len__"), "__len__", "Stack.__len__", defArgs s_StLen, defBody s_StLen, defScope s_StLen, [], []⟩
def d_StGet : He.DefD := ⟨("Stack", some "__getitem__"), "__getitem__", "Stack.__getitem__", defArgs s_StGet, defBody s_StGet, defScope s_StGet, [], []⟩
def d_StAdd : He.DefD := ⟨("Stack", some "__add__"), "__add__", "Stack.__add__", defArgs s_StAdd, defBody s_StAdd, defScope s_StAdd, [], []⟩
def d_StEq : He.DefD := ⟨("Stack", some "__eq__"), "__eq__", "Stack.__eq__", defArgs s_StEq, defBody s_StEq, defScope s_StEq, [], []⟩
def d_StSpl : He.DefD := ⟨("Stack", some "spliced"), "spliced", "Stack.spliced", defArgs s_StSpl, defBody s_StSpl, defScope s_StSpl, [], []⟩
def d_stepsOf : He.DefD := ⟨("steps_of", none), "steps_of", "steps_of", defArgs s_stepsOf, defBody s_stepsOf, defScope s_stepsOf, [], []⟩
def d_firstsOf : He.DefD := ⟨("firsts_of", none), "firsts_of", "firsts_of", defArgs s_firstsOf, defBody s_firstsOf, defScope s_firstsOf, [], []⟩
def d_RunInit : He.DefD := ⟨("Run", some "__init__"), "__init__", "Run.__init__", defArgs s_RunInit, defBody s_RunInit, defScope s_RunInit, [], []⟩
def d_RunEnd : He.DefD := ⟨("Run", some "ended"), "ended", "Run.ended", defArgs s_RunEnd, defBody s_RunEnd, defScope s_RunEnd, [], []⟩
def d_RunOut : He.DefD := ⟨("Run", some "outcome"), "outcome", "Run.outcome", defArgs s_RunOut, defBody s_RunOut, defScope s_RunOut, [], []⟩
def d_markD : He.DefD := ⟨("marked", none), "marked", "marked", defArgs s_markD, defBody s_markD, defScope s_markD, [], []⟩
def d_readAct : He.DefD := ⟨("read_action", none), "read_action", "read_action", defArgs s_readAct, defBody s_readAct, defScope s_readAct, [], []⟩
def d_readCtl : He.DefD := ⟨("read_control", none), "read_control", "read_control", defArgs s_readCtl, defBody s_readCtl, defScope s_readCtl, [], []⟩
def d_isIndex : He.DefD := ⟨("is_index", none), "is_index", "is_index", defArgs s_isIndex, defBody s_isIndex, defScope s_isIndex, [], []⟩
def d_isCtl : He.DefD := ⟨("is_control", none), "is_control", "is_control", defArgs s_isCtl, defBody s_isCtl, defScope s_isCtl, [], []⟩
def d_isRes : He.DefD := ⟨("is_result", none), "is_result", "is_result", defArgs s_isRes, defBody s_isRes, defScope s_isRes, [], []⟩
def d_isOut : He.DefD := ⟨("is_outcome", none), "is_outcome", "is_outcome", defArgs s_isOut, defBody s_isOut, defScope s_isOut, [], []⟩
def d_RowInit : He.DefD := ⟨("Row", some "__init__"), "__init__", "Row.__init__", defArgs s_RowInit, defBody s_RowInit, defScope s_RowInit, [], []⟩
def d_isRow : He.DefD := ⟨("is_row", none), "is_row", "is_row", defArgs s_isRow, defBody s_isRow, defScope s_isRow, [], []⟩
def d_readScr : He.DefD := ⟨("read_script", none), "read_script", "read_script", defArgs s_readScr, defBody s_readScr, defScope s_readScr, [], []⟩
def d_MaInit : He.DefD := ⟨("Machine", some "__init__"), "__init__", "Machine.__init__", defArgs s_MaInit, defBody s_MaInit, defScope s_MaInit, [], []⟩
def d_MaStep : He.DefD := ⟨("Machine", some "step"), "step", "Machine.step", defArgs s_MaStep, defBody s_MaStep, defScope s_MaStep, [], []⟩
def d_MaRun : He.DefD := ⟨("Machine", some "run"), "run", "Machine.run", defArgs s_MaRun, defBody s_MaRun, defScope s_MaRun, [], []⟩
def d_MaAll : He.DefD := ⟨("Machine", some "execute_all"), "execute_all", "Machine.execute_all", defArgs s_MaAll, defBody s_MaAll, defScope s_MaAll, [], []⟩
def d_MaExe : He.DefD := ⟨("Machine", some "execute"), "execute", "Machine.execute", defArgs s_MaExe, defBody s_MaExe, defScope s_MaExe, [], []⟩
def d_MaSpl : He.DefD := ⟨("Machine", some "splice"), "splice", "Machine.splice", defArgs s_MaSpl, defBody s_MaSpl, defScope s_MaSpl, [], []⟩
def d_runScr : He.DefD := ⟨("run_script", none), "run_script", "run_script", defArgs s_runScr, defBody s_runScr, defScope s_runScr, [], []⟩
def d_lTaken : He.DefD := ⟨("_law_taken", none), "_law_taken", "_law_taken", defArgs s_lTaken, defBody s_lTaken, defScope s_lTaken, [], []⟩
def d_lLine : He.DefD := ⟨("_law_line", none), "_law_line", "_law_line", defArgs s_lLine, defBody s_lLine, defScope s_lLine, [], []⟩
def d_lTree : He.DefD := ⟨("_law_tree", none), "_law_tree", "_law_tree", defArgs s_lTree, defBody s_lTree, defScope s_lTree, [], []⟩
def d_lLines : He.DefD := ⟨("_law_lines", none), "_law_lines", "_law_lines", defArgs s_lLines, defBody s_lLines, defScope s_lLines, [], []⟩
def d_lRolled : He.DefD := ⟨("_law_rolled", none), "_law_rolled", "_law_rolled", defArgs s_lRolled, defBody s_lRolled, defScope s_lRolled, [], []⟩
def d_lRun : He.DefD := ⟨("_law_run", none), "_law_run", "_law_run", defArgs s_lRun, defBody s_lRun, defScope s_lRun, [], []⟩
def d_lLaw : He.DefD := ⟨("law", none), "law", "law", defArgs s_lLaw, defBody s_lLaw, defScope s_lLaw, [], []⟩
def d_XStk : He.DefD := ⟨("InvalidStack", some "__init__"), "__init__", "InvalidStack.__init__", defArgs s_XStk, defBody s_XStk, defScope s_XStk, [], []⟩
def d_XExe : He.DefD := ⟨("ExecutionFailed", some "__init__"), "__init__", "ExecutionFailed.__init__", defArgs s_XExe, defBody s_XExe, defScope s_XExe, [], []⟩
def fnL : List He.DefD := [d_isNumber, d_isWord, d_isAction, d_tableOf, d_RuleInit, d_RuleEq, d_RuleAct, d_StInit, d_StLen, d_StGet, d_StAdd, d_StEq, d_StSpl, d_stepsOf, d_firstsOf, d_RunInit, d_RunEnd, d_RunOut, d_markD, d_readAct, d_readCtl, d_isIndex, d_isCtl, d_isRes, d_isOut, d_RowInit, d_isRow, d_readScr, d_MaInit, d_MaStep, d_MaRun, d_MaAll, d_MaExe, d_MaSpl, d_runScr, d_lTaken, d_lLine, d_lTree, d_lLines, d_lRolled, d_lRun, d_lLaw, d_XStk, d_XExe]
def faL : List He.Fa := [.glo "RESULTS", .glo "ACTIONS", .glo "KINDS", .glo "NONE", .glo "GOOD", .glo "BLOCKS", .glo "FORMS", .glo "StackError", .glo "InvalidStack", .glo "ExecutionFailed", .glo "TooLong", .glo "Rule", .glo "Stack", .glo "Run", .glo "Row", .glo "Machine", .glo "is_number", .glo "is_word", .glo "is_action", .glo "table_of", .glo "steps_of", .glo "firsts_of", .glo "marked", .glo "read_action", .glo "read_control", .glo "is_index", .glo "is_control", .glo "is_result", .glo "is_outcome", .glo "is_row", .glo "read_script", .glo "run_script", .glo "_law_taken", .glo "_law_line", .glo "_law_tree", .glo "_law_lines", .glo "_law_rolled", .glo "_law_run", .glo "law", .int "MOST_JUMP" 9, .int "MOST_LETTERS" 8, .int "MOST_ENTRIES" 12, .int "MOST_RULES" 12, .int "MOST_MODULES" 6, .int "MOST_DEPTH_stacks" 3, .int "MOST_DIGITS" 2, .int "MOST_ROWS" 60, .int "MOST_DEPTH_scripts" 4, .int "MOST_STEPS" 300, .str "SKIP" "skip", .str "OK" "ok", .str "BAD" "bad", .str "DIE" "die", .str "DONE" "done", .str "RESET" "reset", .str "LETTERS" "abcdefghijklmnopqrstuvwxyz", .str "IN" "in", .str "OUT" "out", .str "JUMPS" "123456789", .str "DIGITS" "0123456789", .str "ADD" "add", .str "DROP" "drop", .str "SWAP" "swap", .str "TELL" "tell", .str "RUN" "run", .str "RULES" "rules", .str "REPEAT" "repeat", .str "WHEN" "when", .str "END" "end", .free "isinstance", .free "int", .free "bool", .free "str", .free "len", .free "all", .free "tuple", .free "enumerate", .free "sorted", .free "set", .free "max", .free "range", .free "zip", .cls "Rule", .cls "Stack", .cls "Run", .cls "Machine", .mkr "Rule", .mkr "Stack", .mkr "Run", .mkr "Machine", .mkr "Row", .noat "Rule" "asks", .noat "Rule" "acts", .noat "Stack" "parts", .noat "Stack" "steps", .noat "Stack" "names", .noat "Stack" "depth", .noat "Run" "told", .noat "Run" "asked_rules", .noat "Run" "mark", .noat "Machine" "present", .noat "Machine" "told", .noat "Machine" "output", .noat "Machine" "step_count", .noat "InvalidStack" "index", .noat "ExecutionFailed" "row", .meth "Rule" "__eq__", .meth "Rule" "action_for", .meth "Stack" "__len__", .meth "Stack" "__getitem__", .meth "Stack" "__add__", .meth "Stack" "__eq__", .meth "Stack" "spliced", .meth "Run" "ended", .meth "Run" "outcome", .meth "Machine" "step", .meth "Machine" "run", .meth "Machine" "execute_all", .meth "Machine" "execute", .meth "Machine" "splice", .meth "InvalidStack" "__init__", .meth "ExecutionFailed" "__init__", .exm "InvalidStack" "TooLong" false, .exm "InvalidStack" "ExecutionFailed" false, .exm "InvalidStack" "StackError" true, .exm "ExecutionFailed" "TooLong" false, .exm "ExecutionFailed" "ExecutionFailed" true, .exm "ExecutionFailed" "StackError" true, .keep "InvalidStack", .keep "ExecutionFailed"]
def tsL : List He.Tab := [(fun K => He.ga K "KINDS", ["required", "requisite", "sufficient", "optional"]), (fun K => He.ga K "FORMS", ["add", "drop", "swap", "tell", "run", "rules", "repeat", "when", "end"])]
end K6
set_option Elab.async false
set_option linter.all false
set_option maxRecDepth 100000
/-! K68Hook: the head's facts with the written part laid out ahead of the questions -/
namespace K6
open PySem PySem.Spec PyProof.Rows L2
def frc {α β : Type} : List β → (List β → α) → α
  | [], k => k []
  | x :: r, k => frc r fun r' => k (x :: r')
theorem frc_eq {α β : Type} : ∀ (l : List β) (k : List β → α), frc l k = k l
  | [], _ => rfl
  | x :: r, k => by
    show frc r (fun r' => k (x :: r')) = k (x :: r)
    rw [frc_eq r]
def frcN {α : Type} : List Nat → (List Nat → α) → α
  | [], k => k []
  | x :: r, k => HandSHeadRun.frNat x fun y => frcN r fun r' => k (y :: r')
theorem frcN_eq {α : Type} : ∀ (l : List Nat) (k : List Nat → α), frcN l k = k l
  | [], _ => rfl
  | x :: r, k => by
    show HandSHeadRun.frNat x (fun y => frcN r fun r' => k (y :: r')) = k (x :: r)
    rw [HandSHeadRun.frNat_eq, frcN_eq r]
def asK {α : Type} (g : Addr → Option Obj) : Nat → (List Addr → α) → α
  | 0, k => k [mainGlobals]
  | n + 1, k => asK g n fun as => frcN (He.growD g as) k
theorem asK_eq {α : Type} (g : Addr → Option Obj) : ∀ (n : Nat) (k : List Addr → α), asK g n k = k (He.asD g n)
  | 0, _ => rfl
  | n + 1, k => by
    show asK g n (fun as => frcN (He.growD g as) k) = k (He.growD g (He.asD g n))
    rw [asK_eq g n, frcN_eq]
def obsK (n : Nat) (fa : List He.Fa) (fn : List He.DefD) (ts : List He.Tab) (g : Addr → Option Obj) : He.AlT :=
  asK g n fun as => frc (He.frG g as) fun K => He.obsT fa fn ts K
theorem obsK_eq (n : Nat) (fa : List He.Fa) (fn : List He.DefD) (ts : List He.Tab) (g : Addr → Option Obj) : obsK n fa fn ts g = He.obsTG n fa fn ts g := by
  unfold obsK
  rw [asK_eq, frc_eq]
  rfl
end K6
set_option Elab.async false
set_option linter.all false
set_option maxRecDepth 100000
/-! K68More: further facts of the head, as one Bool, and what they say -/
namespace K6
open PySem PySem.Spec PyProof.Rows L2
open PySem.W (Frag nsIn findIn specialIn takesIn typeIn subIn mroIn keepIn isFn recIn slotIn kitOne notFirst selfFirst noSeq readsIn findCls plainGet plainOver isClsIn hasDictIn codeIn)
abbrev ga := He.ga
abbrev ma := He.ma
/-- what the written dict d of the module has at the key k, if it is an object -/
def dAt (K : Frag) (d k : Str) : Addr := match nsIn K (ga K d) k with
  | some (some (.ref a)) => a
  | _ => 0
/-- the getter of a property of a class -/
def pgA (K : Frag) (C f : Str) : Addr := match recIn K (ma K (ga K C) f) "property" with
  | some (.ref g :: _) => g
  | _ => 0
def tupA (K : Frag) (a : Addr) (vs : List He.Dv) : Bool := match K.lookup a with
  | some ⟨.type c, _, .seq its _, _⟩ => decide (c = "tuple") && (decide (its.size ≤ sizeLine) && He.relAll (vs.map (He.Dv.v K)) its.toList)
  | _ => false
theorem tupA_ok {K : Frag} {a : Addr} {vs : List He.Dv} (h : tupA K a vs = true) (H : Hp) : SqT K H a (vs.map (He.Dv.v K)) := by
  unfold tupA at h
  cases q : K.lookup a with
  | none => rw [q] at h; cases h
  | some o =>
    obtain ⟨oc, od, dt, osl⟩ := o
    rw [q] at h
    cases oc with
    | type c =>
      cases dt with
      | seq its n =>
        obtain ⟨h1, h2⟩ := He.ba (show (decide (c = "tuple") && (decide (its.size ≤ sizeLine) && He.relAll (vs.map (He.Dv.v K)) its.toList)) = true from h)
        obtain ⟨h3, h4⟩ := He.ba h2
        exact .inr ⟨_, its, n, q, congrArg Value.type (of_decide_eq_true h1), rfl, of_decide_eq_true h3, He.relAll_ok h4⟩
      | _ => cases h
    | _ => cases dt <;> cases h
abbrev eqO := He.eqO
def eqV (a b : Option Value) : Bool := decide (a = b)
def eqB (a b : Option Bool) : Bool := decide (a = b)
/-- an entry of a written dict: a tuple -/
def entB (K : Frag) (d k : Str) (vs : List He.Dv) : Bool := eqO (nsIn K (ga K d) k) (some (some (.ref (dAt K d k)))) && tupA K (dAt K d k) vs
theorem entB_ok {K : Frag} {d k : Str} {vs : List He.Dv} (h : entB K d k vs = true) : nsIn K (ga K d) k = some (some (.ref (dAt K d k))) ∧ ∀ H, SqT K H (dAt K d k) (vs.map (He.Dv.v K)) := by
  obtain ⟨h1, h2⟩ := He.ba h
  exact ⟨He.eqO_ok h1, fun H => tupA_ok h2 H⟩
def propB (K : Frag) (C f : Str) : Bool := eqO (findIn K (.ref (ga K C)) f) (some (some (.ref (ma K (ga K C) f)))) && (eqO (specialIn K (.ref (ma K (ga K C) f)) "__get__") (some (some (.builtin "property.__get__"))) &&
  (eqB (takesIn K (.ref (ma K (ga K C) f))) (some true) && (match recIn K (ma K (ga K C) f) "property" with
    | some (v :: _) => decide (v = .ref (pgA K C f))
    | _ => false)))
theorem propB_ok {K : Frag} {C f : Str} (h : propB K C f = true) : PropOf K (ga K C) f (ma K (ga K C) f) (pgA K C f) := by
  obtain ⟨h1, h⟩ := He.ba h
  obtain ⟨h2, h⟩ := He.ba h
  obtain ⟨h3, h4⟩ := He.ba h
  refine ⟨He.eqO_ok h1, He.eqO_ok h2, of_decide_eq_true h3, ?_⟩
  cases q : recIn K (ma K (ga K C) f) "property" with
  | none => rw [q] at h4; cases h4
  | some l =>
    cases l with
    | nil => rw [q] at h4; cases h4
    | cons v r =>
      rw [q] at h4
      have e : v = .ref (pgA K C f) := of_decide_eq_true h4
      exact ⟨r, by rw [e]⟩
def sclB (K : Frag) (C : Str) : Bool := plainGet K (ga K C) Str.empty && (isClsIn K (ga K C) && (plainOver K (ga K C) && eqO (findIn K (.ref (ga K C)) "__setattr__") (some (some (.builtin "object.__setattr__")))))
theorem sclB_ok {K : Frag} {C : Str} (h : sclB K C = true) : SlX.SCls K (ga K C) := by
  obtain ⟨h1, h⟩ := He.ba h
  obtain ⟨h2, h⟩ := He.ba h
  obtain ⟨h3, h4⟩ := He.ba h
  exact ⟨h1, h2, h3, He.eqO_ok h4⟩
def sltB (K : Frag) (C f : Str) (i : Nat) : Bool := eqO (findIn K (.ref (ga K C)) f) (some (some (.ref (ma K (ga K C) f)))) && (eqO (specialIn K (.ref (ma K (ga K C) f)) "__get__") (some (some (.builtin "member_descriptor.__get__"))) &&
  (eqB (takesIn K (.ref (ma K (ga K C) f))) (some true) && (eqV (typeIn K (.ref (ma K (ga K C) f))) (some (.type "member_descriptor")) && (decide (slotIn K (ma K (ga K C) f) (ga K C) = some i) && decide (i < 1000)))))
theorem sltB_ok {K : Frag} {C f : Str} {i : Nat} (h : sltB K C f i = true) : SlX.Slot1 K (ga K C) f (ma K (ga K C) f) i := by
  obtain ⟨h1, h⟩ := He.ba h
  obtain ⟨h2, h⟩ := He.ba h
  obtain ⟨h3, h⟩ := He.ba h
  obtain ⟨h4, h⟩ := He.ba h
  obtain ⟨h5, h6⟩ := He.ba h
  exact ⟨He.eqO_ok h1, He.eqO_ok h2, of_decide_eq_true h3, of_decide_eq_true h4, of_decide_eq_true h5, of_decide_eq_true h6⟩
/-- an exception class with a dict and an own __init__ -/
def oexO (K : Frag) (C : Addr) : Bool := match K.lookup C with
  | some ⟨.type c, _, .cls cd, sl⟩ => decide (c = "type") && (match cd.mro, sl.toList with
    | .ref C' :: bm, [_, _, _, _, some (.builtin n), _] => decide (C' = C) && (decide (n = "ValueError.__new__") && (!cd.hasDel && (cd.hasDict && PySem.HandSPX.refsVE bm)))
    | _, _ => false)
  | _ => false
theorem oexO_ok {K : Frag} {C : Addr} (h : oexO K C = true) : ∃ nm q N bs bm sn sub ab col dd k0 k1 k2 k3 k5, K.lookup C = some (excClassObj nm q C N bs bm true sn sub ab col dd k0 k1 k2 k3 k5 "ValueError.__new__") ∧ PySem.HandSPX.refsVE bm = true := by
  unfold oexO at h
  split at h
  · rename_i c dd cd sl ho
    obtain ⟨hc, h7⟩ := He.ba h
    have hc' : c = "type" := of_decide_eq_true hc
    subst hc'
    clear h hc
    split at h7
    · rename_i C' bm k0 k1 k2 k3 n k5 hm hs
      obtain ⟨h1, h8⟩ := He.ba h7
      obtain ⟨h2, h9⟩ := He.ba h8
      obtain ⟨h3, h10⟩ := He.ba h9
      obtain ⟨h4, h5⟩ := He.ba h10
      clear h7 h8 h9 h10
      have e1 : C' = C := of_decide_eq_true h1
      have e2 : n = "ValueError.__new__" := of_decide_eq_true h2
      subst e1 e2
      obtain ⟨nm, bs, mro, ns, qn, hd, sn, sub, ab, col, del⟩ := cd
      dsimp only at hm h3 h4
      have e3 : del = false := by
        cases del with
        | false => rfl
        | true => cases h3
      subst hm e3 h4
      have hsl : sl = #[k0, k1, k2, k3, some (.builtin "ValueError.__new__"), k5] := by
        obtain ⟨l⟩ := sl
        simp only at hs
        rw [hs]
      subst hsl
      exact ⟨nm, qn, ns, bs, bm, sn, sub, ab, col, dd, k0, k1, k2, k3, k5, ho, h5⟩
    · cases h7
  · cases h
def oexB (K : Frag) (C : Str) : Bool := oexO K (ga K C) && (eqO (findIn K (.ref (ga K C)) "__setattr__") (some (some (.builtin "object.__setattr__"))) && (eqB (subIn K (.ref (ga K C)) (.type "BaseException")) (some true) &&
  (eqV (typeIn K (.ref (ga K C))) (some (.type "type")) && keepIn K (.ref (ga K C)))))
theorem oexB_ok {K : Frag} {C : Str} (h : oexB K C = true) : OexC K (ga K C) := by
  obtain ⟨h1, h⟩ := He.ba h
  obtain ⟨h2, h⟩ := He.ba h
  obtain ⟨h3, h⟩ := He.ba h
  obtain ⟨h4, h5⟩ := He.ba h
  exact ⟨oexO_ok h1, He.eqO_ok h2, of_decide_eq_true h3, of_decide_eq_true h4, h5⟩
/-- StackError.__init__ is ValueError's -/
def baseB (K : Frag) (C : Str) : Bool := readsIn K (ga K C) (.type "type") && (eqO (specialIn K (.ref (ga K C)) "__getattribute__") (some (some (.builtin "type.__getattribute__"))) &&
  (match findCls K (.ref (ga K C)) (.type "type") "__init__" with
    | some (.val v) => decide (v = .builtin "ValueError.__init__")
    | _ => false))
theorem baseB_ok {K : Frag} {C : Str} (h : baseB K C = true) : readsIn K (ga K C) (.type "type") = true ∧ specialIn K (.ref (ga K C)) "__getattribute__" = some (some (.builtin "type.__getattribute__")) ∧
    findCls K (.ref (ga K C)) (.type "type") "__init__" = some (.val (.builtin "ValueError.__init__")) := by
  obtain ⟨h1, h⟩ := He.ba h
  obtain ⟨h2, h3⟩ := He.ba h
  refine ⟨h1, He.eqO_ok h2, ?_⟩
  split at h3
  · rename_i v q
    rw [q, of_decide_eq_true h3]
  · cases h3
/-- what isinstance asks of an own class -/
def insB (K : Frag) (C : Str) : Bool := eqO (findIn K (.ref (ga K C)) "__class__") (some (some (.builtin "object.__class__"))) && (eqO (specialIn K (.builtin "object.__class__") "__get__") (some (some (.builtin "getset_descriptor.__get__"))) &&
  (eqB (takesIn K (.builtin "object.__class__")) (some true) && (eqB (mroIn K (ga K C) (.type "object")) (some true) && eqB (kitOne K (.ref (ga K C)) (.ref (ga K C))) (some true))))
theorem insB_ok {K : Frag} {C : Str} (c : Cls K (ga K C)) (h : insB K C = true) : C8.InsC K (ga K C) := by
  obtain ⟨h1, h⟩ := He.ba h
  obtain ⟨h2, h⟩ := He.ba h
  obtain ⟨h3, h⟩ := He.ba h
  obtain ⟨h4, h5⟩ := He.ba h
  exact ⟨c, He.eqO_ok h1, He.eqO_ok h2, of_decide_eq_true h3, of_decide_eq_true h4, of_decide_eq_true h5⟩
/-- no dict of its own -/
def tupN (K : Frag) (a : Addr) : Bool := match K.lookup a with
  | some ⟨.type c, none, _, _⟩ => decide (c = "tuple")
  | _ => false
theorem tupN_ok {K : Frag} {a : Addr} (h : tupN K a = true) : ∃ o, K.lookup a = some o ∧ o.cls = .type "tuple" ∧ o.dict = none := by
  unfold tupN at h
  cases q : K.lookup a with
  | none => rw [q] at h; cases h
  | some o =>
    obtain ⟨oc, od, dt, osl⟩ := o
    rw [q] at h
    cases oc with
    | type c =>
      cases od with
      | none => exact ⟨_, rfl, congrArg Value.type (of_decide_eq_true h), rfl⟩
      | some _ => cases h
    | _ => cases od <;> cases h
/-- the values of a written dict, in order -/
def valB (K : Frag) (d : Str) (ks : List Str) : Bool := match K.lookup (ga K d) with
  | some ⟨_, _, .dict es _, _⟩ => decide (es.toList.map (fun e => e.val) = ks.map fun k => Value.ref (dAt K d k))
  | _ => false
theorem valB_ok {K : Frag} {d : Str} {ks : List Str} (h : valB K d ks = true) {c : Value} {dd : Option Addr} {es : Array DictEntry} {n : Nat} {sl : Array (Option Value)} (hl : K.lookup (ga K d) = some ⟨c, dd, .dict es n, sl⟩) :
    es.toList.map (fun e => e.val) = ks.map fun k => Value.ref (dAt K d k) := by
  unfold valB at h
  rw [hl] at h
  exact of_decide_eq_true h
/-- the keys of a written dict, in order -/
def keysL : List DictEntry → List Str → Bool
  | [], [] => true
  | e :: es, k :: ks => e.key.isStr k && keysL es ks
  | _, _ => false
def keyB (K : Frag) (d : Str) (ks : List Str) : Bool := match K.lookup (ga K d) with
  | some ⟨_, _, .dict es _, _⟩ => keysL es.toList ks
  | _ => false
theorem keyB_ok {K : Frag} {d : Str} {ks : List Str} (h : keyB K d ks = true) {c : Value} {dd : Option Addr} {es : Array DictEntry} {n : Nat} {sl : Array (Option Value)} (hl : K.lookup (ga K d) = some ⟨c, dd, .dict es n, sl⟩) : keysL es.toList ks = true := by
  unfold keyB at h
  rw [hl] at h
  exact h
/-- all of it, one Bool a row -/
def moreL (K : Frag) : List Bool := [
  tupA K (ga K "RESULTS") [.str "yes", .str "no", .str "skip", .str "gone"],
  tupA K (ga K "ACTIONS") [.str "ok", .str "bad", .str "die", .str "done", .str "ignore", .str "reset"],
  tupA K (ga K "BLOCKS") [.str "repeat", .str "when"],
  tupA K (ga K "NONE") [.str "none", .non],
  tupA K (ga K "GOOD") [.str "good", .non],
  entB K "KINDS" "required" [.str "ok", .str "bad", .str "ignore", .str "bad"],
  entB K "KINDS" "requisite" [.str "ok", .str "die", .str "ignore", .str "die"],
  entB K "KINDS" "sufficient" [.str "done", .str "ignore", .str "ignore", .str "ignore"],
  entB K "KINDS" "optional" [.str "ok", .str "ignore", .str "ignore", .str "ignore"],
  eqO (nsIn K (ga K "KINDS") "1,ok,bad,die") (some none),
  entB K "FORMS" "add" [.glo "is_control", .glo "is_word"],
  entB K "FORMS" "drop" [.glo "is_index"],
  entB K "FORMS" "swap" [.glo "is_index"],
  entB K "FORMS" "tell" [.glo "is_word", .glo "is_result"],
  entB K "FORMS" "run" [],
  entB K "FORMS" "rules" [],
  entB K "FORMS" "repeat" [.glo "is_index"],
  entB K "FORMS" "when" [.glo "is_outcome"],
  entB K "FORMS" "end" [],
  propB K "Stack" "modules",
  sclB K "Row",
  sltB K "Row" "number" 1,
  sltB K "Row" "words" 2,
  sltB K "Row" "block" 0,
  oexB K "InvalidStack",
  oexB K "ExecutionFailed",
  baseB K "StackError",
  insB K "Rule",
  insB K "Stack",
  eqB (kitOne K (.ref (ga K "Rule")) (.ref (ga K "Stack"))) (some false),
  noSeq K (ga K "Stack"),
  selfFirst K (ga K "Stack"),
  eqO (findIn K (.ref (ga K "Stack")) "__ne__") (some (some (.builtin "object.__ne__"))),
  codeIn K (match K.lookup (pgA K "Stack" "modules") with | some ⟨_, _, .func fd, _⟩ => fd.code | _ => .none) "Stack.modules",
  keepIn K (.ref (pgA K "Stack" "modules")),
  eqV (typeIn K (.ref (ma K (ga K "InvalidStack") "__init__"))) (some (.type "function")),
  eqV (typeIn K (.ref (ma K (ga K "ExecutionFailed") "__init__"))) (some (.type "function")),
  tupN K (ga K "RESULTS"),
  valB K "KINDS" ["required", "requisite", "sufficient", "optional"],
  (match K.lookup (pgA K "Stack" "modules") with | some ⟨_, _, .func fd, _⟩ => decide (fd.defaults = Value.none) | _ => false),
  keyB K "KINDS" ["required", "requisite", "sufficient", "optional"]]
def moreB (K : Frag) : Bool := (moreL K).all id
/-- the getter of Stack.modules -/
abbrev s_StMods : Stmt := inClass (top 36) 3
def fnWa (K : Frag) (a : Addr) : He.FnW := match K.lookup a with
  | some ⟨_, _, .func fd, _⟩ => some (fd.name, fd.qualname, fd.params, fd.body, fd.scope, fd.globals, fd.closure, fd.builtins)
  | _ => none
def modsVal : He.FnW := some ("modules", "Stack.modules", defArgs s_StMods, .stmts (defBody s_StMods), defScope s_StMods, mainGlobals, [], builtinsNs)
abbrev AlK : Type := He.AlT × Bool × He.FnW
def obsF (K : Frag) : AlK := (He.obsT faL fnL tsL K, moreB K, fnWa K (pgA K "Stack" "modules"))
def valF (w : World) : AlK := (He.valT fnL tsL w, true, modsVal)
def SaysF (w : World) (K : Frag) : Prop := obsF K = valF w
/-- a function's code object -/
def cdA (g : Addr → Option Obj) (a : Addr) : Addr := match g a with
  | some ⟨_, _, .func fd, _⟩ => (match fd.code with
    | .ref c => c
    | _ => 0)
  | _ => 0
def frF (g : Addr → Option Obj) : Frag := He.frG g (cdA g (pgA (He.frG g (cStatics :: He.asD g 4)) "Stack" "modules") :: cStatics :: He.asD g 4)
def hookF : PySem.W.Hook where
  α := AlK
  obs := fun s => obsF (frF s.heap.get?)
  val := fun w => valF w
  says := fun w h => ∃ K : PySem.W.Frag, K.In h ∧ SaysF w K
  of := fun _ _ e => ⟨_, He.frG_in, e⟩
  keeps := fun _ _ _ ⟨K, hK, c⟩ k => ⟨K, PySem.W.Frag.In.keeps hK k, c⟩
def obK (g : Addr → Option Obj) : AlK := asK g 4 fun as => frc (He.frG g (cStatics :: as)) fun K0 => frc (He.frG g (cdA g (pgA K0 "Stack" "modules") :: cStatics :: as)) fun K => obsF K
theorem obK_eq {g : Addr → Option Obj} {s : Shared} (h : ∀ a, g a = s.heap.get? a) : obK g = hookF.obs s := by
  have e : g = s.heap.get? := funext h
  unfold obK
  rw [asK_eq, frc_eq, frc_eq, e]
  rfl
theorem SaysF.t {w : World} {K : Frag} (c : SaysF w K) : He.SaysT faL fnL tsL w K := congrArg (fun z : AlK => z.1) c
theorem SaysF.more {w : World} {K : Frag} (c : SaysF w K) (i : Nat) {b : Bool} (h : (moreL K)[i]? = some b := by rfl) : b = true := by
  have e : moreB K = true := congrArg (fun z : AlK => z.2.1) c
  exact List.all_eq_true.mp e b (List.mem_of_getElem? h)
theorem SaysF.mods {w : World} {K : Frag} (c : SaysF w K) : fnWa K (pgA K "Stack" "modules") = modsVal := congrArg (fun z : AlK => z.2.2) c
end K6
set_option Elab.async false
set_option linter.all false
set_option maxRecDepth 100000
/-! K68Facts: the head's facts by names; scopes; how arguments bind. Printed by gen_facts.py -/
namespace K6
open PySem PySem.Spec PyProof.Rows L2
structure Tx (w : World) (K : PySem.W.Frag) (mg : Str → Option Value) : Prop where
  c : SaysF w K
  h : ∃ h : Heap, K.In h ∧ h.Ns mainGlobals mg
section
variable {w : World} {K : PySem.W.Frag} {mg : Str → Option Value}
theorem Tx.ge (T : Tx w K mg) (i : Nat) {x : Str} (hi : faL[i]? = some (.glo x)) : mg x = some (.ref (ga K x)) := by
  obtain ⟨_, X, G⟩ := T.h
  exact He.glo_ok X G (T.c.t.d.fact i hi)
theorem Tx.fe (T : Tx w K mg) (i : Nat) {x : Str} (hi : faL[i]? = some (.free x)) : mg x = none := by
  obtain ⟨_, X, G⟩ := T.h
  exact He.free_ok X G (T.c.t.d.fact i hi)
theorem Tx.ie (T : Tx w K mg) (i : Nat) {x : Str} {n : Int} (hi : faL[i]? = some (.int x n)) : ∃ t, mg x = some (.int n t) := by
  obtain ⟨_, X, G⟩ := T.h
  exact He.int_ok X G (T.c.t.d.fact i hi)
theorem Tx.se (T : Tx w K mg) (i : Nat) {x z : Str} (hi : faL[i]? = some (.str x z)) : ∃ t, mg x = some (.str z t) := by
  obtain ⟨_, X, G⟩ := T.h
  exact He.str_ok X G (T.c.t.d.fact i hi)
theorem Tx.g_RESULTS (T : Tx w K mg) : mg "RESULTS" = some (.ref (ga K "RESULTS")) := T.ge 0 rfl
theorem Tx.g_ACTIONS (T : Tx w K mg) : mg "ACTIONS" = some (.ref (ga K "ACTIONS")) := T.ge 1 rfl
theorem Tx.g_KINDS (T : Tx w K mg) : mg "KINDS" = some (.ref (ga K "KINDS")) := T.ge 2 rfl
theorem Tx.g_NONE (T : Tx w K mg) : mg "NONE" = some (.ref (ga K "NONE")) := T.ge 3 rfl
theorem Tx.g_GOOD (T : Tx w K mg) : mg "GOOD" = some (.ref (ga K "GOOD")) := T.ge 4 rfl
theorem Tx.g_BLOCKS (T : Tx w K mg) : mg "BLOCKS" = some (.ref (ga K "BLOCKS")) := T.ge 5 rfl
theorem Tx.g_FORMS (T : Tx w K mg) : mg "FORMS" = some (.ref (ga K "FORMS")) := T.ge 6 rfl
theorem Tx.g_StackError (T : Tx w K mg) : mg "StackError" = some (.ref (ga K "StackError")) := T.ge 7 rfl
theorem Tx.g_InvalidStack (T : Tx w K mg) : mg "InvalidStack" = some (.ref (ga K "InvalidStack")) := T.ge 8 rfl
theorem Tx.g_ExecutionFailed (T : Tx w K mg) : mg "ExecutionFailed" = some (.ref (ga K "ExecutionFailed")) := T.ge 9 rfl
theorem Tx.g_TooLong (T : Tx w K mg) : mg "TooLong" = some (.ref (ga K "TooLong")) := T.ge 10 rfl
theorem Tx.g_Rule (T : Tx w K mg) : mg "Rule" = some (.ref (ga K "Rule")) := T.ge 11 rfl
theorem Tx.g_Stack (T : Tx w K mg) : mg "Stack" = some (.ref (ga K "Stack")) := T.ge 12 rfl
theorem Tx.g_Run (T : Tx w K mg) : mg "Run" = some (.ref (ga K "Run")) := T.ge 13 rfl
theorem Tx.g_Row (T : Tx w K mg) : mg "Row" = some (.ref (ga K "Row")) := T.ge 14 rfl
theorem Tx.g_Machine (T : Tx w K mg) : mg "Machine" = some (.ref (ga K "Machine")) := T.ge 15 rfl
theorem Tx.f_isNumber (T : Tx w K mg) : mg "is_number" = some (.ref (ga K "is_number")) := T.ge 16 rfl
theorem Tx.f_isWord (T : Tx w K mg) : mg "is_word" = some (.ref (ga K "is_word")) := T.ge 17 rfl
theorem Tx.f_isAction (T : Tx w K mg) : mg "is_action" = some (.ref (ga K "is_action")) := T.ge 18 rfl
theorem Tx.f_tableOf (T : Tx w K mg) : mg "table_of" = some (.ref (ga K "table_of")) := T.ge 19 rfl
theorem Tx.f_stepsOf (T : Tx w K mg) : mg "steps_of" = some (.ref (ga K "steps_of")) := T.ge 20 rfl
theorem Tx.f_firstsOf (T : Tx w K mg) : mg "firsts_of" = some (.ref (ga K "firsts_of")) := T.ge 21 rfl
theorem Tx.f_markD (T : Tx w K mg) : mg "marked" = some (.ref (ga K "marked")) := T.ge 22 rfl
theorem Tx.f_readAct (T : Tx w K mg) : mg "read_action" = some (.ref (ga K "read_action")) := T.ge 23 rfl
theorem Tx.f_readCtl (T : Tx w K mg) : mg "read_control" = some (.ref (ga K "read_control")) := T.ge 24 rfl
theorem Tx.f_isIndex (T : Tx w K mg) : mg "is_index" = some (.ref (ga K "is_index")) := T.ge 25 rfl
theorem Tx.f_isCtl (T : Tx w K mg) : mg "is_control" = some (.ref (ga K "is_control")) := T.ge 26 rfl
theorem Tx.f_isRes (T : Tx w K mg) : mg "is_result" = some (.ref (ga K "is_result")) := T.ge 27 rfl
theorem Tx.f_isOut (T : Tx w K mg) : mg "is_outcome" = some (.ref (ga K "is_outcome")) := T.ge 28 rfl
theorem Tx.f_isRow (T : Tx w K mg) : mg "is_row" = some (.ref (ga K "is_row")) := T.ge 29 rfl
theorem Tx.f_readScr (T : Tx w K mg) : mg "read_script" = some (.ref (ga K "read_script")) := T.ge 30 rfl
theorem Tx.f_runScr (T : Tx w K mg) : mg "run_script" = some (.ref (ga K "run_script")) := T.ge 31 rfl
theorem Tx.f_lTaken (T : Tx w K mg) : mg "_law_taken" = some (.ref (ga K "_law_taken")) := T.ge 32 rfl
theorem Tx.f_lLine (T : Tx w K mg) : mg "_law_line" = some (.ref (ga K "_law_line")) := T.ge 33 rfl
theorem Tx.f_lTree (T : Tx w K mg) : mg "_law_tree" = some (.ref (ga K "_law_tree")) := T.ge 34 rfl
theorem Tx.f_lLines (T : Tx w K mg) : mg "_law_lines" = some (.ref (ga K "_law_lines")) := T.ge 35 rfl
theorem Tx.f_lRolled (T : Tx w K mg) : mg "_law_rolled" = some (.ref (ga K "_law_rolled")) := T.ge 36 rfl
theorem Tx.f_lRun (T : Tx w K mg) : mg "_law_run" = some (.ref (ga K "_law_run")) := T.ge 37 rfl
theorem Tx.f_lLaw (T : Tx w K mg) : mg "law" = some (.ref (ga K "law")) := T.ge 38 rfl
theorem Tx.i_MOST_JUMP (T : Tx w K mg) : ∃ t, mg "MOST_JUMP" = some (.int 9 t) := T.ie 39 rfl
theorem Tx.i_MOST_LETTERS (T : Tx w K mg) : ∃ t, mg "MOST_LETTERS" = some (.int 8 t) := T.ie 40 rfl
theorem Tx.i_MOST_ENTRIES (T : Tx w K mg) : ∃ t, mg "MOST_ENTRIES" = some (.int 12 t) := T.ie 41 rfl
theorem Tx.i_MOST_RULES (T : Tx w K mg) : ∃ t, mg "MOST_RULES" = some (.int 12 t) := T.ie 42 rfl
theorem Tx.i_MOST_MODULES (T : Tx w K mg) : ∃ t, mg "MOST_MODULES" = some (.int 6 t) := T.ie 43 rfl
theorem Tx.i_MOST_DEPTH_stacks (T : Tx w K mg) : ∃ t, mg "MOST_DEPTH_stacks" = some (.int 3 t) := T.ie 44 rfl
theorem Tx.i_MOST_DIGITS (T : Tx w K mg) : ∃ t, mg "MOST_DIGITS" = some (.int 2 t) := T.ie 45 rfl
theorem Tx.i_MOST_ROWS (T : Tx w K mg) : ∃ t, mg "MOST_ROWS" = some (.int 60 t) := T.ie 46 rfl
theorem Tx.i_MOST_DEPTH_scripts (T : Tx w K mg) : ∃ t, mg "MOST_DEPTH_scripts" = some (.int 4 t) := T.ie 47 rfl
theorem Tx.i_MOST_STEPS (T : Tx w K mg) : ∃ t, mg "MOST_STEPS" = some (.int 300 t) := T.ie 48 rfl
theorem Tx.s_SKIP (T : Tx w K mg) : ∃ t, mg "SKIP" = some (.str "skip" t) := T.se 49 rfl
theorem Tx.s_OK (T : Tx w K mg) : ∃ t, mg "OK" = some (.str "ok" t) := T.se 50 rfl
theorem Tx.s_BAD (T : Tx w K mg) : ∃ t, mg "BAD" = some (.str "bad" t) := T.se 51 rfl
theorem Tx.s_DIE (T : Tx w K mg) : ∃ t, mg "DIE" = some (.str "die" t) := T.se 52 rfl
theorem Tx.s_DONE (T : Tx w K mg) : ∃ t, mg "DONE" = some (.str "done" t) := T.se 53 rfl
theorem Tx.s_RESET (T : Tx w K mg) : ∃ t, mg "RESET" = some (.str "reset" t) := T.se 54 rfl
theorem Tx.s_LETTERS (T : Tx w K mg) : ∃ t, mg "LETTERS" = some (.str "abcdefghijklmnopqrstuvwxyz" t) := T.se 55 rfl
theorem Tx.s_IN (T : Tx w K mg) : ∃ t, mg "IN" = some (.str "in" t) := T.se 56 rfl
theorem Tx.s_OUT (T : Tx w K mg) : ∃ t, mg "OUT" = some (.str "out" t) := T.se 57 rfl
theorem Tx.s_JUMPS (T : Tx w K mg) : ∃ t, mg "JUMPS" = some (.str "123456789" t) := T.se 58 rfl
theorem Tx.s_DIGITS (T : Tx w K mg) : ∃ t, mg "DIGITS" = some (.str "0123456789" t) := T.se 59 rfl
theorem Tx.s_ADD (T : Tx w K mg) : ∃ t, mg "ADD" = some (.str "add" t) := T.se 60 rfl
theorem Tx.s_DROP (T : Tx w K mg) : ∃ t, mg "DROP" = some (.str "drop" t) := T.se 61 rfl
theorem Tx.s_SWAP (T : Tx w K mg) : ∃ t, mg "SWAP" = some (.str "swap" t) := T.se 62 rfl
theorem Tx.s_TELL (T : Tx w K mg) : ∃ t, mg "TELL" = some (.str "tell" t) := T.se 63 rfl
theorem Tx.s_RUN (T : Tx w K mg) : ∃ t, mg "RUN" = some (.str "run" t) := T.se 64 rfl
theorem Tx.s_RULES (T : Tx w K mg) : ∃ t, mg "RULES" = some (.str "rules" t) := T.se 65 rfl
theorem Tx.s_REPEAT (T : Tx w K mg) : ∃ t, mg "REPEAT" = some (.str "repeat" t) := T.se 66 rfl
theorem Tx.s_WHEN (T : Tx w K mg) : ∃ t, mg "WHEN" = some (.str "when" t) := T.se 67 rfl
theorem Tx.s_END (T : Tx w K mg) : ∃ t, mg "END" = some (.str "end" t) := T.se 68 rfl
theorem Tx.b_isinstance (T : Tx w K mg) : mg "isinstance" = none := T.fe 69 rfl
theorem Tx.b_int (T : Tx w K mg) : mg "int" = none := T.fe 70 rfl
theorem Tx.b_bool (T : Tx w K mg) : mg "bool" = none := T.fe 71 rfl
theorem Tx.b_str (T : Tx w K mg) : mg "str" = none := T.fe 72 rfl
theorem Tx.b_len (T : Tx w K mg) : mg "len" = none := T.fe 73 rfl
theorem Tx.b_all (T : Tx w K mg) : mg "all" = none := T.fe 74 rfl
theorem Tx.b_tuple (T : Tx w K mg) : mg "tuple" = none := T.fe 75 rfl
theorem Tx.b_enumerate (T : Tx w K mg) : mg "enumerate" = none := T.fe 76 rfl
theorem Tx.b_sorted (T : Tx w K mg) : mg "sorted" = none := T.fe 77 rfl
theorem Tx.b_set (T : Tx w K mg) : mg "set" = none := T.fe 78 rfl
theorem Tx.b_max (T : Tx w K mg) : mg "max" = none := T.fe 79 rfl
theorem Tx.b_range (T : Tx w K mg) : mg "range" = none := T.fe 80 rfl
theorem Tx.b_zip (T : Tx w K mg) : mg "zip" = none := T.fe 81 rfl
theorem Tx.c_Rule (T : Tx w K mg) : Cls K (ga K "Rule") := He.cls_ok (T.c.t.d.fact 82 rfl)
theorem Tx.c_Stack (T : Tx w K mg) : Cls K (ga K "Stack") := He.cls_ok (T.c.t.d.fact 83 rfl)
theorem Tx.c_Run (T : Tx w K mg) : Cls K (ga K "Run") := He.cls_ok (T.c.t.d.fact 84 rfl)
theorem Tx.c_Machine (T : Tx w K mg) : Cls K (ga K "Machine") := He.cls_ok (T.c.t.d.fact 85 rfl)
theorem Tx.k_Rule (T : Tx w K mg) : Mk K (ga K "Rule") (ma K (ga K "Rule") "__init__") := He.mkr_ok (T.c.t.d.fact 86 rfl)
theorem Tx.k_Stack (T : Tx w K mg) : Mk K (ga K "Stack") (ma K (ga K "Stack") "__init__") := He.mkr_ok (T.c.t.d.fact 87 rfl)
theorem Tx.k_Run (T : Tx w K mg) : Mk K (ga K "Run") (ma K (ga K "Run") "__init__") := He.mkr_ok (T.c.t.d.fact 88 rfl)
theorem Tx.k_Machine (T : Tx w K mg) : Mk K (ga K "Machine") (ma K (ga K "Machine") "__init__") := He.mkr_ok (T.c.t.d.fact 89 rfl)
theorem Tx.k_Row (T : Tx w K mg) : Mk K (ga K "Row") (ma K (ga K "Row") "__init__") := He.mkr_ok (T.c.t.d.fact 90 rfl)
theorem Tx.n_Rule_asks (T : Tx w K mg) : NoAttr K (ga K "Rule") "asks" := He.noat_ok (T.c.t.d.fact 91 rfl)
theorem Tx.n_Rule_acts (T : Tx w K mg) : NoAttr K (ga K "Rule") "acts" := He.noat_ok (T.c.t.d.fact 92 rfl)
theorem Tx.n_Stack_parts (T : Tx w K mg) : NoAttr K (ga K "Stack") "parts" := He.noat_ok (T.c.t.d.fact 93 rfl)
theorem Tx.n_Stack_steps (T : Tx w K mg) : NoAttr K (ga K "Stack") "steps" := He.noat_ok (T.c.t.d.fact 94 rfl)
theorem Tx.n_Stack_names (T : Tx w K mg) : NoAttr K (ga K "Stack") "names" := He.noat_ok (T.c.t.d.fact 95 rfl)
theorem Tx.n_Stack_depth (T : Tx w K mg) : NoAttr K (ga K "Stack") "depth" := He.noat_ok (T.c.t.d.fact 96 rfl)
theorem Tx.n_Run_told (T : Tx w K mg) : NoAttr K (ga K "Run") "told" := He.noat_ok (T.c.t.d.fact 97 rfl)
theorem Tx.n_Run_asked_rules (T : Tx w K mg) : NoAttr K (ga K "Run") "asked_rules" := He.noat_ok (T.c.t.d.fact 98 rfl)
theorem Tx.n_Run_mark (T : Tx w K mg) : NoAttr K (ga K "Run") "mark" := He.noat_ok (T.c.t.d.fact 99 rfl)
theorem Tx.n_Machine_present (T : Tx w K mg) : NoAttr K (ga K "Machine") "present" := He.noat_ok (T.c.t.d.fact 100 rfl)
theorem Tx.n_Machine_told (T : Tx w K mg) : NoAttr K (ga K "Machine") "told" := He.noat_ok (T.c.t.d.fact 101 rfl)
theorem Tx.n_Machine_output (T : Tx w K mg) : NoAttr K (ga K "Machine") "output" := He.noat_ok (T.c.t.d.fact 102 rfl)
theorem Tx.n_Machine_step_count (T : Tx w K mg) : NoAttr K (ga K "Machine") "step_count" := He.noat_ok (T.c.t.d.fact 103 rfl)
theorem Tx.n_InvalidStack_index (T : Tx w K mg) : NoAttr K (ga K "InvalidStack") "index" := He.noat_ok (T.c.t.d.fact 104 rfl)
theorem Tx.n_ExecutionFailed_row (T : Tx w K mg) : NoAttr K (ga K "ExecutionFailed") "row" := He.noat_ok (T.c.t.d.fact 105 rfl)
theorem Tx.m_Rule___eq__ (T : Tx w K mg) : Meth K (ga K "Rule") "__eq__" (ma K (ga K "Rule") "__eq__") := He.meth_ok (T.c.t.d.fact 106 rfl)
theorem Tx.m_Rule_action_for (T : Tx w K mg) : Meth K (ga K "Rule") "action_for" (ma K (ga K "Rule") "action_for") := He.meth_ok (T.c.t.d.fact 107 rfl)
theorem Tx.m_Stack___len__ (T : Tx w K mg) : Meth K (ga K "Stack") "__len__" (ma K (ga K "Stack") "__len__") := He.meth_ok (T.c.t.d.fact 108 rfl)
theorem Tx.m_Stack___getitem__ (T : Tx w K mg) : Meth K (ga K "Stack") "__getitem__" (ma K (ga K "Stack") "__getitem__") := He.meth_ok (T.c.t.d.fact 109 rfl)
theorem Tx.m_Stack___add__ (T : Tx w K mg) : Meth K (ga K "Stack") "__add__" (ma K (ga K "Stack") "__add__") := He.meth_ok (T.c.t.d.fact 110 rfl)
theorem Tx.m_Stack___eq__ (T : Tx w K mg) : Meth K (ga K "Stack") "__eq__" (ma K (ga K "Stack") "__eq__") := He.meth_ok (T.c.t.d.fact 111 rfl)
theorem Tx.m_Stack_spliced (T : Tx w K mg) : Meth K (ga K "Stack") "spliced" (ma K (ga K "Stack") "spliced") := He.meth_ok (T.c.t.d.fact 112 rfl)
theorem Tx.m_Run_ended (T : Tx w K mg) : Meth K (ga K "Run") "ended" (ma K (ga K "Run") "ended") := He.meth_ok (T.c.t.d.fact 113 rfl)
theorem Tx.m_Run_outcome (T : Tx w K mg) : Meth K (ga K "Run") "outcome" (ma K (ga K "Run") "outcome") := He.meth_ok (T.c.t.d.fact 114 rfl)
theorem Tx.m_Machine_step (T : Tx w K mg) : Meth K (ga K "Machine") "step" (ma K (ga K "Machine") "step") := He.meth_ok (T.c.t.d.fact 115 rfl)
theorem Tx.m_Machine_run (T : Tx w K mg) : Meth K (ga K "Machine") "run" (ma K (ga K "Machine") "run") := He.meth_ok (T.c.t.d.fact 116 rfl)
theorem Tx.m_Machine_execute_all (T : Tx w K mg) : Meth K (ga K "Machine") "execute_all" (ma K (ga K "Machine") "execute_all") := He.meth_ok (T.c.t.d.fact 117 rfl)
theorem Tx.m_Machine_execute (T : Tx w K mg) : Meth K (ga K "Machine") "execute" (ma K (ga K "Machine") "execute") := He.meth_ok (T.c.t.d.fact 118 rfl)
theorem Tx.m_Machine_splice (T : Tx w K mg) : Meth K (ga K "Machine") "splice" (ma K (ga K "Machine") "splice") := He.meth_ok (T.c.t.d.fact 119 rfl)
theorem Tx.m_InvalidStack___init__ (T : Tx w K mg) : Meth K (ga K "InvalidStack") "__init__" (ma K (ga K "InvalidStack") "__init__") := He.meth_ok (T.c.t.d.fact 120 rfl)
theorem Tx.m_ExecutionFailed___init__ (T : Tx w K mg) : Meth K (ga K "ExecutionFailed") "__init__" (ma K (ga K "ExecutionFailed") "__init__") := He.meth_ok (T.c.t.d.fact 121 rfl)
theorem Tx.x_InvalidStack_TooLong (T : Tx w K mg) : PySem.W.exmOne K (.ref (ga K "InvalidStack")) (.ref (ga K "TooLong")) = some false := He.exm_ok (T.c.t.d.fact 122 rfl)
theorem Tx.x_InvalidStack_ExecutionFailed (T : Tx w K mg) : PySem.W.exmOne K (.ref (ga K "InvalidStack")) (.ref (ga K "ExecutionFailed")) = some false := He.exm_ok (T.c.t.d.fact 123 rfl)
theorem Tx.x_InvalidStack_StackError (T : Tx w K mg) : PySem.W.exmOne K (.ref (ga K "InvalidStack")) (.ref (ga K "StackError")) = some true := He.exm_ok (T.c.t.d.fact 124 rfl)
theorem Tx.x_ExecutionFailed_TooLong (T : Tx w K mg) : PySem.W.exmOne K (.ref (ga K "ExecutionFailed")) (.ref (ga K "TooLong")) = some false := He.exm_ok (T.c.t.d.fact 125 rfl)
theorem Tx.x_ExecutionFailed_ExecutionFailed (T : Tx w K mg) : PySem.W.exmOne K (.ref (ga K "ExecutionFailed")) (.ref (ga K "ExecutionFailed")) = some true := He.exm_ok (T.c.t.d.fact 126 rfl)
theorem Tx.x_ExecutionFailed_StackError (T : Tx w K mg) : PySem.W.exmOne K (.ref (ga K "ExecutionFailed")) (.ref (ga K "StackError")) = some true := He.exm_ok (T.c.t.d.fact 127 rfl)
theorem Tx.p_InvalidStack (T : Tx w K mg) : PySem.W.keepIn K (.ref (ga K "InvalidStack")) = true := He.keep_ok (T.c.t.d.fact 128 rfl)
theorem Tx.p_ExecutionFailed (T : Tx w K mg) : PySem.W.keepIn K (.ref (ga K "ExecutionFailed")) = true := He.keep_ok (T.c.t.d.fact 129 rfl)
abbrev FnF (K : PySem.W.Frag) (x qual : Str) (st : Stmt) (f : Addr) : Prop := ∃ fd, FunD K x qual (defArgs st) (defBody st) (defScope st) [] [] f fd
theorem Tx.d_isNumber (T : Tx w K mg) : FnF K "is_number" "is_number" s_isNumber (ga K "is_number") := T.c.t.d.def_ 0 rfl
theorem Tx.d_isWord (T : Tx w K mg) : FnF K "is_word" "is_word" s_isWord (ga K "is_word") := T.c.t.d.def_ 1 rfl
theorem Tx.d_isAction (T : Tx w K mg) : FnF K "is_action" "is_action" s_isAction (ga K "is_action") := T.c.t.d.def_ 2 rfl
theorem Tx.d_tableOf (T : Tx w K mg) : FnF K "table_of" "table_of" s_tableOf (ga K "table_of") := T.c.t.d.def_ 3 rfl
theorem Tx.d_RuleInit (T : Tx w K mg) : FnF K "__init__" "Rule.__init__" s_RuleInit (ma K (ga K "Rule") "__init__") := T.c.t.d.def_ 4 rfl
theorem Tx.d_RuleEq (T : Tx w K mg) : FnF K "__eq__" "Rule.__eq__" s_RuleEq (ma K (ga K "Rule") "__eq__") := T.c.t.d.def_ 5 rfl
theorem Tx.d_RuleAct (T : Tx w K mg) : FnF K "action_for" "Rule.action_for" s_RuleAct (ma K (ga K "Rule") "action_for") := T.c.t.d.def_ 6 rfl
theorem Tx.d_StInit (T : Tx w K mg) : FnF K "__init__" "Stack.__init__" s_StInit (ma K (ga K "Stack") "__init__") := T.c.t.d.def_ 7 rfl
theorem Tx.d_StLen (T : Tx w K mg) : FnF K "__len__" "Stack.__len__" s_StLen (ma K (ga K "Stack") "__len__") := T.c.t.d.def_ 8 rfl
theorem Tx.d_StGet (T : Tx w K mg) : FnF K "__getitem__" "Stack.__getitem__" s_StGet (ma K (ga K "Stack") "__getitem__") := T.c.t.d.def_ 9 rfl
theorem Tx.d_StAdd (T : Tx w K mg) : FnF K "__add__" "Stack.__add__" s_StAdd (ma K (ga K "Stack") "__add__") := T.c.t.d.def_ 10 rfl
theorem Tx.d_StEq (T : Tx w K mg) : FnF K "__eq__" "Stack.__eq__" s_StEq (ma K (ga K "Stack") "__eq__") := T.c.t.d.def_ 11 rfl
theorem Tx.d_StSpl (T : Tx w K mg) : FnF K "spliced" "Stack.spliced" s_StSpl (ma K (ga K "Stack") "spliced") := T.c.t.d.def_ 12 rfl
theorem Tx.d_stepsOf (T : Tx w K mg) : FnF K "steps_of" "steps_of" s_stepsOf (ga K "steps_of") := T.c.t.d.def_ 13 rfl
theorem Tx.d_firstsOf (T : Tx w K mg) : FnF K "firsts_of" "firsts_of" s_firstsOf (ga K "firsts_of") := T.c.t.d.def_ 14 rfl
theorem Tx.d_RunInit (T : Tx w K mg) : FnF K "__init__" "Run.__init__" s_RunInit (ma K (ga K "Run") "__init__") := T.c.t.d.def_ 15 rfl
theorem Tx.d_RunEnd (T : Tx w K mg) : FnF K "ended" "Run.ended" s_RunEnd (ma K (ga K "Run") "ended") := T.c.t.d.def_ 16 rfl
theorem Tx.d_RunOut (T : Tx w K mg) : FnF K "outcome" "Run.outcome" s_RunOut (ma K (ga K "Run") "outcome") := T.c.t.d.def_ 17 rfl
theorem Tx.d_markD (T : Tx w K mg) : FnF K "marked" "marked" s_markD (ga K "marked") := T.c.t.d.def_ 18 rfl
theorem Tx.d_readAct (T : Tx w K mg) : FnF K "read_action" "read_action" s_readAct (ga K "read_action") := T.c.t.d.def_ 19 rfl
theorem Tx.d_readCtl (T : Tx w K mg) : FnF K "read_control" "read_control" s_readCtl (ga K "read_control") := T.c.t.d.def_ 20 rfl
theorem Tx.d_isIndex (T : Tx w K mg) : FnF K "is_index" "is_index" s_isIndex (ga K "is_index") := T.c.t.d.def_ 21 rfl
theorem Tx.d_isCtl (T : Tx w K mg) : FnF K "is_control" "is_control" s_isCtl (ga K "is_control") := T.c.t.d.def_ 22 rfl
theorem Tx.d_isRes (T : Tx w K mg) : FnF K "is_result" "is_result" s_isRes (ga K "is_result") := T.c.t.d.def_ 23 rfl
theorem Tx.d_isOut (T : Tx w K mg) : FnF K "is_outcome" "is_outcome" s_isOut (ga K "is_outcome") := T.c.t.d.def_ 24 rfl
theorem Tx.d_RowInit (T : Tx w K mg) : FnF K "__init__" "Row.__init__" s_RowInit (ma K (ga K "Row") "__init__") := T.c.t.d.def_ 25 rfl
theorem Tx.d_isRow (T : Tx w K mg) : FnF K "is_row" "is_row" s_isRow (ga K "is_row") := T.c.t.d.def_ 26 rfl
theorem Tx.d_readScr (T : Tx w K mg) : FnF K "read_script" "read_script" s_readScr (ga K "read_script") := T.c.t.d.def_ 27 rfl
theorem Tx.d_MaInit (T : Tx w K mg) : FnF K "__init__" "Machine.__init__" s_MaInit (ma K (ga K "Machine") "__init__") := T.c.t.d.def_ 28 rfl
theorem Tx.d_MaStep (T : Tx w K mg) : FnF K "step" "Machine.step" s_MaStep (ma K (ga K "Machine") "step") := T.c.t.d.def_ 29 rfl
theorem Tx.d_MaRun (T : Tx w K mg) : FnF K "run" "Machine.run" s_MaRun (ma K (ga K "Machine") "run") := T.c.t.d.def_ 30 rfl
theorem Tx.d_MaAll (T : Tx w K mg) : FnF K "execute_all" "Machine.execute_all" s_MaAll (ma K (ga K "Machine") "execute_all") := T.c.t.d.def_ 31 rfl
theorem Tx.d_MaExe (T : Tx w K mg) : FnF K "execute" "Machine.execute" s_MaExe (ma K (ga K "Machine") "execute") := T.c.t.d.def_ 32 rfl
theorem Tx.d_MaSpl (T : Tx w K mg) : FnF K "splice" "Machine.splice" s_MaSpl (ma K (ga K "Machine") "splice") := T.c.t.d.def_ 33 rfl
theorem Tx.d_runScr (T : Tx w K mg) : FnF K "run_script" "run_script" s_runScr (ga K "run_script") := T.c.t.d.def_ 34 rfl
theorem Tx.d_lTaken (T : Tx w K mg) : FnF K "_law_taken" "_law_taken" s_lTaken (ga K "_law_taken") := T.c.t.d.def_ 35 rfl
theorem Tx.d_lLine (T : Tx w K mg) : FnF K "_law_line" "_law_line" s_lLine (ga K "_law_line") := T.c.t.d.def_ 36 rfl
theorem Tx.d_lTree (T : Tx w K mg) : FnF K "_law_tree" "_law_tree" s_lTree (ga K "_law_tree") := T.c.t.d.def_ 37 rfl
theorem Tx.d_lLines (T : Tx w K mg) : FnF K "_law_lines" "_law_lines" s_lLines (ga K "_law_lines") := T.c.t.d.def_ 38 rfl
theorem Tx.d_lRolled (T : Tx w K mg) : FnF K "_law_rolled" "_law_rolled" s_lRolled (ga K "_law_rolled") := T.c.t.d.def_ 39 rfl
theorem Tx.d_lRun (T : Tx w K mg) : FnF K "_law_run" "_law_run" s_lRun (ga K "_law_run") := T.c.t.d.def_ 40 rfl
theorem Tx.d_lLaw (T : Tx w K mg) : FnF K "law" "law" s_lLaw (ga K "law") := T.c.t.d.def_ 41 rfl
theorem Tx.d_XStk (T : Tx w K mg) : FnF K "__init__" "InvalidStack.__init__" s_XStk (ma K (ga K "InvalidStack") "__init__") := T.c.t.d.def_ 42 rfl
theorem Tx.d_XExe (T : Tx w K mg) : FnF K "__init__" "ExecutionFailed.__init__" s_XExe (ma K (ga K "ExecutionFailed") "__init__") := T.c.t.d.def_ 43 rfl
theorem Tx.kinds (T : Tx w K mg) : ∃ es n, KDict K w (ga K "KINDS") es n := T.c.t.tab 0 rfl
theorem Tx.forms (T : Tx w K mg) : ∃ es n, KDict K w (ga K "FORMS") es n := T.c.t.tab 1 rfl
theorem Tx.tRES (T : Tx w K mg) (H : Hp) : SqT K H (ga K "RESULTS") [.str "yes", .str "no", .str "skip", .str "gone"] := tupA_ok (T.c.more 0) H
theorem Tx.tACT (T : Tx w K mg) (H : Hp) : SqT K H (ga K "ACTIONS") [.str "ok", .str "bad", .str "die", .str "done", .str "ignore", .str "reset"] := tupA_ok (T.c.more 1) H
theorem Tx.tBLO (T : Tx w K mg) (H : Hp) : SqT K H (ga K "BLOCKS") [.str "repeat", .str "when"] := tupA_ok (T.c.more 2) H
theorem Tx.tNON (T : Tx w K mg) (H : Hp) : SqT K H (ga K "NONE") [.str "none", .non] := tupA_ok (T.c.more 3) H
theorem Tx.tGOO (T : Tx w K mg) (H : Hp) : SqT K H (ga K "GOOD") [.str "good", .non] := tupA_ok (T.c.more 4) H
theorem Tx.k_required (T : Tx w K mg) : PySem.W.nsIn K (ga K "KINDS") "required" = some (some (.ref (dAt K "KINDS" "required"))) ∧ ∀ H, SqT K H (dAt K "KINDS" "required") [.str "ok", .str "bad", .str "ignore", .str "bad"] := entB_ok (vs := [.str "ok", .str "bad", .str "ignore", .str "bad"]) (T.c.more 5)
theorem Tx.k_requisite (T : Tx w K mg) : PySem.W.nsIn K (ga K "KINDS") "requisite" = some (some (.ref (dAt K "KINDS" "requisite"))) ∧ ∀ H, SqT K H (dAt K "KINDS" "requisite") [.str "ok", .str "die", .str "ignore", .str "die"] := entB_ok (vs := [.str "ok", .str "die", .str "ignore", .str "die"]) (T.c.more 6)
theorem Tx.k_sufficient (T : Tx w K mg) : PySem.W.nsIn K (ga K "KINDS") "sufficient" = some (some (.ref (dAt K "KINDS" "sufficient"))) ∧ ∀ H, SqT K H (dAt K "KINDS" "sufficient") [.str "done", .str "ignore", .str "ignore", .str "ignore"] := entB_ok (vs := [.str "done", .str "ignore", .str "ignore", .str "ignore"]) (T.c.more 7)
theorem Tx.k_optional (T : Tx w K mg) : PySem.W.nsIn K (ga K "KINDS") "optional" = some (some (.ref (dAt K "KINDS" "optional"))) ∧ ∀ H, SqT K H (dAt K "KINDS" "optional") [.str "ok", .str "ignore", .str "ignore", .str "ignore"] := entB_ok (vs := [.str "ok", .str "ignore", .str "ignore", .str "ignore"]) (T.c.more 8)
theorem Tx.k_mix (T : Tx w K mg) : PySem.W.nsIn K (ga K "KINDS") "1,ok,bad,die" = some none := He.eqO_ok (T.c.more 9)
theorem Tx.o_add (T : Tx w K mg) : PySem.W.nsIn K (ga K "FORMS") "add" = some (some (.ref (dAt K "FORMS" "add"))) ∧ ∀ H, SqT K H (dAt K "FORMS" "add") [.ref (ga K "is_control"), .ref (ga K "is_word")] := entB_ok (vs := [.glo "is_control", .glo "is_word"]) (T.c.more 10)
theorem Tx.o_drop (T : Tx w K mg) : PySem.W.nsIn K (ga K "FORMS") "drop" = some (some (.ref (dAt K "FORMS" "drop"))) ∧ ∀ H, SqT K H (dAt K "FORMS" "drop") [.ref (ga K "is_index")] := entB_ok (vs := [.glo "is_index"]) (T.c.more 11)
theorem Tx.o_swap (T : Tx w K mg) : PySem.W.nsIn K (ga K "FORMS") "swap" = some (some (.ref (dAt K "FORMS" "swap"))) ∧ ∀ H, SqT K H (dAt K "FORMS" "swap") [.ref (ga K "is_index")] := entB_ok (vs := [.glo "is_index"]) (T.c.more 12)
theorem Tx.o_tell (T : Tx w K mg) : PySem.W.nsIn K (ga K "FORMS") "tell" = some (some (.ref (dAt K "FORMS" "tell"))) ∧ ∀ H, SqT K H (dAt K "FORMS" "tell") [.ref (ga K "is_word"), .ref (ga K "is_result")] := entB_ok (vs := [.glo "is_word", .glo "is_result"]) (T.c.more 13)
theorem Tx.o_run (T : Tx w K mg) : PySem.W.nsIn K (ga K "FORMS") "run" = some (some (.ref (dAt K "FORMS" "run"))) ∧ ∀ H, SqT K H (dAt K "FORMS" "run") [] := entB_ok (vs := []) (T.c.more 14)
theorem Tx.o_rules (T : Tx w K mg) : PySem.W.nsIn K (ga K "FORMS") "rules" = some (some (.ref (dAt K "FORMS" "rules"))) ∧ ∀ H, SqT K H (dAt K "FORMS" "rules") [] := entB_ok (vs := []) (T.c.more 15)
theorem Tx.o_repeat (T : Tx w K mg) : PySem.W.nsIn K (ga K "FORMS") "repeat" = some (some (.ref (dAt K "FORMS" "repeat"))) ∧ ∀ H, SqT K H (dAt K "FORMS" "repeat") [.ref (ga K "is_index")] := entB_ok (vs := [.glo "is_index"]) (T.c.more 16)
theorem Tx.o_when (T : Tx w K mg) : PySem.W.nsIn K (ga K "FORMS") "when" = some (some (.ref (dAt K "FORMS" "when"))) ∧ ∀ H, SqT K H (dAt K "FORMS" "when") [.ref (ga K "is_outcome")] := entB_ok (vs := [.glo "is_outcome"]) (T.c.more 17)
theorem Tx.o_end (T : Tx w K mg) : PySem.W.nsIn K (ga K "FORMS") "end" = some (some (.ref (dAt K "FORMS" "end"))) ∧ ∀ H, SqT K H (dAt K "FORMS" "end") [] := entB_ok (vs := []) (T.c.more 18)
theorem Tx.pMods (T : Tx w K mg) : PropOf K (ga K "Stack") "modules" (ma K (ga K "Stack") "modules") (pgA K "Stack" "modules") := propB_ok (T.c.more 19)
theorem Tx.cRow (T : Tx w K mg) : SlX.SCls K (ga K "Row") := sclB_ok (T.c.more 20)
theorem Tx.sNum (T : Tx w K mg) : SlX.Slot1 K (ga K "Row") "number" (ma K (ga K "Row") "number") 1 := sltB_ok (T.c.more 21)
theorem Tx.sWor (T : Tx w K mg) : SlX.Slot1 K (ga K "Row") "words" (ma K (ga K "Row") "words") 2 := sltB_ok (T.c.more 22)
theorem Tx.sBlo (T : Tx w K mg) : SlX.Slot1 K (ga K "Row") "block" (ma K (ga K "Row") "block") 0 := sltB_ok (T.c.more 23)
theorem Tx.oStk (T : Tx w K mg) : OexC K (ga K "InvalidStack") := oexB_ok (T.c.more 24)
theorem Tx.oExe (T : Tx w K mg) : OexC K (ga K "ExecutionFailed") := oexB_ok (T.c.more 25)
theorem Tx.base (T : Tx w K mg) : PySem.W.readsIn K (ga K "StackError") (.type "type") = true ∧ PySem.W.specialIn K (.ref (ga K "StackError")) "__getattribute__" = some (some (.builtin "type.__getattribute__")) ∧
    PySem.W.findCls K (.ref (ga K "StackError")) (.type "type") "__init__" = some (.val (.builtin "ValueError.__init__")) := baseB_ok (T.c.more 26)
theorem Tx.iRule (T : Tx w K mg) : C8.InsC K (ga K "Rule") := insB_ok T.c_Rule (T.c.more 27)
theorem Tx.iStack (T : Tx w K mg) : C8.InsC K (ga K "Stack") := insB_ok T.c_Stack (T.c.more 28)
theorem Tx.iNot (T : Tx w K mg) : PySem.W.kitOne K (.ref (ga K "Rule")) (.ref (ga K "Stack")) = some false := of_decide_eq_true (T.c.more 29)
theorem Tx.noSeq (T : Tx w K mg) : PySem.W.noSeq K (ga K "Stack") = true := T.c.more 30
theorem Tx.selfF (T : Tx w K mg) : PySem.W.selfFirst K (ga K "Stack") = true := T.c.more 31
theorem Tx.ne (T : Tx w K mg) : PySem.W.findIn K (.ref (ga K "Stack")) "__ne__" = some (some (.builtin "object.__ne__")) := He.eqO_ok (T.c.more 32)
theorem Tx.tiStk (T : Tx w K mg) : PySem.W.typeIn K (.ref (ma K (ga K "InvalidStack") "__init__")) = some (.type "function") := of_decide_eq_true (T.c.more 35)
theorem Tx.tiExe (T : Tx w K mg) : PySem.W.typeIn K (.ref (ma K (ga K "ExecutionFailed") "__init__")) = some (.type "function") := of_decide_eq_true (T.c.more 36)
theorem Tx.tupRES (T : Tx w K mg) : ∃ o, K.lookup (ga K "RESULTS") = some o ∧ o.cls = .type "tuple" ∧ o.dict = none := tupN_ok (T.c.more 37)
theorem Tx.kindVals (T : Tx w K mg) {c : Value} {dd : Option Addr} {es : Array DictEntry} {n : Nat} {sl : Array (Option Value)} (hl : K.lookup (ga K "KINDS") = some ⟨c, dd, .dict es n, sl⟩) :
    es.toList.map (fun e => e.val) = [.ref (dAt K "KINDS" "required"), .ref (dAt K "KINDS" "requisite"), .ref (dAt K "KINDS" "sufficient"), .ref (dAt K "KINDS" "optional")] := valB_ok (ks := ["required", "requisite", "sufficient", "optional"]) (T.c.more 38) hl
theorem Tx.kindKeys (T : Tx w K mg) {c : Value} {dd : Option Addr} {es : Array DictEntry} {n : Nat} {sl : Array (Option Value)} (hl : K.lookup (ga K "KINDS") = some ⟨c, dd, .dict es n, sl⟩) : keysL es.toList ["required", "requisite", "sufficient", "optional"] = true := keyB_ok (T.c.more 40) hl
/-- the getter of Stack.modules -/
theorem Tx.d_StMods (T : Tx w K mg) : ∃ oc od osl kV doc pm an cdv ct, K.lookup (pgA K "Stack" "modules") = some ⟨oc, od, .func (PySem.W.fnOf "modules" "Stack.modules" (defArgs s_StMods) (defBody s_StMods) (defScope s_StMods) .none kV doc pm an cdv ct), osl⟩ ∧ PySem.W.codeIn K cdv "Stack.modules" = true := by
  have e := T.c.mods
  have c := T.c.more 33 rfl
  have dd := T.c.more 39 rfl
  unfold fnWa at e
  cases q : K.lookup (pgA K "Stack" "modules") with
  | none =>
    rw [q] at e
    cases e
  | some o =>
    obtain ⟨oc, od, dt, osl⟩ := o
    rw [q] at e c dd
    cases dt with
    | func fd =>
      obtain ⟨n1, n2, n3, n4, n5, n6, n7, n8, n9, n10, n11, n12, n13, n14, n15⟩ := fd
      have e2 : (some (n1, n2, n3, n4, n5, n6, n7, n15) : He.FnW) = modsVal := e
      unfold modsVal at e2
      simp only [Option.some.injEq, Prod.mk.injEq] at e2
      obtain ⟨h1, h2, h3, h4, h5, h6, h7, h8⟩ := e2
      subst h1 h2 h3 h4 h5 h6 h7 h8
      obtain rfl : n8 = Value.none := of_decide_eq_true dd
      exact ⟨oc, od, osl, n9, n10, n11, n12, n13, n14, rfl, c⟩
    | _ => cases e
end
/-! ### scopes, bindings -/
theorem sc_isNumber : FnScope ["thing", "low", "high"] ["thing", "low", "high"] (defScope s_isNumber) := ⟨rfl, rfl, rfl, by decide +kernel, rfl, by decide +kernel, by decide +kernel⟩
theorem bi_isNumber : ∀ (kV doc pm : Value) (an : Option Addr) (cdv ct : Value) (us : List Value), us.length = (["thing", "low", "high"] : List Str).length → bindArgs (PySem.W.fnOf "is_number" "is_number" (defArgs s_isNumber) (defBody s_isNumber) (defScope s_isNumber) .none kV doc pm an cdv ct) ⟨us, []⟩ = pure ((["thing", "low", "high"] : List Str).zip us) := fun _ _ _ _ _ _ us hl => match us, hl with | [_, _, _], _ => rfl
theorem sc_isWord : FnScope ["thing", "letter"] ["thing"] (defScope s_isWord) := ⟨rfl, rfl, rfl, by decide +kernel, rfl, by decide +kernel, by decide +kernel⟩
theorem bi_isWord : ∀ (kV doc pm : Value) (an : Option Addr) (cdv ct : Value) (us : List Value), us.length = (["thing"] : List Str).length → bindArgs (PySem.W.fnOf "is_word" "is_word" (defArgs s_isWord) (defBody s_isWord) (defScope s_isWord) .none kV doc pm an cdv ct) ⟨us, []⟩ = pure ((["thing"] : List Str).zip us) := fun _ _ _ _ _ _ us hl => match us, hl with | [_], _ => rfl
theorem sc_isAction : FnScope ["thing"] ["thing"] (defScope s_isAction) := ⟨rfl, rfl, rfl, by decide +kernel, rfl, by decide +kernel, by decide +kernel⟩
theorem bi_isAction : ∀ (kV doc pm : Value) (an : Option Addr) (cdv ct : Value) (us : List Value), us.length = (["thing"] : List Str).length → bindArgs (PySem.W.fnOf "is_action" "is_action" (defArgs s_isAction) (defBody s_isAction) (defScope s_isAction) .none kV doc pm an cdv ct) ⟨us, []⟩ = pure ((["thing"] : List Str).zip us) := fun _ _ _ _ _ _ us hl => match us, hl with | [_], _ => rfl
theorem sc_tableOf : FnScope ["control", "one"] ["control"] (defScope s_tableOf) := ⟨rfl, rfl, rfl, by decide +kernel, rfl, by decide +kernel, by decide +kernel⟩
theorem bi_tableOf : ∀ (kV doc pm : Value) (an : Option Addr) (cdv ct : Value) (us : List Value), us.length = (["control"] : List Str).length → bindArgs (PySem.W.fnOf "table_of" "table_of" (defArgs s_tableOf) (defBody s_tableOf) (defScope s_tableOf) .none kV doc pm an cdv ct) ⟨us, []⟩ = pure ((["control"] : List Str).zip us) := fun _ _ _ _ _ _ us hl => match us, hl with | [_], _ => rfl
theorem sc_RuleInit : FnScope ["self", "module", "control"] ["self", "module", "control"] (defScope s_RuleInit) := ⟨rfl, rfl, rfl, by decide +kernel, rfl, by decide +kernel, by decide +kernel⟩
theorem bi_RuleInit : ∀ (kV doc pm : Value) (an : Option Addr) (cdv ct : Value) (us : List Value), us.length = (["self", "module", "control"] : List Str).length → bindArgs (PySem.W.fnOf "__init__" "Rule.__init__" (defArgs s_RuleInit) (defBody s_RuleInit) (defScope s_RuleInit) .none kV doc pm an cdv ct) ⟨us, []⟩ = pure ((["self", "module", "control"] : List Str).zip us) := fun _ _ _ _ _ _ us hl => match us, hl with | [_, _, _], _ => rfl
theorem sc_RuleEq : FnScope ["self", "other"] ["self", "other"] (defScope s_RuleEq) := ⟨rfl, rfl, rfl, by decide +kernel, rfl, by decide +kernel, by decide +kernel⟩
theorem bi_RuleEq : ∀ (kV doc pm : Value) (an : Option Addr) (cdv ct : Value) (us : List Value), us.length = (["self", "other"] : List Str).length → bindArgs (PySem.W.fnOf "__eq__" "Rule.__eq__" (defArgs s_RuleEq) (defBody s_RuleEq) (defScope s_RuleEq) .none kV doc pm an cdv ct) ⟨us, []⟩ = pure ((["self", "other"] : List Str).zip us) := fun _ _ _ _ _ _ us hl => match us, hl with | [_, _], _ => rfl
theorem sc_RuleAct : FnScope ["self", "result"] ["self", "result"] (defScope s_RuleAct) := ⟨rfl, rfl, rfl, by decide +kernel, rfl, by decide +kernel, by decide +kernel⟩
theorem bi_RuleAct : ∀ (kV doc pm : Value) (an : Option Addr) (cdv ct : Value) (us : List Value), us.length = (["self", "result"] : List Str).length → bindArgs (PySem.W.fnOf "action_for" "Rule.action_for" (defArgs s_RuleAct) (defBody s_RuleAct) (defScope s_RuleAct) .none kV doc pm an cdv ct) ⟨us, []⟩ = pure ((["self", "result"] : List Str).zip us) := fun _ _ _ _ _ _ us hl => match us, hl with | [_, _], _ => rfl
theorem sc_StInit : FnScope ["self", "entries", "index", "entry", "is_stack", "rule"] ["self", "entries"] (defScope s_StInit) := ⟨rfl, rfl, rfl, by decide +kernel, rfl, by decide +kernel, by decide +kernel⟩
theorem sc_StLen : FnScope ["self"] ["self"] (defScope s_StLen) := ⟨rfl, rfl, rfl, by decide +kernel, rfl, by decide +kernel, by decide +kernel⟩
theorem bi_StLen : ∀ (kV doc pm : Value) (an : Option Addr) (cdv ct : Value) (us : List Value), us.length = (["self"] : List Str).length → bindArgs (PySem.W.fnOf "__len__" "Stack.__len__" (defArgs s_StLen) (defBody s_StLen) (defScope s_StLen) .none kV doc pm an cdv ct) ⟨us, []⟩ = pure ((["self"] : List Str).zip us) := fun _ _ _ _ _ _ us hl => match us, hl with | [_], _ => rfl
theorem sc_StGet : FnScope ["self", "index"] ["self", "index"] (defScope s_StGet) := ⟨rfl, rfl, rfl, by decide +kernel, rfl, by decide +kernel, by decide +kernel⟩
theorem bi_StGet : ∀ (kV doc pm : Value) (an : Option Addr) (cdv ct : Value) (us : List Value), us.length = (["self", "index"] : List Str).length → bindArgs (PySem.W.fnOf "__getitem__" "Stack.__getitem__" (defArgs s_StGet) (defBody s_StGet) (defScope s_StGet) .none kV doc pm an cdv ct) ⟨us, []⟩ = pure ((["self", "index"] : List Str).zip us) := fun _ _ _ _ _ _ us hl => match us, hl with | [_, _], _ => rfl
theorem sc_StAdd : FnScope ["self", "other", "parts"] ["self", "other"] (defScope s_StAdd) := ⟨rfl, rfl, rfl, by decide +kernel, rfl, by decide +kernel, by decide +kernel⟩
theorem bi_StAdd : ∀ (kV doc pm : Value) (an : Option Addr) (cdv ct : Value) (us : List Value), us.length = (["self", "other"] : List Str).length → bindArgs (PySem.W.fnOf "__add__" "Stack.__add__" (defArgs s_StAdd) (defBody s_StAdd) (defScope s_StAdd) .none kV doc pm an cdv ct) ⟨us, []⟩ = pure ((["self", "other"] : List Str).zip us) := fun _ _ _ _ _ _ us hl => match us, hl with | [_, _], _ => rfl
theorem sc_StEq : FnScope ["self", "other"] ["self", "other"] (defScope s_StEq) := ⟨rfl, rfl, rfl, by decide +kernel, rfl, by decide +kernel, by decide +kernel⟩
theorem bi_StEq : ∀ (kV doc pm : Value) (an : Option Addr) (cdv ct : Value) (us : List Value), us.length = (["self", "other"] : List Str).length → bindArgs (PySem.W.fnOf "__eq__" "Stack.__eq__" (defArgs s_StEq) (defBody s_StEq) (defScope s_StEq) .none kV doc pm an cdv ct) ⟨us, []⟩ = pure ((["self", "other"] : List Str).zip us) := fun _ _ _ _ _ _ us hl => match us, hl with | [_, _], _ => rfl
theorem sc_StSpl : FnScope ["self", "index", "count", "entries", "parts"] ["self", "index", "count", "entries"] (defScope s_StSpl) := ⟨rfl, rfl, rfl, by decide +kernel, rfl, by decide +kernel, by decide +kernel⟩
theorem bi_StSpl : ∀ (kV doc pm : Value) (an : Option Addr) (cdv ct : Value) (us : List Value), us.length = (["self", "index", "count", "entries"] : List Str).length → bindArgs (PySem.W.fnOf "spliced" "Stack.spliced" (defArgs s_StSpl) (defBody s_StSpl) (defScope s_StSpl) .none kV doc pm an cdv ct) ⟨us, []⟩ = pure ((["self", "index", "count", "entries"] : List Str).zip us) := fun _ _ _ _ _ _ us hl => match us, hl with | [_, _, _, _], _ => rfl
theorem sc_stepsOf : FnScope ["entry"] ["entry"] (defScope s_stepsOf) := ⟨rfl, rfl, rfl, by decide +kernel, rfl, by decide +kernel, by decide +kernel⟩
theorem bi_stepsOf : ∀ (kV doc pm : Value) (an : Option Addr) (cdv ct : Value) (us : List Value), us.length = (["entry"] : List Str).length → bindArgs (PySem.W.fnOf "steps_of" "steps_of" (defArgs s_stepsOf) (defBody s_stepsOf) (defScope s_stepsOf) .none kV doc pm an cdv ct) ⟨us, []⟩ = pure ((["entry"] : List Str).zip us) := fun _ _ _ _ _ _ us hl => match us, hl with | [_], _ => rfl
theorem sc_firstsOf : FnScope ["stack", "first", "found", "entry"] ["stack", "first"] (defScope s_firstsOf) := ⟨rfl, rfl, rfl, by decide +kernel, rfl, by decide +kernel, by decide +kernel⟩
theorem bi_firstsOf : ∀ (kV doc pm : Value) (an : Option Addr) (cdv ct : Value) (us : List Value), us.length = (["stack", "first"] : List Str).length → bindArgs (PySem.W.fnOf "firsts_of" "firsts_of" (defArgs s_firstsOf) (defBody s_firstsOf) (defScope s_firstsOf) .none kV doc pm an cdv ct) ⟨us, []⟩ = pure ((["stack", "first"] : List Str).zip us) := fun _ _ _ _ _ _ us hl => match us, hl with | [_, _], _ => rfl
theorem sc_RunInit : FnScope ["self", "stack", "results"] ["self", "stack", "results"] (defScope s_RunInit) := ⟨rfl, rfl, rfl, by decide +kernel, rfl, by decide +kernel, by decide +kernel⟩
theorem bi_RunInit : ∀ (kV doc pm : Value) (an : Option Addr) (cdv ct : Value) (us : List Value), us.length = (["self", "stack", "results"] : List Str).length → bindArgs (PySem.W.fnOf "__init__" "Run.__init__" (defArgs s_RunInit) (defBody s_RunInit) (defScope s_RunInit) .none kV doc pm an cdv ct) ⟨us, []⟩ = pure ((["self", "stack", "results"] : List Str).zip us) := fun _ _ _ _ _ _ us hl => match us, hl with | [_, _, _], _ => rfl
theorem sc_RunEnd : FnScope ["self", "stack", "first", "mark", "begin", "index", "firsts", "entry", "number", "action"] ["self", "stack", "first", "mark"] (defScope s_RunEnd) := ⟨rfl, rfl, rfl, by decide +kernel, rfl, by decide +kernel, by decide +kernel⟩
theorem bi_RunEnd : ∀ (kV doc pm : Value) (an : Option Addr) (cdv ct : Value) (us : List Value), us.length = (["self", "stack", "first", "mark"] : List Str).length → bindArgs (PySem.W.fnOf "ended" "Run.ended" (defArgs s_RunEnd) (defBody s_RunEnd) (defScope s_RunEnd) .none kV doc pm an cdv ct) ⟨us, []⟩ = pure ((["self", "stack", "first", "mark"] : List Str).zip us) := fun _ _ _ _ _ _ us hl => match us, hl with | [_, _, _, _], _ => rfl
theorem sc_RunOut : FnScope ["self"] ["self"] (defScope s_RunOut) := ⟨rfl, rfl, rfl, by decide +kernel, rfl, by decide +kernel, by decide +kernel⟩
theorem bi_RunOut : ∀ (kV doc pm : Value) (an : Option Addr) (cdv ct : Value) (us : List Value), us.length = (["self"] : List Str).length → bindArgs (PySem.W.fnOf "outcome" "Run.outcome" (defArgs s_RunOut) (defBody s_RunOut) (defScope s_RunOut) .none kV doc pm an cdv ct) ⟨us, []⟩ = pure ((["self"] : List Str).zip us) := fun _ _ _ _ _ _ us hl => match us, hl with | [_], _ => rfl
theorem sc_markD : FnScope ["action", "mark", "begin", "number"] ["action", "mark", "begin", "number"] (defScope s_markD) := ⟨rfl, rfl, rfl, by decide +kernel, rfl, by decide +kernel, by decide +kernel⟩
theorem bi_markD : ∀ (kV doc pm : Value) (an : Option Addr) (cdv ct : Value) (us : List Value), us.length = (["action", "mark", "begin", "number"] : List Str).length → bindArgs (PySem.W.fnOf "marked" "marked" (defArgs s_markD) (defBody s_markD) (defScope s_markD) .none kV doc pm an cdv ct) ⟨us, []⟩ = pure ((["action", "mark", "begin", "number"] : List Str).zip us) := fun _ _ _ _ _ _ us hl => match us, hl with | [_, _, _, _], _ => rfl
theorem sc_readAct : FnScope ["word"] ["word"] (defScope s_readAct) := ⟨rfl, rfl, rfl, by decide +kernel, rfl, by decide +kernel, by decide +kernel⟩
theorem bi_readAct : ∀ (kV doc pm : Value) (an : Option Addr) (cdv ct : Value) (us : List Value), us.length = (["word"] : List Str).length → bindArgs (PySem.W.fnOf "read_action" "read_action" (defArgs s_readAct) (defBody s_readAct) (defScope s_readAct) .none kV doc pm an cdv ct) ⟨us, []⟩ = pure ((["word"] : List Str).zip us) := fun _ _ _ _ _ _ us hl => match us, hl with | [_], _ => rfl
theorem sc_readCtl : FnScope ["word", "actions", "part"] ["word"] (defScope s_readCtl) := ⟨rfl, rfl, rfl, by decide +kernel, rfl, by decide +kernel, by decide +kernel⟩
theorem bi_readCtl : ∀ (kV doc pm : Value) (an : Option Addr) (cdv ct : Value) (us : List Value), us.length = (["word"] : List Str).length → bindArgs (PySem.W.fnOf "read_control" "read_control" (defArgs s_readCtl) (defBody s_readCtl) (defScope s_readCtl) .none kV doc pm an cdv ct) ⟨us, []⟩ = pure ((["word"] : List Str).zip us) := fun _ _ _ _ _ _ us hl => match us, hl with | [_], _ => rfl
theorem sc_isIndex : FnScope ["word", "sign"] ["word"] (defScope s_isIndex) := ⟨rfl, rfl, rfl, by decide +kernel, rfl, by decide +kernel, by decide +kernel⟩
theorem bi_isIndex : ∀ (kV doc pm : Value) (an : Option Addr) (cdv ct : Value) (us : List Value), us.length = (["word"] : List Str).length → bindArgs (PySem.W.fnOf "is_index" "is_index" (defArgs s_isIndex) (defBody s_isIndex) (defScope s_isIndex) .none kV doc pm an cdv ct) ⟨us, []⟩ = pure ((["word"] : List Str).zip us) := fun _ _ _ _ _ _ us hl => match us, hl with | [_], _ => rfl
theorem sc_isCtl : FnScope ["word"] ["word"] (defScope s_isCtl) := ⟨rfl, rfl, rfl, by decide +kernel, rfl, by decide +kernel, by decide +kernel⟩
theorem bi_isCtl : ∀ (kV doc pm : Value) (an : Option Addr) (cdv ct : Value) (us : List Value), us.length = (["word"] : List Str).length → bindArgs (PySem.W.fnOf "is_control" "is_control" (defArgs s_isCtl) (defBody s_isCtl) (defScope s_isCtl) .none kV doc pm an cdv ct) ⟨us, []⟩ = pure ((["word"] : List Str).zip us) := fun _ _ _ _ _ _ us hl => match us, hl with | [_], _ => rfl
theorem sc_isRes : FnScope ["word"] ["word"] (defScope s_isRes) := ⟨rfl, rfl, rfl, by decide +kernel, rfl, by decide +kernel, by decide +kernel⟩
theorem bi_isRes : ∀ (kV doc pm : Value) (an : Option Addr) (cdv ct : Value) (us : List Value), us.length = (["word"] : List Str).length → bindArgs (PySem.W.fnOf "is_result" "is_result" (defArgs s_isRes) (defBody s_isRes) (defScope s_isRes) .none kV doc pm an cdv ct) ⟨us, []⟩ = pure ((["word"] : List Str).zip us) := fun _ _ _ _ _ _ us hl => match us, hl with | [_], _ => rfl
theorem sc_isOut : FnScope ["word"] ["word"] (defScope s_isOut) := ⟨rfl, rfl, rfl, by decide +kernel, rfl, by decide +kernel, by decide +kernel⟩
theorem bi_isOut : ∀ (kV doc pm : Value) (an : Option Addr) (cdv ct : Value) (us : List Value), us.length = (["word"] : List Str).length → bindArgs (PySem.W.fnOf "is_outcome" "is_outcome" (defArgs s_isOut) (defBody s_isOut) (defScope s_isOut) .none kV doc pm an cdv ct) ⟨us, []⟩ = pure ((["word"] : List Str).zip us) := fun _ _ _ _ _ _ us hl => match us, hl with | [_], _ => rfl
theorem sc_RowInit : FnScope ["self", "number", "words"] ["self", "number", "words"] (defScope s_RowInit) := ⟨rfl, rfl, rfl, by decide +kernel, rfl, by decide +kernel, by decide +kernel⟩
theorem bi_RowInit : ∀ (kV doc pm : Value) (an : Option Addr) (cdv ct : Value) (us : List Value), us.length = (["self", "number", "words"] : List Str).length → bindArgs (PySem.W.fnOf "__init__" "Row.__init__" (defArgs s_RowInit) (defBody s_RowInit) (defScope s_RowInit) .none kV doc pm an cdv ct) ⟨us, []⟩ = pure ((["self", "number", "words"] : List Str).zip us) := fun _ _ _ _ _ _ us hl => match us, hl with | [_, _, _], _ => rfl
theorem sc_isRow : FnScope ["words", "form", "is_right", "word"] ["words"] (defScope s_isRow) := ⟨rfl, rfl, rfl, by decide +kernel, rfl, by decide +kernel, by decide +kernel⟩
theorem bi_isRow : ∀ (kV doc pm : Value) (an : Option Addr) (cdv ct : Value) (us : List Value), us.length = (["words"] : List Str).length → bindArgs (PySem.W.fnOf "is_row" "is_row" (defArgs s_isRow) (defBody s_isRow) (defScope s_isRow) .none kV doc pm an cdv ct) ⟨us, []⟩ = pure ((["words"] : List Str).zip us) := fun _ _ _ _ _ _ us hl => match us, hl with | [_], _ => rfl
theorem sc_readScr : FnScope ["text", "lines", "found", "opened", "number", "line", "words", "row", "block"] ["text"] (defScope s_readScr) := ⟨rfl, rfl, rfl, by decide +kernel, rfl, by decide +kernel, by decide +kernel⟩
theorem bi_readScr : ∀ (kV doc pm : Value) (an : Option Addr) (cdv ct : Value) (us : List Value), us.length = (["text"] : List Str).length → bindArgs (PySem.W.fnOf "read_script" "read_script" (defArgs s_readScr) (defBody s_readScr) (defScope s_readScr) .none kV doc pm an cdv ct) ⟨us, []⟩ = pure ((["text"] : List Str).zip us) := fun _ _ _ _ _ _ us hl => match us, hl with | [_], _ => rfl
theorem sc_MaInit : FnScope ["self"] ["self"] (defScope s_MaInit) := ⟨rfl, rfl, rfl, by decide +kernel, rfl, by decide +kernel, by decide +kernel⟩
theorem bi_MaInit : ∀ (kV doc pm : Value) (an : Option Addr) (cdv ct : Value) (us : List Value), us.length = (["self"] : List Str).length → bindArgs (PySem.W.fnOf "__init__" "Machine.__init__" (defArgs s_MaInit) (defBody s_MaInit) (defScope s_MaInit) .none kV doc pm an cdv ct) ⟨us, []⟩ = pure ((["self"] : List Str).zip us) := fun _ _ _ _ _ _ us hl => match us, hl with | [_], _ => rfl
theorem sc_MaStep : FnScope ["self"] ["self"] (defScope s_MaStep) := ⟨rfl, rfl, rfl, by decide +kernel, rfl, by decide +kernel, by decide +kernel⟩
theorem bi_MaStep : ∀ (kV doc pm : Value) (an : Option Addr) (cdv ct : Value) (us : List Value), us.length = (["self"] : List Str).length → bindArgs (PySem.W.fnOf "step" "Machine.step" (defArgs s_MaStep) (defBody s_MaStep) (defScope s_MaStep) .none kV doc pm an cdv ct) ⟨us, []⟩ = pure ((["self"] : List Str).zip us) := fun _ _ _ _ _ _ us hl => match us, hl with | [_], _ => rfl
theorem sc_MaRun : FnScope ["self", "name"] ["self"] (defScope s_MaRun) := ⟨rfl, rfl, rfl, by decide +kernel, rfl, by decide +kernel, by decide +kernel⟩
theorem bi_MaRun : ∀ (kV doc pm : Value) (an : Option Addr) (cdv ct : Value) (us : List Value), us.length = (["self"] : List Str).length → bindArgs (PySem.W.fnOf "run" "Machine.run" (defArgs s_MaRun) (defBody s_MaRun) (defScope s_MaRun) .none kV doc pm an cdv ct) ⟨us, []⟩ = pure ((["self"] : List Str).zip us) := fun _ _ _ _ _ _ us hl => match us, hl with | [_], _ => rfl
theorem sc_MaAll : FnScope ["self", "rows", "row", "e"] ["self", "rows"] (defScope s_MaAll) := ⟨rfl, rfl, rfl, by decide +kernel, rfl, by decide +kernel, by decide +kernel⟩
theorem bi_MaAll : ∀ (kV doc pm : Value) (an : Option Addr) (cdv ct : Value) (us : List Value), us.length = (["self", "rows"] : List Str).length → bindArgs (PySem.W.fnOf "execute_all" "Machine.execute_all" (defArgs s_MaAll) (defBody s_MaAll) (defScope s_MaAll) .none kV doc pm an cdv ct) ⟨us, []⟩ = pure ((["self", "rows"] : List Str).zip us) := fun _ _ _ _ _ _ us hl => match us, hl with | [_, _], _ => rfl
theorem sc_MaExe : FnScope ["self", "row", "word", "rest", "numbers", "turn", "number"] ["self", "row"] (defScope s_MaExe) := ⟨rfl, rfl, rfl, by decide +kernel, rfl, by decide +kernel, by decide +kernel⟩
theorem bi_MaExe : ∀ (kV doc pm : Value) (an : Option Addr) (cdv ct : Value) (us : List Value), us.length = (["self", "row"] : List Str).length → bindArgs (PySem.W.fnOf "execute" "Machine.execute" (defArgs s_MaExe) (defBody s_MaExe) (defScope s_MaExe) .none kV doc pm an cdv ct) ⟨us, []⟩ = pure ((["self", "row"] : List Str).zip us) := fun _ _ _ _ _ _ us hl => match us, hl with | [_, _], _ => rfl
theorem sc_MaSpl : FnScope ["self", "row", "index", "count", "present", "entries"] ["self", "row", "index", "count"] (defScope s_MaSpl) := ⟨rfl, rfl, rfl, by decide +kernel, rfl, by decide +kernel, by decide +kernel⟩
theorem bi_MaSpl : ∀ (kV doc pm : Value) (an : Option Addr) (cdv ct : Value) (us : List Value), us.length = (["self", "row", "index", "count"] : List Str).length → bindArgs (PySem.W.fnOf "splice" "Machine.splice" (defArgs s_MaSpl) (defBody s_MaSpl) (defScope s_MaSpl) .none kV doc pm an cdv ct) ⟨us, []⟩ = pure ((["self", "row", "index", "count"] : List Str).zip us) := fun _ _ _ _ _ _ us hl => match us, hl with | [_, _, _, _], _ => rfl
theorem sc_runScr : FnScope ["text", "machine"] ["text"] (defScope s_runScr) := ⟨rfl, rfl, rfl, by decide +kernel, rfl, by decide +kernel, by decide +kernel⟩
theorem bi_runScr : ∀ (kV doc pm : Value) (an : Option Addr) (cdv ct : Value) (us : List Value), us.length = (["text"] : List Str).length → bindArgs (PySem.W.fnOf "run_script" "run_script" (defArgs s_runScr) (defBody s_runScr) (defScope s_runScr) .none kV doc pm an cdv ct) ⟨us, []⟩ = pure ((["text"] : List Str).zip us) := fun _ _ _ _ _ _ us hl => match us, hl with | [_], _ => rfl
theorem sc_lTaken : FnScope ["_law_row", "_law_many", "_law_found", "_law_cell"] ["_law_row", "_law_many"] (defScope s_lTaken) := ⟨rfl, rfl, rfl, by decide +kernel, rfl, by decide +kernel, by decide +kernel⟩
theorem bi_lTaken : ∀ (kV doc pm : Value) (an : Option Addr) (cdv ct : Value) (us : List Value), us.length = (["_law_row", "_law_many"] : List Str).length → bindArgs (PySem.W.fnOf "_law_taken" "_law_taken" (defArgs s_lTaken) (defBody s_lTaken) (defScope s_lTaken) .none kV doc pm an cdv ct) ⟨us, []⟩ = pure ((["_law_row", "_law_many"] : List Str).zip us) := fun _ _ _ _ _ _ us hl => match us, hl with | [_, _], _ => rfl
theorem sc_lLine : FnScope ["_law_row", "_law_names", "_law_way", "_law_name"] ["_law_row", "_law_names"] (defScope s_lLine) := ⟨rfl, rfl, rfl, by decide +kernel, rfl, by decide +kernel, by decide +kernel⟩
theorem bi_lLine : ∀ (kV doc pm : Value) (an : Option Addr) (cdv ct : Value) (us : List Value), us.length = (["_law_row", "_law_names"] : List Str).length → bindArgs (PySem.W.fnOf "_law_line" "_law_line" (defArgs s_lLine) (defBody s_lLine) (defScope s_lLine) .none kV doc pm an cdv ct) ⟨us, []⟩ = pure ((["_law_row", "_law_names"] : List Str).zip us) := fun _ _ _ _ _ _ us hl => match us, hl with | [_, _], _ => rfl
theorem sc_lTree : FnScope ["_law_row", "_law_names", "_law_depth", "_law_found", "_law_k", "_law_way"] ["_law_row", "_law_names", "_law_depth"] (defScope s_lTree) := ⟨rfl, rfl, rfl, by decide +kernel, rfl, by decide +kernel, by decide +kernel⟩
theorem bi_lTree : ∀ (kV doc pm : Value) (an : Option Addr) (cdv ct : Value) (us : List Value), us.length = (["_law_row", "_law_names", "_law_depth"] : List Str).length → bindArgs (PySem.W.fnOf "_law_tree" "_law_tree" (defArgs s_lTree) (defBody s_lTree) (defScope s_lTree) .none kV doc pm an cdv ct) ⟨us, []⟩ = pure ((["_law_row", "_law_names", "_law_depth"] : List Str).zip us) := fun _ _ _ _ _ _ us hl => match us, hl with | [_, _, _], _ => rfl
theorem sc_lLines : FnScope ["_law_tree_here", "_law_found", "_law_one"] ["_law_tree_here"] (defScope s_lLines) := ⟨rfl, rfl, rfl, by decide +kernel, rfl, by decide +kernel, by decide +kernel⟩
theorem bi_lLines : ∀ (kV doc pm : Value) (an : Option Addr) (cdv ct : Value) (us : List Value), us.length = (["_law_tree_here"] : List Str).length → bindArgs (PySem.W.fnOf "_law_lines" "_law_lines" (defArgs s_lLines) (defBody s_lLines) (defScope s_lLines) .none kV doc pm an cdv ct) ⟨us, []⟩ = pure ((["_law_tree_here"] : List Str).zip us) := fun _ _ _ _ _ _ us hl => match us, hl with | [_], _ => rfl
theorem sc_lRolled : FnScope ["_law_tree_here", "_law_found", "_law_one", "_law_turn"] ["_law_tree_here"] (defScope s_lRolled) := ⟨rfl, rfl, rfl, by decide +kernel, rfl, by decide +kernel, by decide +kernel⟩
theorem bi_lRolled : ∀ (kV doc pm : Value) (an : Option Addr) (cdv ct : Value) (us : List Value), us.length = (["_law_tree_here"] : List Str).length → bindArgs (PySem.W.fnOf "_law_rolled" "_law_rolled" (defArgs s_lRolled) (defBody s_lRolled) (defScope s_lRolled) .none kV doc pm an cdv ct) ⟨us, []⟩ = pure ((["_law_tree_here"] : List Str).zip us) := fun _ _ _ _ _ _ us hl => match us, hl with | [_], _ => rfl
theorem sc_lRun : FnScope ["_law_tree_here"] ["_law_tree_here"] (defScope s_lRun) := ⟨rfl, rfl, rfl, by decide +kernel, rfl, by decide +kernel, by decide +kernel⟩
theorem bi_lRun : ∀ (kV doc pm : Value) (an : Option Addr) (cdv ct : Value) (us : List Value), us.length = (["_law_tree_here"] : List Str).length → bindArgs (PySem.W.fnOf "_law_run" "_law_run" (defArgs s_lRun) (defBody s_lRun) (defScope s_lRun) .none kV doc pm an cdv ct) ⟨us, []⟩ = pure ((["_law_tree_here"] : List Str).zip us) := fun _ _ _ _ _ _ us hl => match us, hl with | [_], _ => rfl
theorem sc_lLaw : FnScope ["_law_script", "_law_row", "_law_turn", "_law_tree_here", "_law_rolled_here", "_law_told", "_law_there", "_law_more", "_law_again", "_law_both"] ["_law_script"] (defScope s_lLaw) := ⟨rfl, rfl, rfl, by decide +kernel, rfl, by decide +kernel, by decide +kernel⟩
theorem bi_lLaw : ∀ (kV doc pm : Value) (an : Option Addr) (cdv ct : Value) (us : List Value), us.length = (["_law_script"] : List Str).length → bindArgs (PySem.W.fnOf "law" "law" (defArgs s_lLaw) (defBody s_lLaw) (defScope s_lLaw) .none kV doc pm an cdv ct) ⟨us, []⟩ = pure ((["_law_script"] : List Str).zip us) := fun _ _ _ _ _ _ us hl => match us, hl with | [_], _ => rfl
theorem sc_XStk : FnScope ["self", "index"] ["self", "index"] (defScope s_XStk) := ⟨rfl, rfl, rfl, by decide +kernel, rfl, by decide +kernel, by decide +kernel⟩
theorem bi_XStk : ∀ (kV doc pm : Value) (an : Option Addr) (cdv ct : Value) (us : List Value), us.length = (["self", "index"] : List Str).length → bindArgs (PySem.W.fnOf "__init__" "InvalidStack.__init__" (defArgs s_XStk) (defBody s_XStk) (defScope s_XStk) .none kV doc pm an cdv ct) ⟨us, []⟩ = pure ((["self", "index"] : List Str).zip us) := fun _ _ _ _ _ _ us hl => match us, hl with | [_, _], _ => rfl
theorem sc_XExe : FnScope ["self", "row"] ["self", "row"] (defScope s_XExe) := ⟨rfl, rfl, rfl, by decide +kernel, rfl, by decide +kernel, by decide +kernel⟩
theorem bi_XExe : ∀ (kV doc pm : Value) (an : Option Addr) (cdv ct : Value) (us : List Value), us.length = (["self", "row"] : List Str).length → bindArgs (PySem.W.fnOf "__init__" "ExecutionFailed.__init__" (defArgs s_XExe) (defBody s_XExe) (defScope s_XExe) .none kV doc pm an cdv ct) ⟨us, []⟩ = pure ((["self", "row"] : List Str).zip us) := fun _ _ _ _ _ _ us hl => match us, hl with | [_, _], _ => rfl
theorem sc_StMods : FnScope ["self"] ["self"] (defScope s_StMods) := ⟨rfl, rfl, rfl, by decide +kernel, rfl, by decide +kernel, by decide +kernel⟩
end K6
set_option Elab.async false
set_option linter.all false
set_option maxRecDepth 100000
/-! K68Base: a def, a method, a class with its promise; calls of them -/
namespace K6
open PySem PySem.Spec PyProof.Rows L2
/-- a def of the module -/
structure Gd (P : Program) (w : World) (K : PySem.W.Frag) (mg : Str → Option Value) (base : Heap) (CX : CXT) (k : Nat) (x : Str) (sp : Sp) : Prop where
  fn : FnR P w K mg base CX k (ga K x) sp
  at_ : mg x = some (.ref (ga K x))
  kp : PySem.W.keepIn K (.ref (ga K x)) = true
/-- a method -/
structure Mt (P : Program) (w : World) (K : PySem.W.Frag) (mg : Str → Option Value) (base : Heap) (CX : CXT) (k : Nat) (C m : Str) (sp : Sp) : Prop where
  fn : FnR P w K mg base CX k (ma K (ga K C) m) sp
  mt : Meth K (ga K C) m (ma K (ga K C) m)
  cl : Cls K (ga K C)
/-- a class, by its __init__'s promise -/
structure Ck (P : Program) (w : World) (K : PySem.W.Frag) (mg : Str → Option Value) (base : Heap) (CX : CXT) (k : Nat) (C : Str) (sp : Sp) : Prop where
  fn : FnR P w K mg base CX k (ma K (ga K C) "__init__") sp
  mak : Mk K (ga K C) (ma K (ga K C) "__init__")
  at_ : mg C = some (.ref (ga K C))
def tR (sp : Sp) (E : XK) (t : TA) : TE := fun σ H Q => t σ H fun vs H1 => sp vs H1 Q E
/-- .. what is raised is wished for at the slots -/
def tRS (sp : Sp) (E : L2.St → XK) (t : TA) : TE := fun σ H Q => t σ H fun vs H1 => sp vs H1 Q (E σ)
section
variable {X : Cx} {CX : CXT} {k j : Nat} {x m C : Str} {sp : Sp} {E : XK} {ES : L2.St → XK} {e o : Expr} {es : List Expr} {ta te : TE} {t : TA} {p pos apos : Pos} {σ : L2.St} {H : Hp} {s : Shared} {pins : List (Addr × Obj)}
theorem run_at {f : Addr} {Q : VK} {us : List Value} {vs : List V} (F : FnR X.prog X.w X.K X.mg X.base CX k f sp) (hr : Room k X.A) (hx : PassesAt CX X σ E) (I : Inv X pins σ H s) (r : Vals vs us) (h : sp vs H Q E) :
    wpAny (model X.prog X.w) X.A (call (.ref f) us) (EP X pins σ Q) X.xe s := by
  refine wpAny_call (codeAny_mono (F X.A X.stack s H us vs Q E hr I.env0 r h) fun r s' hq => ?_)
  cases r with
  | error e => exact hx pins H s e s' I hq
  | ok fl =>
    cases fl with
    | ret u => exact I.after hq
    | next => exact False.elim hq
    | brk => exact False.elim hq
    | cont => exact False.elim hq
theorem gd (F : Gd X.prog X.w X.K X.mg X.base CX k x sp) (hr : Room j X.A) (hk : k ≤ j) (hx : Passes CX X E) (ha : PA X (e :: es) t) (hg : Gl X x := by rfl) (hdb : (x == ("__debug__" : Str)) = false := by decide)
    (he : starEach (e :: es) X.env = (false, eval e X.env) :: starEach es X.env := by rfl) (hpl : (backTo pos (starEach es X.env)).any (·.1) = false := by rfl) : PE X (.Call (.Name x p) (e :: es) [] pos) (tR sp E t) := by
  refine ⟨fun pins s σ H Q I h => ?_⟩
  refine wpAny_Call_Name_kw (ld_glob I hg F.at_ ?_ hdb)
  refine PySem.W.callWith_K (h₀ := X.base) I.ok.mod.kin F.kp (thn (ha.run pos pins s σ H _ I h) fun us s1 ⟨vs, H1, I1, r, q⟩ => ⟨I1.kIn, ?_⟩) he hpl
  exact run_at F.fn (hr.mono hk) (fun p H s e s' I c => hx p σ H s e s' I c) I1 r q
theorem gdS (F : Gd X.prog X.w X.K X.mg X.base CX k x sp) (hr : Room j X.A) (hk : k ≤ j) (hx : ∀ σ, PassesAt CX X σ (ES σ)) (ha : PA X (e :: es) t) (hg : Gl X x := by rfl) (hdb : (x == ("__debug__" : Str)) = false := by decide)
    (he : starEach (e :: es) X.env = (false, eval e X.env) :: starEach es X.env := by rfl) (hpl : (backTo pos (starEach es X.env)).any (·.1) = false := by rfl) : PE X (.Call (.Name x p) (e :: es) [] pos) (tRS sp ES t) := by
  refine ⟨fun pins s σ H Q I h => ?_⟩
  refine wpAny_Call_Name_kw (ld_glob I hg F.at_ ?_ hdb)
  refine PySem.W.callWith_K (h₀ := X.base) I.ok.mod.kin F.kp (thn (ha.run pos pins s σ H _ I h) fun us s1 ⟨vs, H1, I1, r, q⟩ => ⟨I1.kIn, ?_⟩) he hpl
  exact run_at F.fn (hr.mono hk) (hx σ) I1 r q
/-- o.m(e, ..) -/
def tM (K : PySem.W.Frag) (C m : Str) (sp : Sp) (E : L2.St → XK) (ta : TE) (t : TA) : TE := fun σ H Q => ta σ H fun x H1 => ∃ a dx fs, x = .ref a ∧ H1 a = some (.ins (ga K C) dx fs) ∧ fs.lookup m = none ∧ t σ H1 fun vs H2 => sp (x :: vs) H2 Q (E σ)
theorem md {pl : Sem Bool} (F : Mt X.prog X.w X.K X.mg X.base CX k C m sp) (hr : Room j X.A) (hk : k ≤ j) (hx : ∀ σ, PassesAt CX X σ (ES σ)) (he : PE X o ta) (ha : PA X (e :: es) t)
    (hst : starEach (e :: es) X.env = (false, eval e X.env) :: starEach es X.env := by rfl) (hpl : (backTo pos (starEach es X.env)).any (·.1) = false := by rfl)
    (ht : eval (.Call (.Attribute o m apos) (e :: es) [] pos) X.env = (do
      let ov ← eval o X.env
      standAt apos.atName
      let (f, first) ← holding [ov] (getMethod ov m pl)
      callWith pos f first (backTo pos (starEach (e :: es) X.env)) (backToKw pos (keywordEach [] X.env))) := by rfl) : PE X (.Call (.Attribute o m apos) (e :: es) [] pos) (tM X.K C m sp ES ta t) := by
  refine ⟨fun pins s σ H Q I h => ?_⟩
  refine PySem.W.methodCall_KW (pl := pl) (thn (he.run pins s σ H _ I h) fun u s1 ⟨x, H1, I1, rx, a, dx, fs, ex, ea, l, q⟩ => ?_) ht
  subst ex
  obtain rfl : u = Value.ref a := rx
  refine getmeth_ok I1 ea F.cl F.mt l ?_
  refine PySem.W.callWith_K (first := [.ref a]) (h₀ := X.base) I.ok.mod.kin F.mt.kp (thn (ha.run pos pins s1 σ H1 _ I1 q) fun us s2 ⟨vs, H2, I2, r, q2⟩ => ⟨I2.kIn, ?_⟩) hst hpl
  exact run_at (us := .ref a :: us) (vs := .ref a :: vs) F.fn (hr.mono hk) (hx σ) I2 (.cons rfl r) q2
theorem md0 {pl : Sem Bool} (F : Mt X.prog X.w X.K X.mg X.base CX k C m sp) (hr : Room j X.A) (hk : k ≤ j) (hx : ∀ σ, PassesAt CX X σ (ES σ)) (he : PE X o ta)
    (ht : eval (.Call (.Attribute o m apos) [] [] pos) X.env = (do
      let ov ← eval o X.env
      standAt apos.atName
      let (f, first) ← holding [ov] (getMethod ov m pl)
      callWith pos f first (backTo pos (starEach [] X.env)) (backToKw pos (keywordEach [] X.env))) := by rfl) : PE X (.Call (.Attribute o m apos) [] [] pos) (tM X.K C m sp ES ta tNil) := by
  refine ⟨fun pins s σ H Q I h => ?_⟩
  refine PySem.W.methodCall_KW (pl := pl) (thn (he.run pins s σ H _ I h) fun u s1 ⟨x, H1, I1, rx, a, dx, fs, ex, ea, l, q⟩ => ?_) ht
  subst ex
  obtain rfl : u = Value.ref a := rx
  refine getmeth_ok I1 ea F.cl F.mt l ?_
  exact PySem.W.callWith_K0 (first := [.ref a]) I1.kIn F.mt.kp (run_at (us := [.ref a]) (vs := [.ref a]) F.fn (hr.mono hk) (hx σ) I1 (.cons rfl .nil) q)
/-- C(e, ..) -/
def tC' (K : PySem.W.Frag) (C : Str) (sp : Sp) (E : L2.St → XK) (t : TA) : TE := fun σ H Q => t σ H fun vs H1 => ∀ x dx, H1 x = Option.none → H1 dx = Option.none → dx ≠ x →
  sp (V.ref x :: vs) (upd (upd H1 dx (.own x)) x (.ins (ga K C) dx [])) (fun v H2 => v = .non ∧ Q (.ref x) H2) (E σ)
theorem run_ck {Q : VK} {us : List Value} {vs : List V} (F : Ck X.prog X.w X.K X.mg X.base CX k C sp) (hr : Room j X.A) (hk : k + 1 ≤ j) (hx : PassesAt CX X σ E)
    (I : Inv X pins σ H s) (r : Vals vs us)
    (h : ∀ x dx, H x = Option.none → H dx = Option.none → dx ≠ x → sp (V.ref x :: vs) (upd (upd H dx (.own x)) x (.ins (ga X.K C) dx [])) (fun v H2 => v = .non ∧ Q (.ref x) H2) E) :
    wpAny (model X.prog X.w) X.A (call (.ref (ga X.K C)) us) (EP X pins σ Q) X.xe s := by
  have hq := h (s.heap.objs.size + 1) s.heap.objs.size (I.hok.fresh (Nat.le_succ _)) (I.hok.fresh (Nat.le_refl _)) (Nat.ne_of_lt (Nat.lt_succ_self _))
  have I2 := Inv.made (C := ga X.K C) I
  have r2 : Vals (V.ref (s.heap.objs.size + 1) :: vs) (Value.ref (s.heap.objs.size + 1) :: us) := .cons rfl r
  refine wpAny_call (make_map (f := ma X.K (ga X.K C) "__init__") I.kIn F.mak.makes F.mak.init (beq_iff_eq.mp F.mak.fn) (codeAny_mono (F.fn _ X.stack _ _ (Value.ref (s.heap.objs.size + 1) :: us) _ _ E ((hr.mono hk).make (ga X.K C) us []) (I2.env0.make (ga X.K C) us []) r2 hq) fun r s' hq' => ?_))
  cases r with
  | error e => exact hx pins _ _ e s' I2 hq'
  | ok fl =>
    cases fl with
    | ret u =>
      obtain ⟨v, H', I3, rv, ev, q3⟩ := I2.after hq'
      subst ev
      exact ⟨rv, ⟨V.ref (s.heap.objs.size + 1), H', I3, rfl, q3⟩⟩
    | next => exact False.elim hq'
    | brk => exact False.elim hq'
    | cont => exact False.elim hq'
theorem ck (F : Ck X.prog X.w X.K X.mg X.base CX k C sp) (hr : Room j X.A) (hk : k + 1 ≤ j) (hx : ∀ σ, PassesAt CX X σ (ES σ)) (ha : PA X (e :: es) t) (hg : Gl X C := by rfl) (hdb : (C == ("__debug__" : Str)) = false := by decide)
    (he : starEach (e :: es) X.env = (false, eval e X.env) :: starEach es X.env := by rfl) (hpl : (backTo pos (starEach es X.env)).any (·.1) = false := by rfl) : PE X (.Call (.Name C p) (e :: es) [] pos) (tC' X.K C sp ES t) := by
  refine ⟨fun pins s σ H Q I h => ?_⟩
  refine wpAny_Call_Name_kw (ld_glob I hg F.at_ ?_ hdb)
  refine PySem.W.callWith_K (h₀ := X.base) I.ok.mod.kin F.mak.kp (thn (ha.run pos pins s σ H _ I h) fun us s1 ⟨vs, H1, I1, r, q⟩ => ⟨I1.kIn, ?_⟩) he hpl
  exact run_ck F hr hk (hx σ) I1 r q
theorem ck0 (F : Ck X.prog X.w X.K X.mg X.base CX k C sp) (hr : Room j X.A) (hk : k + 1 ≤ j) (hx : ∀ σ, PassesAt CX X σ (ES σ)) (hg : Gl X C := by rfl) (hdb : (C == ("__debug__" : Str)) = false := by decide) : PE X (.Call (.Name C p) [] [] pos) (tC' X.K C sp ES tNil) := by
  refine ⟨fun pins s σ H Q I h => ?_⟩
  refine wpAny_Call_Name_kw (ld_glob I hg F.at_ ?_ hdb)
  exact PySem.W.callWith_K0 I.kIn F.mak.kp (run_ck (us := []) F hr hk (hx σ) I .nil h)
/-- C(*y) -/
theorem ckS {sp_ : Pos} (F : Ck X.prog X.w X.K X.mg X.base CX k C sp) (hr : Room j X.A) (hk : k + 1 ≤ j) (hx : ∀ σ, PassesAt CX X σ (ES σ)) (he : PE X e te) (hg : Gl X C := by rfl) (hdb : (C == ("__debug__" : Str)) = false := by decide)
    (hst : starEach [.Starred e sp_] X.env = [(true, eval e X.env)] := by rfl) :
    PE X (.Call (.Name C p) [.Starred e sp_] [] pos) (tC' X.K C sp ES (fun σ H Q => te σ H fun y H1 => ∃ a xs, y = V.ref a ∧ (SqT X.K H1 a xs ∨ SqL X.K H1 a xs) ∧ Q xs H1)) := by
  refine ⟨fun pins s σ H Q I h => ?_⟩
  refine wpAny_Call_Name_kw (ld_glob I hg F.at_ ?_ hdb)
  refine PySem.W.callWith_S (h₀ := X.base) I.ok.mod.kin F.mak.kp (thn (he.run pins s σ H _ I h) fun v s1 ⟨y, H1, I1, ry, a, xs, ey, hxs, q⟩ => ?_) hst
  subst ey
  obtain rfl : v = Value.ref a := ry
  exact StX.star_any I1 hxs fun us s2 I2 rv => ⟨I2.kIn, run_ck F hr hk (hx σ) I2 rv q⟩
end
/-! ### from the text to the promise -/
section
variable {P : Program} {w : World} {K : PySem.W.Frag} {mg : Str → Option Value} {base : Heap} {CX : CXT} {k : Nat} {f : Addr} {x qual : Str} {st : Stmt} {N ps : List Str} {sp : Sp}
theorem FnF.r (F : FnF K x qual st f) (S : FnScope N ps (defScope st))
    (hb : ∀ (kV doc pm : Value) (an : Option Addr) (cdv ct : Value) (us : List Value), us.length = ps.length → bindArgs (PySem.W.fnOf x qual (defArgs st) (defBody st) (defScope st) .none kV doc pm an cdv ct) ⟨us, []⟩ = pure (ps.zip us))
    (len : ∀ vs H Q E, sp vs H Q E → vs.length = ps.length)
    (hbody : ∀ (cdv : Value) (A : Around) (outer : List Env) (s : Shared) (H : Hp) (vs : List V) (Q : VK) (E : XK), Room k (A.deeper (envOfC qual (defScope st) s.heap.objs.size f cdv)) → sp vs H Q E →
      ∃ t, PSs (cxOf CX P w K mg base N qual (defScope st) f cdv A outer s H E) (defBody st) t ∧ t { nx := fun _ H' => Q .non H', rt := Q } (start N vs) H) : FnR P w K mg base CX (k + 1) f sp := by
  obtain ⟨fd, F⟩ := F
  have z := (F.ok S len hbody).raw (F.bindsN hb) Paired.nil
  exact z.imp fun vs H Q E h => by rw [List.append_nil]; exact h
theorem FnF.kp (F : FnF K x qual st f) : PySem.W.keepIn K (.ref f) = true := by
  obtain ⟨fd, F⟩ := F
  exact F.kp
end
/-- nothing is let out -/
theorem pa0 {X : Cx} : ∀ σ : L2.St, PassesAt CX0 X σ ((fun _ => E0) σ) := fun _ _ _ _ _ _ _ h => h.elim
/-- a def that lets nothing out, its body in the bare context -/
abbrev E0S : L2.St → XK := fun _ => E0
/-! ### heaps -/
/-- all but what stands at S is as it was -/
def Keep (S : List Addr) (H H' : Hp) : Prop := ∀ b o, H b = some o → b ∉ S → H' b = some o
theorem Same.keep {S : List Addr} {H H' : Hp} (s : Same H H') : Keep S H H' := fun b o e _ => s b o e
theorem Keep.trans {S : List Addr} {H H1 H2 : Hp} (a : Keep S H H1) (b : Keep S H1 H2) : Keep S H H2 := fun c o e h => b c o (a c o e h) h
theorem Keep.of {S : List Addr} {G H H' : Hp} (k : Keep S H H') (g : Same G H) (n : ∀ b ∈ S, G b = none) : Same G H' := fun b o e => k b o (g b o e) fun hb => by
  rw [n b hb] at e
  cases e
theorem same_upd {H : Hp} {p : Addr} {o : HO} (h : H p = none) : Same H (upd H p o) := fun b u e => by rw [upd_ne (ne_of_none e h)]; exact e
theorem keep_upd {H : Hp} {p : Addr} {o : HO} {S : List Addr} (h : p ∈ S) : Keep S H (upd H p o) := fun b u e n => by rw [upd_ne fun z => n (by rw [z]; exact h)]; exact e
theorem Same.seqT {K : PySem.W.Frag} {H H' : Hp} {a : Addr} {xs : List V} (e : Same H H') (h : SqT K H a xs) : SqT K H' a xs := SqT.ext h e
theorem free_of {H H' : Hp} {a : Addr} (s : Same H H') (h : H' a = none) : H a = none := s.free h
/-- tests with a known answer -/
theorem it {c : Bool} {A B : Prop} (hc : c = true) (h : A) : if c = true then A else B := by rw [if_pos hc]; exact h
theorem if_ {c : Bool} {A B : Prop} (hc : c = false) (h : B) : if c = true then A else B := by rw [hc, if_neg Bool.false_ne_true]; exact h
end K6
set_option Elab.async false
set_option linter.all false
set_option maxRecDepth 100000
set_option maxHeartbeats 1000000
/-! K68Rules: the defs of loginstacks.rules -/
namespace K6
open PySem PySem.Spec PyProof.Rows L2
/-! ### words as texts -/
def mdS : K68.Md → Str
  | .key => "key" | .lan => "lan" | .pin => "pin"
def rsS : K68.Rs → Str
  | .yes => "yes" | .no => "no" | .skip => "skip" | .gone => "gone"
def ctS : K68.Ct → Str
  | .req => "required" | .rqs => "requisite" | .suf => "sufficient" | .opt => "optional" | .mix => "1,ok,bad,die"
def acV : K68.Ac → V
  | .ok => .str "ok" | .bad => .str "bad" | .die => .str "die" | .done => .str "done" | .ign => .str "ignore" | .jmp => .int 1
def rsL : List K68.Rs := [.yes, .no, .skip, .gone]
def actsV (c : K68.Ct) : List V := rsL.map fun r => acV (c.act r)
section
variable {X : Cx}
theorem ks {x z : Str} {pos : Pos} (h : ∃ t, X.mg x = some (.str z t)) (hg : Gl X x := by rfl) (hd : (x == ("__debug__" : Str)) = false := by decide) : PE X (.Name x pos) (tC (.str z)) := by
  obtain ⟨t, h⟩ := h
  exact pe_glob hg h ⟨t, rfl⟩ hd
theorem ki {x : Str} {n : Int} {pos : Pos} (h : ∃ t, X.mg x = some (.int n t)) (hg : Gl X x := by rfl) (hd : (x == ("__debug__" : Str)) = false := by decide) : PE X (.Name x pos) (tC (.int n)) := by
  obtain ⟨t, h⟩ := h
  exact pe_glob hg h ⟨t, rfl⟩ hd
theorem kr {x : Str} {a : Addr} {pos : Pos} (h : X.mg x = some (.ref a)) (hg : Gl X x := by rfl) (hd : (x == ("__debug__" : Str)) = false := by decide) : PE X (.Name x pos) (tC (.ref a)) := pe_glob hg h rfl hd
theorem kt {x : Str} {n : String} {pos : Pos} (h : X.mg x = none) (hv : bootBuiltins x = some (.type n)) (hg : Gl X x := by rfl) (hn : x ≠ "__name__" := by decide) (hd : (x == ("__debug__" : Str)) = false := by decide) : PE X (.Name x pos) (tC (.ty n)) := pe_bltn hg h hv rfl hn hd
end
section
variable {P : Program} {w : World} {K : PySem.W.Frag} {mg : Str → Option Value} {base : Heap}
/-! ### is_number -/
def spIsNumber : Sp := fun vs H Q _ => ∃ a b c : Int, vs = [.int a, .int b, .int c] ∧ Q (.bl (decide (b ≤ a) && decide (a ≤ c))) H
theorem ok_isNumber (T : Tx w K mg) : Gd P w K mg base CX0 1 "is_number" spIsNumber := by
  refine ⟨T.d_isNumber.r sc_isNumber bi_isNumber (fun vs H Q E h => ?_) (fun cdv A outer s H vs Q E hr h => ?_), T.f_isNumber, T.d_isNumber.kp⟩
  · obtain ⟨a, b, c, rfl, _⟩ := h
    rfl
  obtain ⟨a, b, c, rfl, q⟩ := h
  refine ⟨_, pss_one (ps_ret (pe_and (pe_callB call_isi (by rfl) T.b_isinstance (by decide +kernel) (pa_cons (pv 0) (pa_cons (kt (n := "int") T.b_int (by decide +kernel)) pa_nil)))
    (pe_and (pe_not (pe_callB call_isi (by rfl) T.b_isinstance (by decide +kernel) (pa_cons (pv 0) (pa_cons (kt (n := "bool") T.b_bool (by decide +kernel)) pa_nil))))
    (pe_one (pe_chain op_le op_le (pv 1) (pv 0) (pv 2)))))), ?_⟩
  refine ⟨_, rfl, _, _, _, _, true, rfl, .ty _, .base (.int a), kit_ty (by decide +kernel), true, rfl, it rfl ?_⟩
  refine ⟨_, rfl, _, _, _, _, false, rfl, .ty _, .base (.int a), kit_ty (by decide +kernel), false, rfl, _, rfl, it rfl ?_⟩
  refine ⟨_, rfl, _, rfl, _, _, rfl, rfl, _, rfl, ?_⟩
  by_cases h1 : b ≤ a
  · rw [if_pos (decide_eq_true h1)]
    refine ⟨_, rfl, _, _, rfl, rfl, ?_⟩
    rw [decide_eq_true h1] at q
    exact q
  · rw [if_neg (by rw [decide_eq_false h1]; decide)]
    rw [decide_eq_false h1] at q
    exact q
end
end K6
set_option Elab.async false
set_option linter.all false
set_option maxRecDepth 100000
set_option maxHeartbeats 1000000
/-! K68Word: is_word, is_action -/
namespace K6
open PySem PySem.Spec PyProof.Rows L2
section
variable {P : Program} {w : World} {K : PySem.W.Frag} {mg : Str → Option Value} {base : Heap}
def spIsWord : Sp := fun vs H Q _ => ∃ m : K68.Md, vs = [.str (mdS m)] ∧ ∀ H', Same H H' → Q (.bl true) H'
theorem mdS_len (m : K68.Md) : (mdS m).length = 3 := by cases m <;> rfl
theorem mdS_in (m : K68.Md) {i : Nat} {c : Nat} (h : (mdS m).cps[i]? = some c) : c ∈ ("abcdefghijklmnopqrstuvwxyz" : Str).cps.toList := by
  have z : ∀ m : K68.Md, (mdS m).cps.toList.all (fun c => decide (c ∈ ("abcdefghijklmnopqrstuvwxyz" : Str).cps.toList)) = true := by intro m; cases m <;> decide +kernel
  have := List.all_eq_true.mp (z m) c (Array.mem_toList_iff.mpr (Array.mem_of_getElem? h))
  exact of_decide_eq_true this
theorem all_rep (n : Nat) : ((List.replicate n true).all id) = true := by
  induction n with
  | zero => rfl
  | succ n ih => rw [List.replicate_succ, List.all_cons, ih]; rfl
theorem ok_isWord (T : Tx w K mg) : Gd P w K mg base CX0 1 "is_word" spIsWord := by
  refine ⟨T.d_isWord.r sc_isWord bi_isWord (fun vs H Q E h => ?_) (fun cdv A outer s H vs Q E hr h => ?_), T.f_isWord, T.d_isWord.kp⟩
  · obtain ⟨m, rfl, _⟩ := h
    rfl
  obtain ⟨m, rfl, q⟩ := h
  refine ⟨_, pss_cons (ps_if (PW.pt (pw_or (pt_not (pt_val (pe_callB call_isi (by rfl) T.b_isinstance (by decide +kernel) (pa_cons (pv 0) (pa_cons (kt (n := "str") T.b_str (by decide +kernel)) pa_nil)))))
      (pw_or1 (pt_not (pt_chain op_le op_le pe_int (pe_callB call_len (by rfl) T.b_len (by decide +kernel) (pa_cons (pv 0) pa_nil)) (ki T.i_MOST_LETTERS))))))
    (pss_one (ps_ret pe_bl)) pss_nil)
    (pss_one (ps_ret (pe_callB (cr_all rfl) (by rfl) T.b_all (by decide +kernel) (pa_cons
      (pe_lc (own := [("letter", 1)]) (g := gName 1) (tt := tYes) rfl sc_isWord.nd (pi_str (pv 0)) (blkOk_by (N := ["thing", "letter"]) (sc := defScope s_isWord) (by decide +kernel))
        (fun _ _ _ _ _ => pg_name (i := 1) sc_isWord.nd rfl (Or.inl rfl)) (fun _ _ _ _ _ => pts_nil) (fun _ _ _ _ _ => pe_cmpR op_in_sign (pv 1) (ks T.s_LETTERS) (by rfl))) pa_nil)))), ?_⟩
  refine ⟨_, rfl, _, _, _, _, true, rfl, .ty _, .base (.str _), kit_ty (by decide +kernel), true, rfl, if_ rfl ?_⟩
  refine ⟨_, rfl, _, _, rfl, ⟨by rw [mdS_len]; decide, rfl⟩, ?_⟩
  rw [mdS_len]
  refine ⟨_, _, rfl, rfl, true, rfl, it rfl ⟨_, _, rfl, rfl, true, rfl, if_ rfl ?_⟩⟩
  refine ⟨_, rfl, _, rfl, fun D hD => ?_⟩
  refine lc_it walk_str (fun i H' => H' D = some (.lst ((List.replicate i true).map V.bl)) ∧ ∀ b o, H b = some o → H' b = some o) ⟨upd_same, same_upd hD⟩ (fun i H' _ _ => trivial) (fun i x H1 H2 hi hp hy => ?_) (fun H1 hp => ?_)
  · obtain ⟨rfl, c, hc, rfl⟩ := hy
    refine ⟨rfl, _, rfl, c, _, rfl, rfl, ?_⟩
    rw [decide_eq_true (mdS_in m hc)]
    refine ⟨_, hp.1, ?_, ?_, fun b o e => ?_⟩
    · rw [List.length_map, List.length_replicate]
      have : i < 3 := by
        have z := hi
        rw [show (mdS m).cps.size = 3 from mdS_len m] at z
        exact z
      exact Nat.lt_of_lt_of_le this (by decide)
    · rw [upd_same, List.replicate_succ', List.map_append]
      rfl
    · rw [upd_ne (ne_of_none e hD)]
      exact hp.2 b o e
  · refine ⟨D, _, rfl, SqL.of hp.1, ?_⟩
    rw [all_rep]
    exact q H1 hp.2
end
end K6
set_option Elab.async false
set_option linter.all false
set_option maxRecDepth 100000
set_option maxHeartbeats 1000000
/-! K68RuleD: is_action, table_of, Rule -/
namespace K6
open PySem PySem.Spec PyProof.Rows L2
section
variable {X : Cx} {o e f : Expr} {td ty tx : TE} {apos cpos : Pos} {d : Addr} {es : Array DictEntry} {n : Nat}
/-- what d.get(z, x) gives, d written -/
def GotK (K : PySem.W.Frag) (d : Addr) (z : Str) (x v : V) : Prop := (∃ u, PySem.W.nsIn K d z = some (some u) ∧ RelV v u) ∨ (PySem.W.nsIn K d z = some none ∧ v = x)
def tKGet2 (K : PySem.W.Frag) (d : Addr) (td ty tx : TE) : TE := fun σ H Q => td σ H fun x H1 => x = .ref d ∧ ty σ H1 fun y H2 => tx σ H2 fun z H3 => ∃ (n : Str) (v : V), y = .str n ∧ GotK K d n z v ∧ Q v H3
theorem pe_kget2 (D : KDict X.K X.w d es n) (ho : PE X o td) (he : PE X e ty) (hf : PE X f tx) (m : M2 X o "get" apos e f cpos) : PE X (.Call (.Attribute o "get" apos) [e, f] [] cpos) (tKGet2 X.K d td ty tx) := by
  refine ⟨fun pins s σ H Q I h => ?_⟩
  refine wpAny_Call_method m.base m.few m.line PySem.F.plainAttrs_dict PySem.F.slot_dict_get PySem.F.type_dict_get (thn (ho.run pins s σ H _ I h) fun u s1 ⟨x, H1, I1, rx, ex, q1⟩ => ?_)
  subst ex
  obtain rfl : u = Value.ref d := rx
  refine ⟨kd_type D I1, fun b hb => ?_, ?_⟩
  · cases hb
    exact ⟨_, I1.kIn _ _ D.at_, rfl⟩
  rw [m.trees]
  refine Calls.callWith_builtin rfl (Calls.evalArgs_plain (Calls.spliced_cons (thn (he.run pins s1 σ H1 _ I1 q1) fun iv s2 ⟨y, H2, I2, ry, q2⟩ =>
    Calls.spliced_cons (thn (hf.run pins s2 σ H2 _ I2 q2) fun fv s3 ⟨z, H3, I3, rz, k, v, ey, g, q3⟩ => Calls.spliced_nil ?_))))
  subst ey
  obtain ⟨t, rfl⟩ := (show ∃ t, iv = Value.str k t from ry)
  have hm := PySem.W.mapOf_K (prog := X.prog) (w := X.w) I3.kIn D.at_ D.lit
  refine call_meetsIn PySem.F.slot_dict_get hm.typeIs PySem.F.entry_dict_get (PySem.F.args_dict_get_3 _ _ _) (meets_dict_get_default (strKind X.prog X.w) d (PySem.strKind_is X.prog X.w k t) D.low fv) ⟨_, hm, v, H3, I3.tok _, ?_, q3⟩
  rcases g with ⟨u0, e0, r0⟩ | ⟨e0, r0⟩
  · rw [PySem.W.find_K D.at_ e0]
    exact r0
  · rw [PySem.W.find_K D.at_ e0, r0]
    exact rz
end
section
variable {P : Program} {w : World} {K : PySem.W.Frag} {mg : Str → Option Value} {base : Heap}
/-! ### is_action -/
def spIsAction : Sp := fun vs H Q _ => ∃ a : K68.Ac, vs = [acV a] ∧ Q (.bl true) H
theorem ok_isAction (T : Tx w K mg) : Gd P w K mg base CX0 2 "is_action" spIsAction := by
  refine ⟨T.d_isAction.r sc_isAction bi_isAction (fun vs H Q E h => ?_) (fun cdv A outer s H vs Q E hr h => ?_), T.f_isAction, T.d_isAction.kp⟩
  · obtain ⟨m, rfl, _⟩ := h
    rfl
  obtain ⟨a, rfl, q⟩ := h
  refine ⟨_, pss_one (ps_ret (pe_or (pe_and (pe_callB call_isi (by rfl) T.b_isinstance (by decide +kernel) (pa_cons (pv 0) (pa_cons (kt (n := "str") T.b_str (by decide +kernel)) pa_nil)))
    (pe_one (pe_cmpR op_in_seq (pv 0) (kr T.g_ACTIONS) (by rfl)))) (pe_one (gd (ok_isNumber T) hr (Nat.le_refl _) pass0 (pa_cons (pv 0) (pa_cons pe_int (pa_cons (ki T.i_MOST_JUMP) pa_nil))))))), ?_⟩
  cases a with
  | jmp => exact ⟨_, rfl, _, _, _, _, false, rfl, .ty _, .base (.int _), kit_ty (by decide +kernel), false, rfl, false, rfl, _, rfl, 1, 1, 9, rfl, q⟩
  | ok => exact ⟨_, rfl, _, _, _, _, true, rfl, .ty _, .base (.str _), kit_ty (by decide +kernel), true, rfl, _, rfl, _, _, rfl, .inr (T.tACT _), rfl, rfl, true, rfl, q⟩
  | bad => exact ⟨_, rfl, _, _, _, _, true, rfl, .ty _, .base (.str _), kit_ty (by decide +kernel), true, rfl, _, rfl, _, _, rfl, .inr (T.tACT _), rfl, rfl, true, rfl, q⟩
  | die => exact ⟨_, rfl, _, _, _, _, true, rfl, .ty _, .base (.str _), kit_ty (by decide +kernel), true, rfl, _, rfl, _, _, rfl, .inr (T.tACT _), rfl, rfl, true, rfl, q⟩
  | done => exact ⟨_, rfl, _, _, _, _, true, rfl, .ty _, .base (.str _), kit_ty (by decide +kernel), true, rfl, _, rfl, _, _, rfl, .inr (T.tACT _), rfl, rfl, true, rfl, q⟩
  | ign => exact ⟨_, rfl, _, _, _, _, true, rfl, .ty _, .base (.str _), kit_ty (by decide +kernel), true, rfl, _, rfl, _, _, rfl, .inr (T.tACT _), rfl, rfl, true, rfl, q⟩
/-! ### table_of -/
/-- a control as a value -/
def CtlV (H : Hp) (c : K68.Ct) (v : V) : Prop := (c ≠ .mix ∧ v = .str (ctS c)) ∨ (c = .mix ∧ ∃ b, v = .ref b ∧ H b = some (.tup (actsV .mix)))
theorem CtlV.mono {H H' : Hp} {c : K68.Ct} {v : V} (h : CtlV H c v) (k : Same H H') : CtlV H' c v := by
  rcases h with h | ⟨h1, b, h2, h3⟩
  · exact .inl h
  · exact .inr ⟨h1, b, h2, k b _ h3⟩
def spTableOf (K : PySem.W.Frag) : Sp := fun vs H Q _ => ∃ c v, vs = [v] ∧ CtlV H c v ∧ ∀ b H', Same H H' → SqT K H' b (actsV c) → Q (.ref b) H'
theorem kinds_get (T : Tx w K mg) {c : K68.Ct} (h : c ≠ .mix) (H : Hp) (x : V) : ∃ b, GotK K (ga K "KINDS") (ctS c) x (.ref b) ∧ SqT K H b (actsV c) := by
  cases c with
  | req => exact ⟨_, .inl ⟨_, T.k_required.1, rfl⟩, T.k_required.2 H⟩
  | rqs => exact ⟨_, .inl ⟨_, T.k_requisite.1, rfl⟩, T.k_requisite.2 H⟩
  | suf => exact ⟨_, .inl ⟨_, T.k_sufficient.1, rfl⟩, T.k_sufficient.2 H⟩
  | opt => exact ⟨_, .inl ⟨_, T.k_optional.1, rfl⟩, T.k_optional.2 H⟩
  | mix => exact absurd rfl h
theorem ok_tableOf (T : Tx w K mg) : Gd P w K mg base CX0 3 "table_of" (spTableOf K) := by
  refine ⟨T.d_tableOf.r sc_tableOf bi_tableOf (fun vs H Q E h => ?_) (fun cdv A outer s H vs Q E hr h => ?_), T.f_tableOf, T.d_tableOf.kp⟩
  · obtain ⟨c, v, rfl, _⟩ := h
    rfl
  obtain ⟨c, v, rfl, hc, q⟩ := h
  obtain ⟨es, n, D⟩ := T.kinds
  refine ⟨_, pss_cons (ps_if (pt_val (pe_callB call_isi (by rfl) T.b_isinstance (by decide +kernel) (pa_cons (pv 0) (pa_cons (kt (n := "str") T.b_str (by decide +kernel)) pa_nil))))
      (pss_one (ps_ret (pe_kget2 D (kr T.g_KINDS) (pv 0) pe_non ⟨rfl, rfl, rfl, rfl⟩))) pss_nil)
    (pss_cons (ps_if (PW.pt (pw_or (pt_not (pt_val (pe_callB call_isi (by rfl) T.b_isinstance (by decide +kernel) (pa_cons (pv 0) (pa_cons (kt (n := "tuple") T.b_tuple (by decide +kernel)) pa_nil)))))
        (pw_or (pt_cmpR op_ne (pe_callB call_len (by rfl) T.b_len (by decide +kernel) (pa_cons (pv 0) pa_nil)) (pe_callB call_len (by rfl) T.b_len (by decide +kernel) (pa_cons (kr T.g_RESULTS) pa_nil)) (nomark _))
        (pw_or1 (pt_not (pt_val (pe_callB (cr_all rfl) (by rfl) T.b_all (by decide +kernel) (pa_cons
          (pe_lc (own := [("one", 1)]) (g := gName 1) (tt := tYes) rfl sc_tableOf.nd (pi_tup (pv 0)) (blkOk_by (N := ["control", "one"]) (sc := defScope s_tableOf) (by decide +kernel))
            (fun _ _ _ _ _ => pg_name (i := 1) sc_tableOf.nd rfl (Or.inl rfl)) (fun _ _ _ _ _ => pts_nil) (fun _ _ _ _ _ => gd (ok_isAction T) hr (Nat.le_refl _) pass0 (pa_cons (pv 1) pa_nil))) pa_nil))))))))
      (pss_one (ps_ret pe_non)) pss_nil)
    (pss_one (ps_ret (pv 0)))), ?_⟩
  rcases hc with ⟨h1, rfl⟩ | ⟨rfl, b, rfl, hb⟩
  · refine ⟨_, rfl, _, _, _, _, true, rfl, .ty _, .base (.str _), kit_ty (by decide +kernel), true, rfl, ?_⟩
    obtain ⟨b, h2, h3⟩ := kinds_get T h1 H .non
    exact ⟨rfl, _, rfl, _, _, rfl, h2, q b H (fun _ _ e => e) h3⟩
  · refine ⟨_, rfl, _, _, _, _, false, rfl, .ty _, .base (.tup hb), kit_ty (by decide +kernel), false, rfl, ?_⟩
    refine ⟨_, rfl, _, _, _, _, true, rfl, .ty _, .base (.tup hb), kit_ty (by decide +kernel), true, rfl, ?_⟩
    refine ⟨_, rfl, _, 4, rfl, .inr ⟨_, SqT.of hb, rfl⟩, _, 4, rfl, .inr ⟨_, T.tRES _, rfl⟩, rfl, _, rfl, ?_⟩
    refine if_ (by rfl) ?_
    refine ⟨_, rfl, b, rfl, ⟨_, SqT.of hb⟩, fun D hD => ?_⟩
    refine lc_it (walk_tup (xs := actsV .mix)) (fun i H' => H' D = some (.lst ((List.replicate i true).map V.bl)) ∧ ∀ b o, H b = some o → H' b = some o) ⟨upd_same, same_upd hD⟩ (fun i H' _ p => SqT.of (p.2 b _ hb)) (fun i x H1 H2 hi hp hy => ?_) (fun H1 hp => ?_)
    · obtain ⟨rfl, hx⟩ := hy
      obtain ⟨r, _, rfl⟩ := List.getElem?_map .. ▸ hx |> fun z => Option.map_eq_some_iff.mp z
      refine ⟨rfl, _, rfl, _, rfl, _, hp.1, ?_, ?_, fun b o e => ?_⟩
      · rw [List.length_map, List.length_replicate]
        exact Nat.lt_of_lt_of_le hi (by decide)
      · rw [upd_same, List.replicate_succ', List.map_append]
        rfl
      · rw [upd_ne (ne_of_none e hD)]
        exact hp.2 b o e
    · refine ⟨D, _, rfl, SqL.of hp.1, ?_⟩
      rw [all_rep]
      refine ⟨true, rfl, ?_⟩
      exact ⟨_, rfl, q b H1 hp.2 (SqT.of (hp.2 b _ hb))⟩
end
end K6
set_option Elab.async false
set_option linter.all false
set_option maxRecDepth 100000
set_option maxHeartbeats 1000000
/-! K68Rule2: the class Rule -/
namespace K6
open PySem PySem.Spec PyProof.Rows L2
/-- a rule of the module m under the control c stands at r -/
def RuAt (K : PySem.W.Frag) (H : Hp) (r : Addr) (u : K68.Ru) : Prop := ∃ dx b, H r = some (.ins (ga K "Rule") dx [("asks", .str (mdS u.1)), ("acts", .ref b)]) ∧ SqT K H b (actsV u.2)
theorem SqT.updI {K : PySem.W.Frag} {H : Hp} {b x C dx : Addr} {xs : List V} {fs : List (Str × V)} {o : HO} (h : SqT K H b xs) (hx : H x = some (.ins C dx fs)) : SqT K (upd H x o) b xs := by
  rcases h with (z | ⟨u, z⟩) | z
  · refine .inl (.inl ?_)
    rw [upd_ne (ne_of z hx (by intro e; cases e))]
    exact z
  · refine .inl (.inr ⟨u, ?_⟩)
    rw [upd_ne (ne_of z hx (by intro e; cases e))]
    exact z
  · exact .inr z
theorem RuAt.mono {K : PySem.W.Frag} {H H' : Hp} {r : Addr} {u : K68.Ru} (h : RuAt K H r u) (k : Same H H') : RuAt K H' r u := by
  obtain ⟨dx, b, h1, h2⟩ := h
  exact ⟨dx, b, k _ _ h1, Same.seqT k h2⟩
def acD : K68.Ac → PyData
  | .ok => .str "ok" | .bad => .str "bad" | .die => .str "die" | .done => .str "done" | .ign => .str "ignore" | .jmp => .int 1
theorem acDp {K : PySem.W.Frag} {H : Hp} : ∀ a : K68.Ac, Dp K H (acV a) (acD a)
  | .ok => .str _ | .bad => .str _ | .die => .str _ | .done => .str _ | .ign => .str _ | .jmp => .int _
def actsD (c : K68.Ct) : List PyData := rsL.map fun r => acD (c.act r)
theorem actsDp {K : PySem.W.Frag} {H : Hp} (c : K68.Ct) : DpAll K H (actsV c) (actsD c) :=
  .cons (acDp _) (.cons (acDp _) (.cons (acDp _) (.cons (acDp _) .nil)))
def ruD (u : K68.Ru) : PyData := .tuple [.str (mdS u.1), .tuple (actsD u.2)]
theorem ruD_shaped : ∀ u : K68.Ru, SeqAt.shaped (ruD u) = true := by
  rintro ⟨m, c⟩
  cases m <;> cases c <;> decide +kernel
theorem ruD_lay : ∀ u : K68.Ru, (ruD u).canLay0 = true := by
  rintro ⟨m, c⟩
  cases m <;> cases c <;> decide +kernel
section
variable {P : Program} {w : World} {K : PySem.W.Frag} {mg : Str → Option Value} {base : Heap}
def spRuleInit (K : PySem.W.Frag) : Sp := fun vs H Q _ => ∃ x dx m c v, vs = [.ref x, .str (mdS m), v] ∧ H x = some (.ins (ga K "Rule") dx []) ∧ CtlV H c v ∧
  ∀ H', Keep [x] H H' → RuAt K H' x (m, c) → Q .non H'
theorem ok_RuleInit (T : Tx w K mg) : Ck P w K mg base CX0 4 "Rule" (spRuleInit K) := by
  refine ⟨T.d_RuleInit.r sc_RuleInit bi_RuleInit (fun vs H Q E h => ?_) (fun cdv A outer s H vs Q E hr h => ?_), T.k_Rule, T.g_Rule⟩
  · obtain ⟨x, dx, m, c, v, rfl, _⟩ := h
    rfl
  obtain ⟨x, dx, m, c, v, rfl, hx, hc, q⟩ := h
  refine ⟨_, pss_cons (ps_if (pt_not (pt_val (gd (ok_isWord T) hr (by decide) pass0 (pa_cons (pv 1) pa_nil)))) (pss_one ps_never) pss_nil)
    (pss_cons (ps_if (pt_cmpR op_isN (gd (ok_tableOf T) hr (by decide) pass0 (pa_cons (pv 2) pa_nil)) pe_non (nomark _)) (pss_one ps_never) pss_nil)
    (pss_cons (ps_fld (pv 0) (pv 1) rfl) (pss_one (ps_fld (pv 0) (gd (ok_tableOf T) hr (by decide) pass0 (pa_cons (pv 2) pa_nil)) rfl)))), ?_⟩
  refine ⟨_, rfl, m, rfl, fun H1 k1 => ⟨true, rfl, ?_⟩⟩
  refine if_ rfl ?_
  refine ⟨_, rfl, c, v, rfl, hc.mono k1, fun b H2 k2 hb => ?_⟩
  refine ⟨rfl, false, rfl, if_ rfl ?_⟩
  refine ⟨_, rfl, _, rfl, x, _, dx, _, rfl, k2 _ _ (k1 _ _ hx), T.c_Rule, T.n_Rule_asks, by decide, ?_⟩
  have e3 : CtlV (upd H2 x (HO.ins (ga K "Rule") dx (putF "asks" (.str (mdS m)) []))) c v := by
    rcases hc with h | ⟨h1, b0, h2, h3⟩
    · exact .inl h
    · refine .inr ⟨h1, b0, h2, ?_⟩
      rw [upd_ne (ne_of h3 hx (by intro z; cases z))]
      exact k2 _ _ (k1 _ _ h3)
  refine ⟨_, rfl, c, v, rfl, e3, fun b2 H3 k3 hb2 => ?_⟩
  refine ⟨_, rfl, x, _, dx, _, rfl, k3 _ _ upd_same, T.c_Rule, T.n_Rule_acts, by show 1 < 1000; decide, ?_⟩
  refine q _ (fun b o e n => ?_) ⟨dx, b2, upd_same, ?_⟩
  · have n' : b ≠ x := fun z => n (by rw [z]; exact List.mem_cons_self)
    rw [upd_ne n']
    refine k3 _ _ ?_
    rw [upd_ne n']
    exact k2 _ _ (k1 _ _ e)
  · exact SqT.updI hb2 (k3 _ _ upd_same)
def spRuleEq (K : PySem.W.Frag) : Sp := fun vs H Q _ => ∃ x y u, vs = [.ref x, .ref y] ∧ RuAt K H x u ∧ RuAt K H y u ∧ ∀ H', Same H H' → Q (.bl true) H'
theorem ok_RuleEq (T : Tx w K mg) : Mt P w K mg base CX0 1 "Rule" "__eq__" (spRuleEq K) := by
  refine ⟨T.d_RuleEq.r sc_RuleEq bi_RuleEq (fun vs H Q E h => ?_) (fun cdv A outer s H vs Q E hr h => ?_), T.m_Rule___eq__, T.c_Rule⟩
  · obtain ⟨x, y, u, rfl, _⟩ := h
    rfl
  obtain ⟨x, y, u, rfl, ⟨dx, b, hx, hb⟩, ⟨dy, b', hy, hb'⟩, q⟩ := h
  refine ⟨_, pss_one (ps_ret (pe_and (pe_callB (C8.call_isC T.iRule) (by rfl) T.b_isinstance (by decide +kernel) (pa_cons (pv 1) (pa_cons (kr T.g_Rule) pa_nil)))
    (pe_one (pe_cmpR (op_eqD hr.units) (pe_tup (pa_cons (pe_fld (pv 0) rfl) (pa_cons (pe_fld (pv 0) rfl) pa_nil))) (pe_tup (pa_cons (pe_fld (pv 1) rfl) (pa_cons (pe_fld (pv 1) rfl) pa_nil))) (nomark _))))), ?_⟩
  refine ⟨_, rfl, y, dy, _, rfl, hy, true, rfl, it rfl ?_⟩
  refine ⟨_, rfl, x, _, dx, _, _, rfl, hx, T.c_Rule, T.n_Rule_asks, rfl, ?_⟩
  refine ⟨_, rfl, x, _, dx, _, _, rfl, hx, T.c_Rule, T.n_Rule_acts, rfl, by show 2 ≤ sizeLine; decide, fun p hp => ?_⟩
  have hy2 := same_upd (o := HO.tup [.str (mdS u.1), .ref b]) hp y _ hy
  refine ⟨_, rfl, y, _, dy, _, _, rfl, hy2, T.c_Rule, T.n_Rule_asks, rfl, ?_⟩
  refine ⟨_, rfl, y, _, dy, _, _, rfl, hy2, T.c_Rule, T.n_Rule_acts, rfl, by show 2 ≤ sizeLine; decide, fun p2 hp2 => ?_⟩
  have k1 := same_upd (o := HO.tup [.str (mdS u.1), .ref b]) hp
  have k2 := same_upd (o := HO.tup [.str (mdS u.1), .ref b']) hp2
  refine ⟨.tuple [.str (mdS u.1), .tuple (actsD u.2)], .tuple [.str (mdS u.1), .tuple (actsD u.2)], .tup (SqT.of (k2 _ _ upd_same)) (.cons (.str _) (.cons (.tup (Same.seqT k2 (Same.seqT k1 hb)) (actsDp _)) .nil)),
    .tup (SqT.of upd_same) (.cons (.str _) (.cons (.tup (Same.seqT k2 (Same.seqT k1 hb')) (actsDp _)) .nil)), ?_, ?_, ?_⟩
  · exact ruD_shaped u
  · exact ruD_shaped u
  · show Q (.bl (PyData.eqv (ruD u) (ruD u))) _
    rw [SeqAt.eqv_refl _ (ruD_lay u)]
    exact q _ fun b o e => k2 _ _ (k1 _ _ e)
/-- RESULTS.index -/
def rsI : K68.Rs → Nat
  | .yes => 0 | .no => 1 | .skip => 2 | .gone => 3
def spActFor (K : PySem.W.Frag) : Sp := fun vs H Q _ => ∃ x u r, vs = [.ref x, .str (rsS r)] ∧ RuAt K H x u ∧ Q (acV (u.2.act r)) H
theorem ok_ActFor (T : Tx w K mg) : Mt P w K mg base CX0 1 "Rule" "action_for" (spActFor K) := by
  refine ⟨T.d_RuleAct.r sc_RuleAct bi_RuleAct (fun vs H Q E h => ?_) (fun cdv A outer s H vs Q E hr h => ?_), T.m_Rule_action_for, T.c_Rule⟩
  · obtain ⟨x, u, r, rfl, _⟩ := h
    rfl
  obtain ⟨x, ⟨m, c⟩, r, rfl, ⟨dx, b, hx, hb⟩, q⟩ := h
  refine ⟨_, pss_one (ps_ret (pe_ix ix_tup (pe_fld (pv 0) rfl) (pe_bm PySem.F.plainAttrs_tuple PySem.F.slot_tuple_index PySem.F.type_tuple_index mt_tup_index (kr T.g_RESULTS) (pa_cons (pv 1) pa_nil)) (fun _ _ => rfl))), ?_⟩
  refine ⟨_, rfl, x, _, dx, _, _, rfl, hx, T.c_Rule, T.n_Rule_acts, rfl, ?_⟩
  refine ⟨.inr (.inl ⟨rfl, T.tupRES⟩), _, rfl, _, ["yes", "no", "skip", "gone"], rsS r, rsI r, rfl, rfl, T.tRES _, ?_, ?_, ?_⟩
  · cases r <;> rfl
  · intro m hm
    cases r with
    | yes => exact absurd hm (Nat.not_lt_zero _)
    | no => exact match m, hm with | 0, _ => by decide
    | skip => exact match m, hm with | 0, _ => by decide | 1, _ => by decide
    | gone => exact match m, hm with | 0, _ => by decide | 1, _ => by decide | 2, _ => by decide
  · refine ⟨b, actsV c, _, acV (c.act r), rfl, rfl, hb, atI_nat ?_, q⟩
    cases r <;> rfl
end
end K6
set_option Elab.async false
set_option linter.all false
set_option maxRecDepth 100000
set_option maxHeartbeats 1000000
/-! K68Exc: the exceptions with an __init__ of their own -/
namespace K6
open PySem PySem.Spec PyProof.Rows L2
section
variable {X : Cx} {e o : Expr} {es : List Expr} {ta : TA} {p1 p2 p pos : Pos} {SE : Addr} {x : Str}
/-- StackError.__init__(self, ..): ValueError's -/
theorem pe_seinit {pl : Sem Bool} (hg : Gl X x) (hm : X.mg x = some (.ref SE)) (hr : PySem.W.readsIn X.K SE (.type "type") = true) (hs : PySem.W.specialIn X.K (.ref SE) "__getattribute__" = some (some (.builtin "type.__getattribute__")))
    (vV : PySem.W.findCls X.K (.ref SE) (.type "type") "__init__" = some (.val (.builtin "ValueError.__init__"))) (ha : PA X (e :: es) ta)
    (hc : eval (.Call (.Attribute (.Name x p1) "__init__" p2) (e :: es) [] pos) X.env = (do
      let ov ← eval (.Name x p1) X.env
      standAt p2.atName
      let (f, first) ← holding [ov] (getMethod ov "__init__" pl)
      callWith pos f first (backTo pos (starEach (e :: es) X.env)) (backToKw pos (keywordEach [] X.env))) := by rfl)
    (he : starEach (e :: es) X.env = (false, eval e X.env) :: starEach es X.env := by rfl) (hpl : (backTo pos (starEach es X.env)).any (·.1) = false := by rfl) (hdb : (x == ("__debug__" : Str)) = false := by decide) :
    PE X (.Call (.Attribute (.Name x p1) "__init__" p2) (e :: es) [] pos) (tVeI X.K ta) := by
  refine ⟨fun pins s σ H Q I h => ?_⟩
  refine PySem.W.methodCall_KW (ld_glob I hg hm ?_ hdb) hc
  refine PySem.W.method_cls I.kIn hs ?_
  refine PySem.W.cls_value I.kIn hr vV (by decide +kernel) ?_
  show wpAny _ _ (callWith pos (Value.builtin "ValueError.__init__") [] (backTo pos (starEach (e :: es) X.env)) []) _ _ _
  refine PyProof.Rows.callWith_method1 (thn (ha.run pos pins _ σ H _ (I.tok _) h) fun us s1 ⟨vs, H1, I1, r1, a, C, ws, ev, hl, T, ea, q⟩ => ?_) he hpl
  subst ev
  obtain ⟨u0, ur, rfl, ra, rw'⟩ : ∃ u0 ur, us = u0 :: ur ∧ RelV (.ref a) u0 ∧ Vals ws ur := by
    cases r1 with
    | cons ra rw' => exact ⟨_, _, rfl, ra, rw'⟩
  obtain rfl : u0 = Value.ref a := ra
  have hlen : ur.length ≤ sizeLine := by
    rw [← Paired.length rw']
    exact Nat.le_trans hl (by decide)
  exact oinit_ok T I1 ea hlen fun s' J => ⟨.non, H1, J, rfl, q⟩
/-- C(e, ..), its context None -/
theorem pmk_oexN {C fI : Addr} {k : Nat} {sp : Sp} (T : OexC X.K C) (iC : PySem.W.findIn X.K (.ref C) "__init__" = some (some (.ref fI))) (tI : PySem.W.typeIn X.K (.ref fI) = some (.type "function"))
    (F1 : FnR X.prog X.w X.K X.mg X.base CX0 k fI sp) (hr : Room (k + 1) X.A) (hg : Gl X x) (hm : X.mg x = some (.ref C)) (ha : PA X (e :: es) ta)
    (hdb : (x == ("__debug__" : Str)) = false := by decide) (he : starEach (e :: es) X.env = (false, eval e X.env) :: starEach es X.env := by rfl) (hpl : (backTo pos (starEach es X.env)).any (·.1) = false := by rfl) :
    L2N.PMk X (.Call (.Name x p) (e :: es) [] pos) (tMkO C sp [] ta) := by
  intro pins s σ H Q I h
  obtain ⟨nm, qn, N, bs, bm, sn, sub, ab, col, dd, k0, k1, k2, k3, k5, hC, hbm⟩ := T.cls
  refine wpAny_Call_Name_kw (ld_glob I hg hm ?_ hdb)
  refine PySem.W.callWith_K (h₀ := X.base) I.ok.mod.kin T.kC (thn (ha.run pos pins s σ H _ I h) fun us s1 ⟨vs, H1, I1, r1, hz, q1⟩ => ⟨I1.kIn, ?_⟩) he hpl
  show wpAny _ _ (call (.ref C) us) _ _ _
  obtain ⟨hp, g, dr, tk, os⟩ := s1
  have hsz : hp.objs.size ≤ hp.objs.size + 1 := Nat.le_succ _
  have hn : H1 (hp.objs.size + 1) = none := I1.hok.fresh hsz
  have hq := q1 (hp.objs.size + 1) hn
  rw [List.append_nil] at hq
  have grow : ∀ b u, hp.get? b = some u → ((hp.push (PySem.W.kdv_tup us)).push (PySem.HandSPX.excO C hp.objs.size)).get? b = some u := fun b u z => Heap.get?_push_of_some _ (Heap.get?_push_of_some _ z)
  have here : ((hp.push (PySem.W.kdv_tup us)).push (PySem.HandSPX.excO C hp.objs.size)).get? (hp.objs.size + 1) = some (PySem.HandSPX.excO C hp.objs.size) := by heap_get
  have I2 : Inv X pins σ (upd H1 (hp.objs.size + 1) (exo (hp.objs.size + 1) C none)) ⟨(hp.push (PySem.W.kdv_tup us)).push (PySem.HandSPX.excO C hp.objs.size), g, dr, tk, os⟩ :=
    Inv.laid (t' := tk) (h' := (hp.push (PySem.W.kdv_tup us)).push (PySem.HandSPX.excO C hp.objs.size)) I1 grow hsz (exo_ok here)
  have r2 : Vals (V.ref (hp.objs.size + 1) :: vs) (Value.ref (hp.objs.size + 1) :: us) := Paired.cons (F := RelV) rfl r1
  have hus : us.length ≤ sizeLine := by
    rw [← Paired.length r1]
    exact Nat.le_trans hz (by decide)
  refine wpAny_call (PySem.HandSPX.call_own F.excBase_ValueError (fun Y => PySem.HandSPX.refsVE_contains Y bm hbm) (I1.kIn _ _ hC) (PySem.W.looks_findIn I1.kIn iC) (fun self => PySem.W.bind_fn I1.kIn self tI) hus
    (codeAny_mono (F1 _ X.stack _ _ (Value.ref (hp.objs.size + 1) :: us) (V.ref (hp.objs.size + 1) :: vs) _ (fun _ _ _ => False) (hr.make C us []) (I2.env0.make C us []) r2 hq) fun r s' hq' => ?_))
  cases r with
  | error er => exact hq'.elim
  | ok fl =>
    cases fl with
    | ret u =>
      obtain ⟨v, H2, os2, bare2, un2, hok2, rv, ev, d, fs, ea, ed, hd1, q2⟩ := hq'
      subst ev
      obtain ⟨h2, g2, d2, t2, os'⟩ := s'
      obtain ⟨t0, G, J, kG, ge, hoe, na⟩ := mk_end0 (d2 := d2) (t2 := t2) I1 hsz grow un2 hok2 os2 bare2 ea ed hd1
      refine ⟨rv, hp.objs.size + 1, _, _, ⟨G, g2, d2, t2, os'⟩, _, .ref C, some d, rfl, J, kG, ge, hoe, ⟨rfl, rfl, fun ws hv => ?_⟩, rfl, rfl, na, rfl, bare2, raises_own T.exC T.tyC, q2⟩
      cases hv
      rfl
    | next => exact hq'.elim
    | brk => exact hq'.elim
    | cont => exact hq'.elim
end
section
variable {P : Program} {w : World} {K : PySem.W.Frag} {mg : Str → Option Value} {base : Heap}
/-- what the __init__ of an exception does: its one attribute -/
def spX (C : Addr) (f : Str) (ok : V → Prop) : Sp := fun vs H Q _ => ∃ a y, vs = [.ref a, y] ∧ ok y ∧ H a = some (exo a C none) ∧ ∀ dx, H dx = none → dx ≠ a → Q .non (upd (upd H dx (exd dx [(f, y)])) a (exo a C (some dx)))
def okIx (v : V) : Prop := v = .int 12
theorem ok_XStk (T : Tx w K mg) : FnR P w K mg base CX0 1 (ma K (ga K "InvalidStack") "__init__") (spX (ga K "InvalidStack") "index" okIx) := by
  refine T.d_XStk.r sc_XStk bi_XStk (fun vs H Q E h => ?_) (fun cdv A outer s H vs Q E hr h => ?_)
  · obtain ⟨a, y, rfl, _⟩ := h
    rfl
  obtain ⟨a, y, rfl, rfl, ha, q⟩ := h
  refine ⟨_, pss_cons (ps_expr (pe_seinit (by rfl) T.g_StackError T.base.1 T.base.2.1 T.base.2.2 (pa_cons (pv 0) (pa_cons (pe_joined (.cons pe_str (.cons (pe_fmt (pv 1)) .nil))) pa_nil))))
    (pss_one (ps_ost (pv 0) (pv 1))), ?_⟩
  refine ⟨_, rfl, _, rfl, by decide, _, rfl, .inr ⟨12, rfl, by decide +kernel, _, rfl, by decide +kernel, a, _, _, rfl, by show 1 ≤ 1000; decide, T.oStk, ha, ?_⟩⟩
  exact ⟨_, rfl, _, rfl, a, _, rfl, T.oStk, T.n_InvalidStack_index, .inl ⟨ha, q⟩⟩
theorem ok_XExe (T : Tx w K mg) : FnR P w K mg base CX0 1 (ma K (ga K "ExecutionFailed") "__init__") (spX (ga K "ExecutionFailed") "row" fun _ => True) := by
  refine T.d_XExe.r sc_XExe bi_XExe (fun vs H Q E h => ?_) (fun cdv A outer s H vs Q E hr h => ?_)
  · obtain ⟨a, y, rfl, _⟩ := h
    rfl
  obtain ⟨a, y, rfl, _, ha, q⟩ := h
  refine ⟨_, pss_cons (ps_expr (pe_seinit (by rfl) T.g_StackError T.base.1 T.base.2.1 T.base.2.2 (pa_cons (pv 0) (pa_cons pe_str pa_nil))))
    (pss_one (ps_ost (pv 0) (pv 1))), ?_⟩
  refine ⟨_, rfl, a, _, _, rfl, by show 1 ≤ 1000; decide, T.oExe, ha, ?_⟩
  exact ⟨_, rfl, _, rfl, a, _, rfl, T.oExe, T.n_ExecutionFailed_row, .inl ⟨ha, q⟩⟩
/-- .. while an exception is handled -/
theorem hot_XExe (T : Tx w K mg) : ∃ fd, L2H.FnH P w K mg base CX0 1 (ma K (ga K "ExecutionFailed") "__init__") fd ["self", "row"] (spX (ga K "ExecutionFailed") "row" fun _ => True) ∧ Binds K fd ["self", "row"] [] := by
  obtain ⟨fd, F⟩ := T.d_XExe
  refine ⟨fd, ?_, F.bindsN bi_XExe⟩
  obtain ⟨oc, od, dV, kV, doc, pm, an, cdv, ct, osl, rfl, lk, hcd, _, _⟩ := F.ex
  refine L2H.fn_ofH lk hcd sc_XExe (fun vs H Q E h => ?_) fun A outer s H vs Q E p hot hr h => ?_
  · obtain ⟨a, y, rfl, _⟩ := h
    rfl
  obtain ⟨a, y, rfl, _, ha, q⟩ := h
  refine ⟨_, pss_cons (ps_expr (pe_seinit (by rfl) T.g_StackError T.base.1 T.base.2.1 T.base.2.2 (pa_cons (pv 0) (pa_cons pe_str pa_nil))))
    (pss_one (ps_ost (pv 0) (pv 1))), ?_⟩
  refine ⟨_, rfl, a, _, _, rfl, by show 1 ≤ 1000; decide, T.oExe, ha, ?_⟩
  exact ⟨_, rfl, _, rfl, a, _, rfl, T.oExe, T.n_ExecutionFailed_row, .inl ⟨ha, q⟩⟩
end
end K6
set_option Elab.async false
set_option linter.all false
set_option maxRecDepth 100000
set_option maxHeartbeats 4000000
/-! K68Set: sets of texts: set(list), sorted(set) -/
namespace K6
open PySem PySem.Spec PyProof.Rows L2
open PySem.Froz (SD sObj TxOk addTx tailTx add_x)
def strOf : Value → Str
  | .str x _ => x
  | _ => Str.empty
def TxE (w : World) (e : Int × Value) : Prop := ∃ x u, e = (hashStr w x, Value.str x u)
/-- the payload holds the texts l, its table can be walked -/
structure StT (w : World) (D : SD) (l : List Str) : Prop where
  good : ∀ e ∈ D.1.toList, TxE w e
  perm : (D.1.toList.map fun e => strOf e.2).Perm l
  fit : D.2.2.fits D.1.size = true
  ris : Ris D.2.2.place.toList
  led : w.params.followText "set-order" = true ∨ D.2.2.led = true
section
variable {P : Program} {w : World} {D : SD} {l : List Str} {k : Str}
theorem is_txt (k : Str) (u : Tok) (j : Str) : (strKind P w).is k (.str j u) = true ↔ j = k := by
  show Value.isStrOf k (.str j u) = true ↔ j = k
  simp [Value.isStrOf]
theorem StT.size (F : StT w D l) : D.1.size = l.length := by
  rw [← F.perm.length_eq, List.length_map, Array.length_toList]
theorem StT.elems (F : StT w D l) : ElemsOf (strKind P w) D.1.toList := fun e he => by
  obtain ⟨x, u, rfl⟩ := F.good e he
  exact ⟨⟨x, (is_txt x u x).mpr rfl, rfl⟩, rfl⟩
theorem StT.mem (F : StT w D l) (k : Str) : k ∈ l ↔ ∃ e ∈ D.1.toList, (strKind P w).is k e.2 = true := by
  rw [← F.perm.mem_iff, List.mem_map]
  constructor
  · rintro ⟨e, he, q⟩
    obtain ⟨x, u, rfl⟩ := F.good e he
    exact ⟨_, he, (is_txt k u x).mpr q⟩
  · rintro ⟨e, he, q⟩
    obtain ⟨x, u, rfl⟩ := F.good e he
    exact ⟨_, he, (is_txt k u x).mp q⟩
theorem StT.tx (F : StT w D l) : TxOk P w D l := ⟨F.elems, F.mem, F.size, F.fit⟩
theorem StT.tail {es1 : Array (Int × Value)} {t2 : SetTable} {ep : Nat} {wd : Bool} (F : StT w (es1, ep, t2) l) : StT w (tailTx ep es1 t2 wd) l := by
  unfold tailTx
  by_cases c : (!wd && t2.tooFull) = true
  · rw [if_pos c]
    have pm := relayAll_perm t2 es1 (SetTable.grown es1.size)
    refine ⟨fun e he => F.good e (pm.mem_iff.mp he), (pm.map _).trans F.perm, relayAll_fits t2 es1 _, relayAll_ris t2 es1 _, ?_⟩
    rw [relayAll_led]
    exact F.led
  · rw [if_neg c]
    exact ⟨F.good, F.perm, F.fit, F.ris, F.led⟩
theorem StT.add (u : Tok) (F : StT w D l) : StT w (addTx (hashStr w k) (.str k u) D) (k :: l) := by
  obtain ⟨es, ep, t⟩ := D
  have pm := layNew_perm t es (hashStr w k) (.str k u)
  have hf := layNew_fits t es (hashStr w k) (.str k u)
  have hr := layNew_ris t es (hashStr w k) (.str k u) F.ris
  have hl := layNew_led t es (hashStr w k) (.str k u)
  rw [Array.toList_push] at pm
  have pc := pm.trans (List.perm_append_singleton _ _)
  have hled : w.params.followText "set-order" = true ∨ (layNew t es (hashStr w k) (.str k u)).2.1.led = true := F.led.imp id fun z => by rw [hl]; exact z
  have base : StT w ((layNew t es (hashStr w k) (.str k u)).1, ep, (if (layNew t es (hashStr w k) (.str k u)).2.1.plain = true then { (layNew t es (hashStr w k) (.str k u)).2.1 with plain := false } else (layNew t es (hashStr w k) (.str k u)).2.1)) (k :: l) := by
    refine ⟨fun e he => ?_, ?_, ?_, ?_, ?_⟩
    · rcases List.mem_cons.mp (pc.mem_iff.mp he) with z | z
      · rw [z]; exact ⟨k, u, rfl⟩
      · exact F.good e z
    · exact (List.Perm.map (fun e : Int × Value => strOf e.2) pc).trans (F.perm.cons k)
    · dsimp only
      split
      · exact SetTable.fits_plain_off hf
      · exact hf
    · dsimp only
      split <;> exact hr
    · dsimp only
      split <;> exact hled
  exact base.tail
end
/-- the set of the texts l at a -/
def SetT (w : World) (h : Heap) (a : Addr) (l : List Str) : Prop := ∃ D : SD, h.get? a = some (sObj "set" D) ∧ StT w D l
theorem SetT.at {w : World} {h h' : Heap} {a : Addr} {l : List Str} (R : SetT w h a l) (k : ∀ o, h.get? a = some o → h'.get? a = some o) : SetT w h' a l := by
  obtain ⟨D, ho, F⟩ := R
  exact ⟨D, k _ ho, F⟩
/-- texts met, once each -/
def uq : List Str → List Str → List Str
  | acc, [] => acc
  | acc, k :: r => uq (if k ∈ acc then acc else k :: acc) r
theorem uq_nodup : ∀ (r acc : List Str), acc.Nodup → (uq acc r).Nodup
  | [], acc, h => h
  | k :: r, acc, h => by
    show (uq (if k ∈ acc then acc else k :: acc) r).Nodup
    by_cases c : k ∈ acc
    · rw [if_pos c]; exact uq_nodup r acc h
    · rw [if_neg c]; exact uq_nodup r _ (List.nodup_cons.mpr ⟨c, h⟩)
theorem uq_mem : ∀ (r acc : List Str) (x : Str), x ∈ uq acc r ↔ x ∈ acc ∨ x ∈ r
  | [], acc, x => by simp [uq]
  | k :: r, acc, x => by
    show x ∈ uq (if k ∈ acc then acc else k :: acc) r ↔ _
    rw [uq_mem r]
    by_cases c : k ∈ acc
    · rw [if_pos c, List.mem_cons]
      constructor
      · rintro (h | h)
        · exact .inl h
        · exact .inr (.inr h)
      · rintro (h | h | h)
        · exact .inl h
        · exact .inl (h ▸ c)
        · exact .inr h
    · rw [if_neg c, List.mem_cons, List.mem_cons]
      constructor
      · rintro ((h | h) | h)
        · exact .inr (.inl h)
        · exact .inl h
        · exact .inr (.inr h)
      · rintro (h | h | h)
        · exact .inl (.inr h)
        · exact .inl (.inl h)
        · exact .inr h
section
variable {P : Program} {w : World} {A : Around} {E : Value → Shared → Prop} {s : Shared} {a : Addr} {l : List Str}
/-- s.add(k), k there or not -/
theorem setT_add {k : Str} {u : Tok} {Q : Bool → Shared → Prop} (R : SetT w s.heap a l) (room : l.length + 1 < scanBound)
    (hQ : ∀ b h', Heap.SameBut a s.heap h' → SetT w h' a (if k ∈ l then l else k :: l) → Q b { s with heap := h' }) : wpAny (model P w) A (setAddHashed a (.str k u) (hashStr w k)) Q E s := by
  obtain ⟨D, ho, F⟩ := R
  by_cases c : k ∈ l
  · rw [if_pos c] at hQ
    have hq := hQ false s.heap (Heap.SameBut.refl a s.heap) ⟨D, ho, F⟩
    obtain ⟨es, ep, t⟩ := D
    have hd : (sObj "set" (es, ep, t)).data = .set es ep t := rfl
    have hf : t.fits es.size = true := F.fit
    have hel : ElemsOf (strKind P w) es.toList := F.elems
    have hsz : es.size = l.length := F.size
    have hb0 : es.size < scanBound := by omega
    have hkey : (strKind P w).is k (.str k u) = true := (is_txt k u k).mpr rfl
    obtain ⟨e, he, q⟩ := (F.mem (P := P) k).mp c
    unfold setAddHashed setAddHashedIn
    refine wpAny_holding (wpAny_bind (wpAny_setState_of ho hd hf ?_))
    dsimp only
    rw [byScan_of rfl hb0 hel]
    simp only [↓reduceIte]
    unfold setAddByScan
    refine wpAny_bind ?_
    refine wpAny_bind (wpAny_rule ?_)
    refine wpAny_bind (wpAny_setScan_of (knd := strKind P w) (k := k) hkey ho hd hf hel ?_)
    cases hfi : List.findIdx? (fun e => (strKind P w).is k e.2) es.toList with
    | some j =>
      dsimp only
      exact wpAny_pure (wpAny_pure hq)
    | none =>
      have z := List.findIdx?_eq_none_iff.mp hfi e he
      rw [q] at z
      cases z
  · rw [if_neg c] at hQ
    refine add_x ho (F.tx (P := P)) c room (hQ true _ (Heap.SameBut.update ..) ⟨_, PySem.Froz.get_upd _ ho rfl, F.add u⟩)
/-- set.update's loop over texts -/
theorem setT_loop {I : Addr} {fp wr : List Addr} {G : Array GenState → Array GenState → Prop} {n : Nat} {Pv : Nat → Value → Prop} {St : Nat → Shared → Prop} {R : Result → Shared → Prop} (W : WalksS P w A.in1 I fp wr G n Pv St) (S : Addr) (hSf : S ∉ fp)
    (xs : List Str) (hx : xs.length = n) (hval : ∀ i v, Pv i v → ∃ x t, xs[i]? = some x ∧ v = .str x t) :
    ∀ (k i : Nat) (acc : List Str) (s : Shared), n - i = k → i ≤ n → acc.length + k + 1 < scanBound → St i s → SetT w s.heap S acc →
      (∀ s', Moved (S :: wr) G s s' → SetT w s'.heap S (uq acc (xs.drop i)) → R (.ok (.ret .none)) s') →
      codeAny (model P w) A (.builtin "set.update.loop" ⟨[.ref S, .ref I], []⟩) R s := by
  have hSw : S ∉ wr := fun h => hSf (W.sub _ h)
  have hsub : ∀ b ∈ wr, b ∈ S :: wr := fun b hb => List.mem_cons_of_mem _ hb
  intro k
  induction k with
  | zero =>
    intro i acc s hk hi hb hst hS hR
    have hin : i = n := by omega
    subst hin
    refine codeAny_builtin F.entry_set_update_loop ?_
    rw [Around.under_plainId F.plain_set_update_loop _]
    show wpAny _ A.in1 (pyNext (.ref I) >>= _) _ _ s
    refine wpAny_bind (W.done s _ _ hst fun s' hm => ?_)
    show wpAny _ A.in1 (ret Value.none) _ _ s'
    refine wpAny_pure (hR s' (hm.mono hsub) ?_)
    rw [List.drop_of_length_le (Nat.le_of_eq hx)]
    exact hS.at fun o e => hm.heap S _ hSw e
  | succ k ih =>
    intro i acc s hk hi hb hst hS hR
    have hlt : i < n := by omega
    refine codeAny_builtin F.entry_set_update_loop ?_
    rw [Around.under_plainId F.plain_set_update_loop _]
    show wpAny _ A.in1 (pyNext (.ref I) >>= _) _ _ s
    refine wpAny_bind (W.item i s _ _ hlt hst fun v s1 hP hst1 hm => ?_)
    obtain ⟨x, t, hxi, rfl⟩ := hval i v hP
    have hd : xs.drop i = x :: xs.drop (i + 1) := by
      obtain ⟨h1, h2⟩ := List.getElem?_eq_some_iff.mp hxi
      rw [List.drop_eq_getElem_cons h1, h2]
    rw [hd] at hR
    have hS1 : SetT w s1.heap S acc := hS.at fun o e => hm.heap S _ hSw e
    show wpAny _ A.in1 (holding [Value.str x t] (setAdd S (.str x t)) >>= _) _ _ s1
    refine wpAny_bind (wpAny_holding ?_)
    unfold setAdd
    refine wpAny_holding ?_
    refine wpAny_bind ((strKind P w).pyHash (k := x) ((is_txt x t x).mpr rfl) ?_)
    refine setT_add (s := { s1 with toks := s1.toks + 1 }) hS1 (by omega) fun b h2 sb hS2 => ?_
    refine wpAny_pure ⟨plainId_quiet F.plain_set_update_loop _, ih (i + 1) _ _ (by omega) hlt ?_ (W.frame _ s1 _ _ hst1 (Nat.le_succ _) fun c hc o e => ?_) hS2 fun s'' hm2 hS3 => ?_⟩
    · split
      · omega
      · rw [List.length_cons]; omega
    · rw [sb.2 c (fun h : c = S => hSf (by rw [← h]; exact hc))]; exact e
    · refine hR s'' (Moved.trans W.gtrans ((hm.mono hsub).then_heap (Nat.le_succ _) fun c o hc e => ?_) hm2) hS3
      rw [sb.2 c (fun h : c = S => hc (by rw [h]; exact List.mem_cons_self))]; exact e
/-- set.__new__(set, x) -/
theorem setT_code {x : Value} {Q₁ : Value → Shared → Prop}
    (h : Q₁ (.ref s.heap.objs.size) { s with heap := s.heap.push { cls := .type "set", dict := none, data := .set #[] 0 (.fresh 0 0 (!w.params.followText "set-order")) } }) :
    codeAny (model P w) A (.call (.builtin "set.__new__") ⟨[.type "set", x], []⟩) (wants Q₁ E) s := by
  refine codeAny_of_tree ?_
  show wpAny _ A.in1 (do checkBuiltinCall "set.__new__" ⟨[.type "set", x], []⟩; again (.builtin "set.__new__" ⟨[.type "set", x], []⟩)) _ _ s
  refine wpAny_bind (wpAny_of_eq (F.newCall_set_1 x) (wpAny_pure ⟨plainId_quiet F.plain_set_new _, codeAny_builtin F.entry_set_new ?_⟩))
  rw [Around.under_plainId F.plain_set_new _]
  unfold Builtin.«set.__new__» Builtin.Frozenset.newClass
  have hsub := sub_set_self
  obtain ⟨hp, g, d, tk, os⟩ := s
  dsimp only
  wp_walk
  refine wpAny_askSetting (wpAny_pure ?_)
  dsimp only
  simp only [newObj]
  refine wpAny_bind (wpAny_alloc (wpAny_pure ?_))
  exact wpAny_pure h
theorem setT_fresh (h : Heap) (w : World) : SetT w (h.push { cls := .type "set", dict := none, data := .set #[] 0 (.fresh 0 0 (!w.params.followText "set-order")) }) h.objs.size [] := by
  refine ⟨(#[], 0, .fresh 0 0 (!w.params.followText "set-order")), Heap.get?_push_size _ rfl, fun e he => by simp at he, by simp, by rfl, List.Pairwise.nil, ?_⟩
  show _ ∨ (!w.params.followText "set-order") = true
  cases w.params.followText "set-order"
  · exact .inr rfl
  · exact .inl rfl
/-- set(list of texts) -/
theorem setT_list {L : Addr} {items : Array Value} {xs : List Str} {Q : Value → Shared → Prop}
    (hh : A.handled = none) (hl : s.heap.IsList L items) (hi : StrsAre items.toList xs) (hb : xs.length + 1 < scanBound)
    (h : ∀ (h' : Heap) (tk : Nat), SetT w h' s.heap.objs.size (uq [] xs) → (∀ b o, s.heap.get? b = some o → h'.get? b = some o) → Q (.ref s.heap.objs.size) { s with heap := h', toks := tk }) :
    wpAny (model P w) A (call (.type "set") [.ref L]) Q E s := by
  obtain ⟨c, tl, hmro⟩ := F.called_set.mro
  have hmade := F.called_set.made
  have hsub := F.called_set.sub
  refine wpAny_call (codeAny_of_tree ?_)
  show wpAny _ _ (callAny (.type "set") _) _ _ _
  refine wpAny_pure ⟨Code.quiet_builtin _ (by decide +kernel), codeAny_builtin F.entry_type_call ?_⟩
  rw [Around.under_plain (weight_type_call_type "set" [.ref L] []) rfl]
  have h1 := F.called_set.notType
  have h2 := F.called_set.canCreate
  have hct := F.typeCall_set_1 (.ref L)
  repeat (any_goals (first | assumption | wp_step))
  refine codeAny_mono (setT_code (E := E) (Q₁ := fun obj s₁ => obj = .ref s.heap.objs.size ∧ s₁ = { s with heap := s.heap.push { cls := .type "set", dict := none, data := .set #[] 0 (.fresh 0 0 (!w.params.followText "set-order")) } }) ⟨rfl, rfl⟩) fun r s₁ hr => ?_
  cases r with
  | error e => exact hr
  | ok fl =>
    cases fl with
    | ret obj =>
      obtain ⟨rfl, rfl⟩ := hr
      have new := setT_fresh s.heap w
      generalize hO : (!w.params.followText "set-order") = led at new ⊢
      have hS : (s.heap.push { cls := .type "set", dict := none, data := .set #[] 0 (.fresh 0 0 led) }).get? s.heap.objs.size = some { cls := .type "set", dict := none, data := .set #[] 0 (.fresh 0 0 led) } := Heap.get?_push_size _ rfl
      have hT : Shared.TypeIs { s with heap := s.heap.push { cls := .type "set", dict := none, data := .set #[] 0 (.fresh 0 0 led) } } (.ref s.heap.objs.size) "set" := ⟨_, hS, rfl⟩
      have hli := F.called_set.init.lookup
      have hbi := F.called_set.init.bind (.ref s.heap.objs.size)
      repeat (any_goals (first | assumption | wp_step))
      refine codeAny_mono (codeAny_call_builtin (R := wants (fun r s₂ => r = .none ∧ ∃ h' tk, s₂ = { s with heap := h', toks := tk } ∧
          SetT w h' s.heap.objs.size (uq [] xs) ∧ (∀ b o, s.heap.get? b = some o → h'.get? b = some o)) E) F.called_set.init.plain F.entry_set_init (check_set_init_1 hT ?_)) fun r₂ s₂ hr₂ => ?_
      · obtain ⟨ol, hol, hcl, nl, hdl⟩ := hl
        obtain ⟨ocls, odict, odata, oslots⟩ := ol
        simp only at hcl hdl
        subst hcl; subst hdl
        have hol' : (s.heap.push { cls := .type "set", dict := none, data := .set #[] 0 (.fresh 0 0 led) }).get? L = some { cls := .type "list", dict := odict, data := .seq items nl, slots := oslots } := Heap.get?_push_of_some _ hol
        have hsls := F.sub_list_set
        have hslf := F.sub_list_frozenset
        have hne : (Value.type "list" == Value.type "dict") = false := by decide
        have hl1 : (s.heap.push { cls := .type "set", dict := none, data := .set #[] 0 (.fresh 0 0 led) }).IsList L items := ⟨_, hol', rfl, nl, rfl⟩
        unfold Builtin.«set.__init__» noKeywords Builtin.Frozenset.updateFrom
        generalize hPI : pyIter = PI
        wp_walk
        subst hPI
        refine wpAny_pyIter_list hl1 ?_
        refine wpAny_bind (wpAny_runValue ?_)
        have hlS : L < s.heap.objs.size := Heap.lt_size hol
        have hh3 : A.in1.in1.in1.handled = none := by simp [hh]
        have hz1 : (s.heap.push { cls := .type "set", dict := none, data := .set #[] 0 (.fresh 0 0 led) }).objs.size = s.heap.objs.size + 1 := Heap.size_push _ _
        have hneI : L ≠ (s.heap.push { cls := .type "set", dict := none, data := .set #[] 0 (.fresh 0 0 led) }).objs.size := by
          rw [hz1]; exact Nat.ne_of_lt (Nat.lt_succ_of_lt hlS)
        have hSf : s.heap.objs.size ∉ [(s.heap.push { cls := .type "set", dict := none, data := .set #[] 0 (.fresh 0 0 led) }).objs.size, L] := by
          rw [hz1]; simp only [List.mem_cons, List.not_mem_nil, or_false, not_or]
          exact ⟨Nat.ne_of_lt (Nat.lt_succ_self _), Nat.ne_of_gt hlS⟩
        have hsz : xs.length = items.size := by rw [← StrsAre.len_eq hi, Array.length_toList]
        have hval : ∀ (i : Nat) (v : Value), items[i]? = some v → ∃ x t, xs[i]? = some x ∧ v = .str x t := fun i v hv => by
          obtain ⟨t, e⟩ := SS.strs_at hi i v (by rw [Array.getElem?_toList]; exact hv)
          have hlt : i < xs.length := by rw [hsz]; exact (Array.getElem?_eq_some_iff.mp hv).1
          refine ⟨_, t, List.getElem?_eq_getElem hlt, ?_⟩
          rw [e, List.getD_eq_getElem?_getD, List.getElem?_eq_getElem hlt]
          rfl
        refine setT_loop ((Walks.list hh3 _ L hneI items).toS) s.heap.objs.size hSf xs hsz hval (items.size - 0) 0 [] _ (by omega) (Nat.zero_le _) (by rw [List.length_nil]; omega)
          ⟨⟨_, Heap.get?_push_size _ rfl, rfl, rfl⟩, (hl1.push _)⟩ (new.at fun o e => Heap.get?_push_of_some _ e) fun s3 hm hS3 => ?_
        obtain ⟨h', g', d', tk', os'⟩ := s3
        have eg : g' = s.gens := hm.gens
        have ed : d' = s.drawn := hm.drawn
        have eo : os' = s.os := hm.os
        subst eg; subst ed; subst eo
        show wpAny _ _ _ _ _ _
        refine wpAny_pure ?_
        show wpAny _ _ (ret Value.none) _ _ _
        refine wpAny_pure ⟨rfl, h', tk', rfl, hS3, fun b o e => ?_⟩
        have hb : b < s.heap.objs.size := Heap.lt_size e
        have hb1 : b ≠ s.heap.objs.size := Nat.ne_of_lt hb
        have hb2 : b ≠ (s.heap.push { cls := .type "set", dict := none, data := .set #[] 0 (.fresh 0 0 led) }).objs.size := by
          rw [hz1]; exact Nat.ne_of_lt (Nat.lt_succ_of_lt hb)
        exact hm.heap b o (by simp only [List.mem_cons, List.not_mem_nil, or_false, not_or]; exact ⟨hb1, hb2⟩) (Heap.get?_push_of_some _ (Heap.get?_push_of_some _ e))
      · cases r₂ with
        | error e => exact hr₂
        | ok fl₂ =>
          cases fl₂ with
          | ret r =>
            obtain ⟨rfl, h', tk, rfl, hS', hk'⟩ := hr₂
            repeat (any_goals (first | assumption | wp_step))
            exact h _ _ hS' hk'
          | _ => exact hr₂.elim
    | _ => exact hr.elim
end
end K6
set_option Elab.async false
set_option linter.all false
set_option maxRecDepth 100000
set_option maxHeartbeats 4000000
/-! K68Sort: set(list of texts), sorted(set of texts) as rules -/
namespace K6
open PySem PySem.Spec PyProof.Rows L2
open PySem.Froz (SD sObj TxOk addTx tailTx add_x)
theorem strsAre_strOf : ∀ (l : List Value), (∀ v ∈ l, ∃ x t, v = Value.str x t) → StrsAre l (l.map strOf)
  | [], _ => .nil
  | v :: l, h => by
    obtain ⟨x, t, rfl⟩ := h v List.mem_cons_self
    exact .cons x t (strsAre_strOf l fun u hu => h u (List.mem_cons_of_mem _ hu))
theorem vals_of_strs : ∀ {us : List Value} {xs : List Str}, StrsAre us xs → Vals (xs.map V.str) us
  | _, _, .nil => .nil
  | _, _, .cons y t r => .cons ⟨t, rfl⟩ (vals_of_strs r)
section
variable {P : Program} {w : World} {A : Around} {E : Value → Shared → Prop} {s : Shared} {a : Addr} {l : List Str}
theorem setT_sorted {Q : Value → Shared → Prop} (R : SetT w s.heap a l) (hh : A.handled = none) (hb : l.length < scanBound)
    (hQ : ∀ s' p (out : Array Value) (c : Nat) (ss : List Str), (∀ b o, s.heap.get? b = some o → s'.heap.get? b = some o) → s'.gens = s.gens → s'.os = s.os → s.heap.objs.size ≤ p →
      s'.heap.get? p = some (seqObj "list" out c) → StrsAre out.toList ss → ss.Perm l → Q (.ref p) s') :
    wpAny (model P w) A (call (.builtin "sorted") [.ref a]) Q E s := by
  obtain ⟨⟨es, ep, t⟩, ho, F⟩ := R
  have hsz : es.size = l.length := F.size
  have hbb : es.size < scanBound := by rw [hsz]; exact hb
  refine Calls.call_function_entry kind_sorted plain_sorted entry_sorted (args_sorted1 _) ?_
  unfold Builtin.«sorted»
  refine wpAny_bind (m := checkCount "sorted" 1 1 _) (wpAny_pure ?_)
  refine wpAny_bind (collect_set (A := A.in1) hh ⟨_, ho, rfl, rfl⟩ F.fit hbb F.ris F.led fun s1 vs k1 hz g1 o1 pm => ?_)
  have hvl : vs.length = l.length := by rw [pm.length_eq, List.length_map, Array.length_toList]; exact hsz
  have hvz : vs.length ≤ sizeLine := by rw [hvl, ← hsz]; exact fits_of_scanBound hbb
  have hI : StrsAre vs (vs.map strOf) := strsAre_strOf vs fun v hv => by
    obtain ⟨e, he, q⟩ := List.mem_map.mp (pm.mem_iff.mp hv)
    obtain ⟨x, u, rfl⟩ := F.good e he
    exact ⟨x, u, q.symm⟩
  have pk : (vs.map strOf).Perm l := by
    have q := pm.map strOf
    rw [List.map_map] at q
    exact q.trans F.perm
  refine wpAny_bind (wpAny_newList ?_ hvz)
  have hoL : (s1.heap.push (seqObj "list" vs.toArray 0)).get? s1.heap.objs.size = some (seqObj "list" vs.toArray 0) := Heap.get?_push_size _ rfl
  refine wpAny_bind (wpAny_holding (wpAny_call_entry slot_list_sort ⟨_, hoL, rfl⟩ entry_list_sort (list_sort_treeKAny strKind_oneLt hoL hI.keysOf (fun v₁ v₂ rest e => keyKind_strs (by rw [← e]; exact hI)) hvz fun st' a1 a2 => ⟨_, rfl, ?_⟩) (args_list_sort _)))
  obtain ⟨ss, h1, h2, _⟩ := sorted_out_str hI a1 a2
  obtain ⟨c, hc⟩ := sortedHeap_at (vs := vs) (out := (arrOf st').map (·.2)) hoL
  refine wpAny_pure ⟨_, rfl, hQ _ s1.heap.objs.size _ c ss (fun b u e => ?_) g1 o1 hz hc h1 (h2.trans pk)⟩
  have q := k1 b u e
  have hlt := Heap.lt_size q
  show (sortedHeap (s1.heap.push (seqObj "list" vs.toArray 0)) s1.heap.objs.size vs _).get? b = some u
  rw [sortedHeap_old (Nat.ne_of_lt hlt) (by rw [size_push']; exact Nat.lt_succ_of_lt hlt)]
  exact Heap.get?_push_of_some _ q
end
/-- a tracked set of texts -/
def SetO' (w : World) (a : Addr) (l : List Str) : HO := .ext fun h => SetT w h a l
section
variable {X : Cx}
theorem setO'_new {w : World} {P : Program} {H : Hp} {h : Heap} {a : Addr} {l : List Str} (R : SetT w h a l) : ObjOk P w H h a (SetO' w a l) := by
  have ⟨D, ho, _⟩ := R
  exact ⟨R, ⟨_, ho⟩, fun h1 h2 p k => SetT.at p k⟩
theorem setO'_get {pins : List (Addr × Obj)} {σ : L2.St} {H : Hp} {s : Shared} {a : Addr} {l : List Str} (I : Inv X pins σ H s) (ha : H a = some (SetO' X.w a l)) : SetT X.w s.heap a l := (I.hok a _ ha).1
def rSetL (K : PySem.W.Frag) (w : World) : List V → Hp → VK → Prop := fun vs H Q => ∃ (a : Addr) (xs : List Str), vs = [V.ref a] ∧ SqL K H a (xs.map V.str) ∧ xs.length ≤ 1000 ∧ ∀ p, H p = none → Q (.ref p) (upd H p (SetO' w p (uq [] xs)))
theorem cr_setL (hc : X.calm = true) : CallR X (.type "set") (rSetL X.K X.w) := by
  intro pins s σ H vs us Q I r h
  obtain ⟨a, xs, rfl, hs, hz, q⟩ := h
  obtain ⟨its, rv, hl, _⟩ := I.list hs
  rw [Vals.ref1 r]
  refine setT_list (I.ok.hd hc) hl.isList (strsAre_of rv) (Nat.lt_of_le_of_lt (Nat.succ_le_succ hz) (by decide)) fun h' tk R k => ?_
  exact ⟨.ref _, _, I.laid (t' := tk) k (Nat.le_refl _) (setO'_new R), rfl, q _ (I.hok.fresh (Nat.le_refl _))⟩
def rSortT (w : World) : List V → Hp → VK → Prop := fun vs H Q => ∃ (a : Addr) (l : List Str), vs = [V.ref a] ∧ H a = some (SetO' w a l) ∧ l.length ≤ 1000 ∧
  ∀ (ss : List Str) (p : Addr), ss.Perm l → H p = none → Q (.ref p) (upd H p (.lst (ss.map V.str)))
theorem cr_sortT (hc : X.calm = true) : CallR X (.builtin "sorted") (rSortT X.w) := by
  intro pins s σ H vs us Q I r h
  obtain ⟨a, l, rfl, ha, hz, q⟩ := h
  rw [Vals.ref1 r]
  refine setT_sorted (setO'_get I ha) (I.ok.hd hc) (Nat.lt_of_le_of_lt hz (by decide)) fun s' p out c ss k g o hp hg hi pm => ?_
  have hlen : (ss.map V.str).length ≤ sizeLine := by
    rw [List.length_map, pm.length_eq]
    exact Nat.le_trans hz (by decide)
  have hn : H p = none := I.hok.fresh hp
  have J : Inv X pins σ (upd H p (.lst (ss.map V.str))) { s with heap := s'.heap, gens := s'.gens, drawn := s'.drawn, toks := s'.toks } :=
    I.call (ch := []) (Un.laid k hp hn) (I.hok.laid k hp ⟨hlen, out.toList, c, vals_of_strs hi, hg⟩) (by rw [g]; exact I.bare) (fun _ z => nomatch z)
  have e : s' = { s with heap := s'.heap, gens := s'.gens, drawn := s'.drawn, toks := s'.toks } := by
    cases s'
    cases s
    cases o
    rfl
  rw [e]
  exact ⟨.ref p, _, J, rfl, q ss p pm hn⟩
/-- t + u, any tuples -/
def rCat0 (K : PySem.W.Frag) : R2 := fun x y H Q => ∃ a b xs ys, x = .ref a ∧ y = .ref b ∧ SqT K H a xs ∧ SqT K H b ys ∧ xs.length + ys.length ≤ sizeLine ∧
  ∀ p H', (∀ b o, H b = some o → H' b = some o) → SqT K H' p (xs ++ ys) → Q (.ref p) H'
theorem op_cat0 : OpR X (binaryOp .Add) (rCat0 X.K) := by
  intro pins s σ H x y v u Q I rx ry h
  obtain ⟨a, b, xs, ys, rfl, rfl, ha, hb, hz, q⟩ := h
  by_cases e : xs = []
  · subst e
    cases rx
    cases ry
    obtain ⟨its, r1, p1, _⟩ := I.tuple ha
    obtain ⟨its2, r2, p2, _⟩ := I.tuple hb
    obtain ⟨⟨c1, d1, t1, l1⟩, ho, hc, n, hd⟩ := p1
    obtain ⟨⟨c2, d2, t2, l2⟩, ho2, hc2, n2, hd2⟩ := p2
    simp only at hc hd hc2 hd2
    subst hc hd hc2 hd2
    cases r1
    exact concat_meets ⟨_, ho, rfl⟩ ⟨_, ho2, rfl⟩ noFill_tuple_add seq_tuple_add F.slot_tuple_add F.entry_tuple_add (F.args_tuple_add_2 _ _)
      (tuple_addW0 a b _ its2.toArray n n2 d1 d2 l1 l2 (by simp)) ⟨ho, ho2, .ref b, H, I, rfl, q b H (fun _ _ e => e) hb⟩
  · refine op_catT pins s σ H _ _ _ _ Q I rx ry ⟨a, b, xs, ys, rfl, rfl, ha, hb, e, hz, fun e2 => ?_, fun _ p hp => q p _ (fun b o z => ?_) (SqT.of upd_same)⟩
    · subst e2
      exact q a H (fun _ _ e => e) (by rw [List.append_nil]; exact ha)
    · rw [upd_ne (ne_of_none z hp)]
      exact z
end
end K6
set_option Elab.async false
set_option linter.all false
set_option maxRecDepth 100000
set_option maxHeartbeats 4000000
/-! K68Iter: enumerate(tuple), zip(tuple, list) -/
namespace K6
open PySem PySem.Spec PyProof.Rows L2
open AutoSeq1 (wpAny_loadPart')
/-- enumerate.__new__ of a tuple -/
theorem meets_enumT (l : Addr) (items : Array Value) (n : Nat) (dct : Option Addr) (sl : Array (Option Value)) :
    Meets (Builtin.«enumerate.__new__» ⟨[.type "enumerate", .ref l], []⟩) (fun _ R s => s.heap.get? l = some { cls := .type "tuple", dict := dct, data := .seq items n, slots := sl } ∧
      R (.ok (.ret (.ref (s.heap.push { cls := .type "tuple_iterator", data := .fields #[.ref l, .int 0 0] }).objs.size)))
        { s with heap := (s.heap.push { cls := .type "tuple_iterator", data := .fields #[.ref l, .int 0 0] }).push { cls := .type "enumerate", data := .fields #[.none, .bool false, .ref s.heap.objs.size, rawInt 0, .none, .none] } }) :=
  .of_wp fun prog w A R s h => by
    obtain ⟨hp, g, d, tk, os⟩ := s; obtain ⟨hl, h⟩ := h
    have hsub := sub_enumerate
    have hL : Heap.IsTuple (Shared.heap ⟨hp, g, d, tk, os⟩) l items := ⟨_, hl, rfl, n, rfl⟩
    wp_walk using wpAny_loadPart' hl
    refine wpAny_stack_any fun st => wpAny_pure ?_
    split
    · rename_i c _ _ _ _ _
      cases (c == Value.type "enumerate")
      · wp_walk using wpAny_loadPart' hl, wpAny_pyIter_tuple hL
        exact ⟨_, rfl, h⟩
      · wp_walk using wpAny_loadPart' hl, wpAny_pyIter_tuple hL
        exact ⟨_, rfl, h⟩
    · wp_walk using wpAny_loadPart' hl, wpAny_pyIter_tuple hL
      exact ⟨_, rfl, h⟩
section
variable {prog : Program} {w : World} {A : Around} {E : Value → Shared → Prop} {s : Shared}
theorem call_enumT {l : Addr} {items : Array Value} {Q : Value → Shared → Prop} (hL : s.heap.IsTuple l items)
    (h : ∀ h', IsEnum h' (s.heap.objs.size + 1) s.heap.objs.size 0 .none → h'.IsTupleIter s.heap.objs.size l 0 → (∀ b o, s.heap.get? b = some o → h'.get? b = some o) → Q (.ref (s.heap.objs.size + 1)) { s with heap := h' }) :
    wpAny (model prog w) A (call (.type "enumerate") [.ref l]) Q E s := by
  obtain ⟨⟨c, dct, dt, sl⟩, hl, hc, n, hd⟩ := hL
  replace hc : c = .type "tuple" := hc
  replace hd : dt = .seq items n := hd
  subst hc hd
  refine callType_new F.called_enumerate (by decide) (F.typeCall_enumerate_1 _) (F.newCall_enumerate_1 _) (fun obj => F.args_object_init_2 obj _) F.entry_enumerate_new (meets_enumT l items n dct sl) ⟨hl, ?_⟩
  have hz : (s.heap.push { cls := .type "tuple_iterator", data := .fields #[.ref l, .int 0 0] }).objs.size = s.heap.objs.size + 1 := Heap.size_push ..
  show _ ∧ _
  rw [hz]
  have he : IsEnum ((s.heap.push { cls := .type "tuple_iterator", data := .fields #[.ref l, .int 0 0] }).push
      { cls := .type "enumerate", data := .fields #[.none, .bool false, .ref s.heap.objs.size, rawInt 0, .none, .none] }) (s.heap.objs.size + 1) s.heap.objs.size 0 .none := by
    have := Heap.get?_push_size (s.heap.push { cls := .type "tuple_iterator", data := .fields #[.ref l, .int 0 0] })
      (o := { cls := .type "enumerate", data := .fields #[.none, .bool false, .ref s.heap.objs.size, rawInt 0, .none, .none] }) rfl
    rw [hz] at this; exact this
  exact ⟨⟨_, he, rfl⟩, h _ he ⟨_, Heap.get?_push_of_some _ (Heap.get?_push_size _ rfl), rfl, rfl⟩ fun b o x => Heap.get?_push_of_some _ (Heap.get?_push_of_some _ x)⟩
end
/-- a turn that gives a new pair -/
theorem pair_turn {X : Cx} {pins : List (Addr × Obj)} {σ : L2.St} {H : Hp} {s : Shared} {E : Value → Shared → Prop} {tg : Expr} {it : Addr} {fp wr : List Addr} {n i : Nat} {Y : Nat → Heap → Value → Heap → Prop} {Sn : Nat → Heap → Prop} {x y : V}
    (I : Inv X pins σ H s) (W : GoesN X.prog X.w X.A tg it fp wr n Y Sn) (hi : i < n) (hst : Sn i s.heap) (hwr : ∀ b ∈ wr, FpOk X pins H b)
    (hY : ∀ h₀ v h, Y i h₀ v h → ∃ T a b, v = .ref T ∧ h₀.objs.size ≤ T ∧ RelV x a ∧ RelV y b ∧ h.IsTuple T #[a, b]) :
    wpAny (model X.prog X.w) X.A (pyNext (.ref it)) (fun r s1 => ∃ u, r = some u ∧ wpAny (model X.prog X.w) X.A (letOwnedTupleGo tg (.ref it) u) (fun _ s2 => ∃ T, u = .ref T ∧ s.heap.objs.size ≤ T ∧
      Inv X pins σ (upd H T (.tup [x, y])) s2 ∧ Sn (i + 1) s2.heap) E s1) E s := by
  refine wpAny_mono (W.goes i s (fun v s2 => ∃ T, v = .ref T ∧ s.heap.objs.size ≤ T ∧ Inv X pins σ (upd H T (.tup [x, y])) s2 ∧ Sn (i + 1) s2.heap) E hi hst fun v h' tk hy hst' hk _ => ?_) (fun r s1 h => h) fun _ _ z => z
  obtain ⟨T, a, b, rfl, hT, ra, rb, ht⟩ := hY _ _ _ hy
  obtain ⟨⟨c, d, dt, sl⟩, e1, e2, m, e3⟩ := ht
  simp only at e2 e3
  subst e2 e3
  exact ⟨T, rfl, hT, I.turnedNew (t' := tk) (ch := wr) hk hwr hT ⟨by show 2 ≤ sizeLine; decide, [a, b], .cons ra (.cons rb .nil), _, e1, rfl, m, rfl⟩, hst'⟩
/-! ### enumerate(tuple) -/
def IteT (K : PySem.W.Frag) (a : Addr) : It :=
  ⟨fun i H => ∃ (xs : List V) (x : V), SqT K H a xs ∧ xs[i]? = some x, fun i H v H' => ∃ T x, v = .ref T ∧ H T = none ∧ H' = upd H T (.tup [.int (i : Nat), x]) ∧ ∀ xs, SqT K H a xs → xs[i]? = some x, fun i H => ∃ xs : List V, SqT K H a xs ∧ xs.length = i⟩
theorem turn_enumT {P : Program} {w : World} {K : PySem.W.Frag} {elts : List Expr} {kk : Nat} {tpos : Pos} (a e it : Addr) :
    Turn P w K (.Tuple elts kk tpos) (IteT K a) [e, it] e (fun i h => (∃ old, IsEnum h e it ((i : Nat) : Int) old) ∧ h.IsTupleIter it a i ∧ e ≠ it ∧ e ≠ a ∧ a ≠ it) where
  mem := by simp
  obj := fun i h st b hb => by
    obtain ⟨⟨old, he⟩, ⟨o, ho, hc, hd⟩, _⟩ := st
    rcases List.mem_cons.mp hb with z | z
    · rw [z]; exact ⟨_, he, fun v q => nomatch q⟩
    · rw [List.mem_singleton.mp z]; exact ⟨o, ho, fun v q => by rw [hd] at q; cases q⟩
  keep := fun i h h' st k => let ⟨⟨old, he⟩, hi, hne⟩ := st; ⟨⟨old, k e (by simp) _ he⟩, hi.at fun o q => k it (by simp) o q, hne⟩
  item := by
    intro X hP hw hK hc i pins s σ H E I hf st hg
    subst hP hw hK
    obtain ⟨⟨old, he⟩, hit, ne1, ne2, ne3⟩ := st
    obtain ⟨xs, x, hq, hx⟩ := hg
    obtain ⟨its, rv, p, hz⟩ := I.tuple hq
    obtain ⟨u, hu, ru⟩ := rv.get hx
    have hil : it < s.heap.objs.size := by obtain ⟨_, q, _⟩ := hit; exact Heap.lt_size q
    have hel : e < s.heap.objs.size := Heap.lt_size he
    have W := GoesN.enumFrom (elts := elts) (x1 := kk) (pos := tpos) 0 (Draws.tuple (prog := X.prog) (w := X.w) (A := X.A.in1) (I.ok.hd hc) it a ne3 its.toArray) e ne1 (by simp only [List.mem_cons, List.not_mem_nil, or_false, not_or]; exact ⟨ne1, ne2⟩) (by simp)
    have hlt : i < its.toArray.size := by
      rw [List.size_toArray]
      exact (List.getElem?_eq_some_iff.mp hu).1
    refine wpAny_mono (pair_turn (x := .int (i : Nat)) (y := x) I W hlt ⟨⟨old, by rw [Int.zero_add]; exact he⟩, hit, p⟩ hf fun h₀ v h ⟨T, t, y, e1, e2, e3, e4⟩ => ?_) (fun r s1 ⟨u', r1, z⟩ => ⟨u', r1, wpAny_mono z (fun _ s2 ⟨T, e1, e2, J, st2⟩ => ?_) fun _ _ z => z⟩) fun _ _ z => z
    · refine ⟨T, .int i t, y, e1, e2, ⟨t, rfl⟩, ?_, by rw [Int.zero_add] at e4; exact e4⟩
      have e5 : its.toArray[i]? = some u := by simpa using hu
      rw [e5] at e3
      cases e3
      exact ru
    · obtain ⟨⟨old2, he2⟩, hit2, _⟩ := st2
      refine ⟨.ref T, _, J, by rw [e1]; rfl, ⟨T, x, rfl, I.hok.fresh e2, rfl, fun ys hy => by rw [I.tuple_inj hy hq]; exact hx⟩, ⟨⟨old2, by rw [Int.zero_add] at he2; exact he2⟩, hit2, ne1, ne2, ne3⟩, fun b hb => ?_⟩
      rw [upd_ne]
      · exact (hf b hb).1
      · rcases List.mem_cons.mp hb with z | z
        · rw [z]; exact Nat.ne_of_lt (Nat.lt_of_lt_of_le hel e2)
        · rw [List.mem_singleton.mp z]; exact Nat.ne_of_lt (Nat.lt_of_lt_of_le hil e2)
  done := by
    intro X hP hw hK hc i pins s σ H E I hf st hg
    subst hP hw hK
    obtain ⟨⟨old, he⟩, hit, ne1, ne2, ne3⟩ := st
    obtain ⟨xs, hq, hx⟩ := hg
    obtain ⟨its, rv, p, hz⟩ := I.tuple hq
    have W := GoesN.enumFrom (elts := elts) (x1 := kk) (pos := tpos) 0 (Draws.tuple (prog := X.prog) (w := X.w) (A := X.A.in1) (I.ok.hd hc) it a ne3 its.toArray) e ne1 (by simp only [List.mem_cons, List.not_mem_nil, or_false, not_or]; exact ⟨ne1, ne2⟩) (by simp)
    have hn : its.toArray.size = i := by rw [List.size_toArray, ← hx]; exact rv.length.symm
    refine W.stops s (fun s1 => Inv X pins σ H s1) E (by rw [hn]; exact ⟨⟨old, by rw [Int.zero_add]; exact he⟩, hit, p⟩) fun h' tk hk _ => I.turnedL (t' := tk) hk hf
  self := fun A i s Q E st h => let ⟨⟨_, he⟩, _⟩ := st; wpAny_pyIter_enum he h
def iEnumT (K : PySem.W.Frag) (ta : TA) : TI := fun σ H R => ta σ H fun vs H1 => ∃ a xs, vs = [.ref a] ∧ SqT K H1 a xs ∧ R (IteT K a) H1
theorem pi_enumT {X : Cx} {e : Expr} {ta : TA} {p pos tpos : Pos} {elts : List Expr} {kk : Nat} (hg : Gl X "enumerate") (hm : X.mg "enumerate" = none) (ha : PA X [e] ta) (hs : starEach [e] X.env = [(false, eval e X.env)] := by rfl) :
    PI X (.Tuple elts kk tpos) (.Call (.Name "enumerate" p) [e] [] pos) (iEnumT X.K ta) := by
  refine ⟨fun pins s σ H R I h => ?_⟩
  refine Call_ (ld_blt I hg hm boot_enumerate (PyProof.Rows.callWith_type1 (thn (ha.run pos pins s σ H _ I h) fun us s1 ⟨vs, H1, I1, r1, q1⟩ => ?_) hs rfl))
  obtain ⟨a, xs, ex, hq, q⟩ := q1
  subst ex
  rw [Vals.ref1 r1]
  obtain ⟨its, rv, p', hz⟩ := I1.tuple hq
  have hla := IsTup.lt p'
  refine call_enumT (show s1.heap.IsTuple a its.toArray from p') fun h' he hit hk => wpAny_pyIter_enum he ?_
  have I2 : Inv X pins σ H1 { s1 with heap := h' } := I1.kept (t' := s1.toks) hk
  refine ⟨s1.heap.objs.size + 1, [s1.heap.objs.size + 1, s1.heap.objs.size], _, _, H1, rfl, I2, turn_enumT a (s1.heap.objs.size + 1) s1.heap.objs.size, ⟨⟨.none, he⟩, hit, Nat.succ_ne_self _, Nat.ne_of_gt (Nat.lt_succ_of_lt hla), Nat.ne_of_lt hla⟩, fun b hb => ?_, q⟩
  have hle : s1.heap.objs.size ≤ b := by
    rcases List.mem_cons.mp hb with z | z
    · rw [z]; exact Nat.le_succ _
    · rw [List.mem_singleton.mp z]; exact Nat.le_refl _
  exact I1.fpOk hle (I1.hok.fresh hle)
theorem walk_enumT {K : PySem.W.Frag} {a : Addr} {xs : List V} : Walk (IteT K a) xs.length (fun H => SqT K H a xs) (fun i H v H' => ∃ T x, v = .ref T ∧ H T = none ∧ H' = upd H T (.tup [.int (i : Nat), x]) ∧ xs[i]? = some x) :=
  ⟨fun i H hi q => ⟨xs, xs[i], q, List.getElem?_eq_getElem hi⟩, fun H q => ⟨xs, q, rfl⟩, fun i H v H' hi q ⟨T, x, e1, e2, e3, e4⟩ => ⟨T, x, e1, e2, e3, e4 xs q⟩⟩
/-! ### zip(tuple, list) -/
def ItzM (K : PySem.W.Frag) (a b : Addr) : It :=
  ⟨fun i H => ∃ (xs ys : List V) (x y : V), SqT K H a xs ∧ SqL K H b ys ∧ xs[i]? = some x ∧ ys[i]? = some y,
    fun i H v H' => ∃ T x y, v = .ref T ∧ H T = none ∧ H' = upd H T (.tup [x, y]) ∧ (∀ xs, SqT K H a xs → xs[i]? = some x) ∧ ∀ ys, SqL K H b ys → ys[i]? = some y,
    fun i H => ∃ xs ys : List V, SqT K H a xs ∧ SqL K H b ys ∧ xs.length = i ∧ ys.length = i⟩
theorem zipM_sep {z TI TO i1 i2 a b : Addr} (h : ∃ N, z = N + 4 ∧ TI = N + 2 ∧ TO = N + 3 ∧ i1 = N ∧ i2 = N + 1 ∧ a < N ∧ b < N) : ZipSep2 z TI TO i1 i2 [i1, a] [i2, b] := by
  obtain ⟨N, rfl, rfl, rfl, rfl, rfl, h1, h2⟩ := h
  exact zip_sep2 (fun c hc => by rw [List.mem_singleton.mp hc]; exact h1) fun c hc => by rw [List.mem_singleton.mp hc]; exact h2
theorem turn_zipM {P : Program} {w : World} {K : PySem.W.Frag} {elts : List Expr} {kk : Nat} {tpos : Pos} {a b z TI TO i1 i2 : Addr} (Z : ∃ N, z = N + 4 ∧ TI = N + 2 ∧ TO = N + 3 ∧ i1 = N ∧ i2 = N + 1 ∧ a < N ∧ b < N) :
    Turn P w K (.Tuple elts kk tpos) (ItzM K a b) [z, TI, TO, i1, i2] z (fun i h => IsZip h z TI TO .none ∧ IsTupOf2 h TI (.ref i1) (.ref i2) ∧ (∃ x y, IsTupOf2 h TO x y) ∧ h.IsTupleIter i1 a i ∧ h.IsListIter i2 b i) where
  mem := by simp
  obj := fun i h st c hc => by
    obtain ⟨hz, hTI, ⟨x, y, hTO⟩, ⟨o1, e1, _, d1⟩, ⟨o2, e2, _, d2⟩⟩ := st
    have e' : c = z ∨ c = TI ∨ c = TO ∨ c = i1 ∨ c = i2 := by simpa using hc
    rcases e' with q | q | q | q | q
    · rw [q]; exact ⟨_, hz, fun v q => nomatch q⟩
    · rw [q]; exact ⟨_, hTI, fun v q => nomatch q⟩
    · rw [q]; exact ⟨_, hTO, fun v q => nomatch q⟩
    · rw [q]; exact ⟨o1, e1, fun v q => by rw [d1] at q; cases q⟩
    · rw [q]; exact ⟨o2, e2, fun v q => by rw [d2] at q; cases q⟩
  keep := fun i h h' st k => by
    obtain ⟨hz, hTI, ⟨x, y, hTO⟩, h1, h2⟩ := st
    exact ⟨k z (by simp) _ hz, k TI (by simp) _ hTI, ⟨x, y, k TO (by simp) _ hTO⟩, h1.at fun o q => k i1 (by simp) o q, h2.at fun o q => k i2 (by simp) o q⟩
  item := by
    intro X hP hw hK hc i pins s σ H E I hf st hg
    subst hP hw hK
    obtain ⟨hz, hTI, ⟨x0, y0, hTO⟩, h1, h2⟩ := st
    obtain ⟨xs, ys, x, y, hqx, hqy, hx, hy⟩ := hg
    obtain ⟨its, rv, p, _⟩ := I.tuple hqx
    obtain ⟨its2, rv2, p2, _⟩ := I.list hqy
    obtain ⟨u, hu, ru⟩ := rv.get hx
    obtain ⟨u2, hu2, ru2⟩ := rv2.get hy
    have S := zipM_sep Z
    obtain ⟨N, rfl, rfl, rfl, rfl, rfl, l1, l2⟩ := Z
    have hh : X.A.in1.handled = none := I.ok.hd hc
    have W := GoesN.zip2 (elts := elts) (x1 := kk) (pos := tpos) S (Draws.tuple (prog := X.prog) (w := X.w) hh i1 a (Nat.ne_of_lt l1) its.toArray) (Draws.list (prog := X.prog) (w := X.w) hh (i1 + 1) b (Nat.ne_of_lt (Nat.lt_succ_of_lt l2)) its2.toArray)
    have e5 : its.toArray[i]? = some u := by simpa using hu
    have e6 : its2.toArray[i]? = some u2 := by simpa using hu2
    have hlt : i < min its.toArray.size its2.toArray.size := Nat.lt_min.mpr ⟨(Array.getElem?_eq_some_iff.mp e5).1, (Array.getElem?_eq_some_iff.mp e6).1⟩
    refine wpAny_mono (pair_turn (x := x) (y := y) I W hlt ⟨hz, hTI, ⟨x0, y0, hTO⟩, ⟨h1, p⟩, ⟨h2, p2.isList⟩⟩ (fun c hc => hf c (by simp only [List.mem_cons, List.not_mem_nil, or_false] at hc ⊢; rcases hc with q | q | q | q <;> simp [q])) fun h₀ v h ⟨T, y1, y2, q1, q2, q3, q4, q5⟩ => ?_)
      (fun r s1 ⟨u', r1, z⟩ => ⟨u', r1, wpAny_mono z (fun _ s2 ⟨T, q1, q2, J, st2⟩ => ?_) fun _ _ z => z⟩) fun _ _ z => z
    · rw [e5] at q3
      rw [e6] at q4
      cases q3
      cases q4
      exact ⟨T, u, u2, q1, q2, ru, ru2, q5⟩
    · obtain ⟨hz', hTI', hTO', ⟨h1', _⟩, ⟨h2', _⟩⟩ := st2
      refine ⟨.ref T, _, J, by rw [q1]; rfl, ⟨T, x, y, rfl, I.hok.fresh q2, rfl, fun l hl => by rw [I.tuple_inj hl hqx]; exact hx, fun l hl => by rw [I.list_inj hl hqy]; exact hy⟩, ⟨hz', hTI', hTO', h1', h2'⟩, fun c hc => ?_⟩
      have hzl : i1 + 4 < s.heap.objs.size := Heap.lt_size hz
      have hcl : c < s.heap.objs.size := by
        have e' : c = i1 + 4 ∨ c = i1 + 2 ∨ c = i1 + 3 ∨ c = i1 ∨ c = i1 + 1 := by simpa using hc
        rcases e' with q | q | q | q | q <;> rw [q] <;> first | exact hzl | exact Nat.lt_of_le_of_lt (Nat.add_le_add_left (by decide) _) hzl | exact Nat.lt_of_le_of_lt (Nat.le_add_right _ _) hzl
      rw [upd_ne (Nat.ne_of_lt (Nat.lt_of_lt_of_le hcl q2))]
      exact (hf c hc).1
  done := by
    intro X hP hw hK hc i pins s σ H E I hf st hg
    subst hP hw hK
    obtain ⟨hz, hTI, ⟨x0, y0, hTO⟩, h1, h2⟩ := st
    obtain ⟨xs, ys, hqx, hqy, en1, en2⟩ := hg
    obtain ⟨its, rv, p, _⟩ := I.tuple hqx
    obtain ⟨its2, rv2, p2, _⟩ := I.list hqy
    have S := zipM_sep Z
    obtain ⟨N, rfl, rfl, rfl, rfl, rfl, l1, l2⟩ := Z
    have hh : X.A.in1.handled = none := I.ok.hd hc
    have W := GoesN.zip2 (elts := elts) (x1 := kk) (pos := tpos) S (Draws.tuple (prog := X.prog) (w := X.w) hh i1 a (Nat.ne_of_lt l1) its.toArray) (Draws.list (prog := X.prog) (w := X.w) hh (i1 + 1) b (Nat.ne_of_lt (Nat.lt_succ_of_lt l2)) its2.toArray)
    have n1 : its.toArray.size = i := by rw [List.size_toArray, ← en1]; exact rv.length.symm
    have n2 : its2.toArray.size = i := by rw [List.size_toArray, ← en2]; exact rv2.length.symm
    refine W.stops s (fun s1 => Inv X pins σ H s1) E (by rw [n1, n2, Nat.min_self]; exact ⟨hz, hTI, ⟨x0, y0, hTO⟩, ⟨h1, p⟩, ⟨h2, p2.isList⟩⟩) fun h' tk hk _ =>
      I.turnedL (t' := tk) hk fun c hc => hf c (by simp only [List.mem_cons, List.not_mem_nil, or_false] at hc ⊢; rcases hc with q | q | q | q <;> simp [q])
  self := fun A i s Q E st h => wpAny_pyIter_zip st.1 h
def iZipM (K : PySem.W.Frag) (ta : TA) : TI := fun σ H R => ta σ H fun vs H1 => ∃ a b xs ys, vs = [.ref a, .ref b] ∧ SqT K H1 a xs ∧ SqL K H1 b ys ∧ R (ItzM K a b) H1
theorem pi_zipM {X : Cx} {e e2 : Expr} {ta : TA} {p pos tpos : Pos} {elts : List Expr} {kk : Nat} (hg : Gl X "zip") (hm : X.mg "zip" = none) (ha : PA X [e, e2] ta)
    (hs : starEach [e, e2] X.env = (false, eval e X.env) :: starEach [e2] X.env := by rfl) (hpl : (backTo pos (starEach [e2] X.env)).any (·.1) = false := by rfl) :
    PI X (.Tuple elts kk tpos) (.Call (.Name "zip" p) [e, e2] [] pos) (iZipM X.K ta) := by
  refine ⟨fun pins s σ H R I h => ?_⟩
  refine Call_ (ld_blt I hg hm PyProof.Rows.boot_zip (PyProof.Rows.callWith_type1 (thn (ha.run pos pins s σ H _ I h) fun us s1 ⟨vs, H1, I1, r1, q1⟩ => ?_) hs hpl))
  obtain ⟨a, b, xs, ys, ex, hqx, hqy, q⟩ := q1
  subst ex
  obtain ⟨v1, v2, rfl, ra, rb⟩ := vals2 r1
  cases ra
  cases rb
  obtain ⟨its, rv, p1, _⟩ := I1.tuple hqx
  obtain ⟨its2, rv2, p2, _⟩ := I1.list hqy
  have la : a < s1.heap.objs.size := IsTup.lt p1
  have lb : b < s1.heap.objs.size := p2.lt
  refine zip_begins2 (begins_tuple a its.toArray) (begins_list b its2.toArray) p1 p2.isList fun h' hz hTI hTO g1 g2 hsz hk => wpAny_pyIter_zip hz ?_
  have I2 : Inv X pins σ H1 { s1 with heap := h' } := I1.kept (t' := s1.toks) hk
  refine ⟨s1.heap.objs.size + 4, [s1.heap.objs.size + 4, s1.heap.objs.size + 2, s1.heap.objs.size + 3, s1.heap.objs.size, s1.heap.objs.size + 1], _, _, H1, rfl, I2, turn_zipM ⟨s1.heap.objs.size, rfl, rfl, rfl, rfl, rfl, la, lb⟩, ⟨hz, hTI, ⟨_, _, hTO⟩, ⟨_, g1, rfl, rfl⟩, ⟨_, g2, rfl, rfl⟩⟩, fun c hc => ?_, q⟩
  have hle : s1.heap.objs.size ≤ c := by
    have e' : c = s1.heap.objs.size + 4 ∨ c = s1.heap.objs.size + 2 ∨ c = s1.heap.objs.size + 3 ∨ c = s1.heap.objs.size ∨ c = s1.heap.objs.size + 1 := by simpa using hc
    rcases e' with z | z | z | z | z <;> rw [z] <;> first | exact Nat.le_add_right _ _ | exact Nat.le_refl _
  exact I1.fpOk hle (I1.hok.fresh hle)
theorem walk_zipM {K : PySem.W.Frag} {a b : Addr} {xs ys : List V} (hl : xs.length = ys.length) : Walk (ItzM K a b) xs.length (fun H => SqT K H a xs ∧ SqL K H b ys) (YPair (fun i => xs[i]?) (fun i => ys[i]?)) :=
  ⟨fun i H hi q => ⟨xs, ys, xs[i], ys[i]'(by rw [← hl]; exact hi), q.1, q.2, List.getElem?_eq_getElem hi, List.getElem?_eq_getElem _⟩, fun H q => ⟨xs, ys, q.1, q.2, rfl, hl.symm⟩,
    fun i H v H' hi q ⟨T, x, y, e1, e2, e3, e4, e5⟩ => ⟨T, x, y, e1, e2, e3, e4 xs q.1, e5 ys q.2⟩⟩
end K6
set_option Elab.async false
set_option linter.all false
set_option maxRecDepth 100000
set_option maxHeartbeats 2000000
/-! K68Stack: Stack.__init__ -/
namespace K6
open PySem PySem.Spec PyProof.Rows L2
theorem cxUpN {P : Program} {w : World} : StX.CXUp (L2N.CX P w) := by
  rintro outer s H s2 H2 E e s' un kp ho ⟨a, B, H', cls, d, ea, fl, hok, ub, na, os, ag, he⟩
  refine ⟨a, B, H', cls, d, ea, fl, hok, ⟨fun b o q n hb => ub.keep b o (kp b o q) (un.free b o q n (by simp)) hb, fun b o q hb => ub.slot b o (kp b o q) hb, fun b o q n => ub.free b o (kp b o q) (un.free b o q n (by simp)),
    fun b o q hb => ub.there b o (kp b o q) hb, fun b xs q => ub.tups b xs (un.tups b xs q), fun b o xs q => ub.frzs b o xs (un.frzs b o xs q), fun b ps q => ?_⟩, na, os.trans ho, ag, he⟩
  obtain ⟨m1, e1⟩ := un.tbls b ps q
  obtain ⟨m2, e2⟩ := ub.tbls b _ e1
  exact ⟨m1 ++ m2, by rw [e2, Array.append_assoc]⟩
/-- what making an exception asks -/
theorem mk_read {W : XK} {H1 : Hp} {C : Addr} {f : Str} {ok : V → Prop} {y : V} (hy : ok y) (h : ∀ d H', Same H1 H' → W (.ref C) (some d) H') : ∀ a, H1 a = none → spX C f ok (.ref a :: ([y] ++ [])) (upd H1 a (exo a C none))
    (fun v H2 => v = .non ∧ ∃ (d : Addr) (fs : List (Str × V)), H2 a = some (exo a C (some d)) ∧ H2 d = some (exd d fs) ∧ H1 d = none ∧ W (.ref C) (some d) (upd (del H2 a) d (.xd fs))) (fun _ _ _ => False) := by
  intro a ha
  refine ⟨a, y, rfl, hy, upd_same, fun dx hdx ne => ⟨rfl, dx, [(f, y)], upd_same, ?_, ?_, h dx _ fun b o e => ?_⟩⟩
  · rw [upd_ne ne, upd_same]
  · rw [upd_ne ne] at hdx
    exact hdx
  · have n1 : b ≠ a := ne_of_none e ha
    have n2 : b ≠ dx := by
      rw [upd_ne ne] at hdx
      exact ne_of_none e hdx
    rw [upd_ne n2, del_ne n1, upd_ne n1, upd_ne n2, upd_ne n1]
    exact e
theorem nodup_le : ∀ {l m : List Str}, l.Nodup → (∀ x ∈ l, x ∈ m) → l.length ≤ m.length
  | [], _, _, _ => Nat.zero_le _
  | a :: l, m, h, k => by
    obtain ⟨h1, h2⟩ := List.nodup_cons.mp h
    have ha : a ∈ m := k a List.mem_cons_self
    have z := nodup_le (m := m.erase a) h2 fun x hx => (List.mem_erase_of_ne (show x ≠ a from fun e => h1 (by rw [← e]; exact hx))).mpr (k x (List.mem_cons_of_mem _ hx))
    rw [List.length_erase_of_mem ha] at z
    have := List.length_pos_of_mem ha
    rw [List.length_cons]
    omega
/-- the modules named by the rules -/
structure NamesOf (ss : List Str) (rs : List K68.Ru) : Prop where
  nd : ss.Nodup
  mem : ∀ x, x ∈ ss ↔ ∃ u ∈ rs, x = mdS u.1
theorem NamesOf.few {ss : List Str} {rs : List K68.Ru} (n : NamesOf ss rs) : ss.length ≤ 3 := nodup_le (m := ["key", "lan", "pin"]) n.nd fun x hx => by
  obtain ⟨u, _, rfl⟩ := (n.mem x).mp hx
  cases u.1 <;> simp [mdS]
/-- a stack of these rules stands at s -/
def StAt (K : PySem.W.Frag) (H : Hp) (s : Addr) (rs : List K68.Ru) : Prop := ∃ dx p q n es ss, H s = some (.ins (ga K "Stack") dx [("parts", .ref p), ("steps", .ref q), ("names", .ref n), ("depth", .int 1)]) ∧
  SqT K H p (es.map V.ref) ∧ SqT K H q (es.map V.ref) ∧ SqT K H n (ss.map V.str) ∧ NamesOf ss rs ∧ Paired (RuAt K H) es rs ∧ rs.length ≤ 12
theorem rules_mono {K : PySem.W.Frag} {H H' : Hp} {es : List Addr} {rs : List K68.Ru} (h : Paired (RuAt K H) es rs) (k : Same H H') : Paired (RuAt K H') es rs := Paired.mapP h fun _ _ r => RuAt.mono r k
theorem StAt.mono {K : PySem.W.Frag} {H H' : Hp} {s : Addr} {rs : List K68.Ru} (h : StAt K H s rs) (k : Same H H') : StAt K H' s rs := by
  obtain ⟨dx, p, q, n, es, ss, h1, h2, h3, h4, h5, h6, h7⟩ := h
  exact ⟨dx, p, q, n, es, ss, k _ _ h1, Same.seqT k h2, Same.seqT k h3, Same.seqT k h4, h5, rules_mono h6 k, h7⟩
theorem paired_get {α β : Type} {F : α → β → Prop} : ∀ {l : List α} {m : List β} {i : Nat} {x : α}, Paired F l m → l[i]? = some x → ∃ y, m[i]? = some y ∧ F x y
  | _, _, _, _, .nil, e => by simp at e
  | _, _, 0, _, .cons r _, e => by simp at e; subst e; exact ⟨_, rfl, r⟩
  | _, _, i + 1, x, .cons _ t, e => by
    obtain ⟨y, h1, h2⟩ := paired_get (i := i) t (by simpa using e)
    exact ⟨y, by simpa using h1, h2⟩
section
variable {P : Program} {w : World} {K : PySem.W.Frag} {mg : Str → Option Value} {base : Heap}
theorem tyRule (T : Tx w K mg) {H : Hp} {r : Addr} {u : K68.Ru} (h : RuAt K H r u) : TyX K H (.ref r) (.ref (ga K "Rule")) := by
  obtain ⟨dx, b, h1, _⟩ := h
  exact .base (.ins h1 T.c_Rule T.iRule.ha T.iRule.hn T.iRule.htk T.iRule.hm)
/-! ### steps_of -/
def spStepsOf (K : PySem.W.Frag) : Sp := fun vs H Q _ => ∃ r u, vs = [.ref r] ∧ RuAt K H r u ∧ ∀ p H', Same H H' → SqT K H' p [.ref r] → Q (.ref p) H'
theorem ok_stepsOf (T : Tx w K mg) : Gd P w K mg base CX0 1 "steps_of" (spStepsOf K) := by
  refine ⟨T.d_stepsOf.r sc_stepsOf bi_stepsOf (fun vs H Q E h => ?_) (fun cdv A outer s H vs Q E hr h => ?_), T.f_stepsOf, T.d_stepsOf.kp⟩
  · obtain ⟨r, u, rfl, _⟩ := h
    rfl
  obtain ⟨r, u, rfl, hu, q⟩ := h
  refine ⟨_, pss_one (ps_ret (pe_ifExp (pt_val (pe_callB call_isi (by rfl) T.b_isinstance (by decide +kernel) (pa_cons (pv 0) (pa_cons (kr T.g_Stack) pa_nil)))) (pe_fld (pv 0) rfl) (pe_tup (pa_cons (pv 0) pa_nil)))), ?_⟩
  refine ⟨_, rfl, _, _, _, _, false, rfl, .own _, tyRule T hu, T.iNot, false, rfl, ?_⟩
  exact ⟨_, rfl, by show 1 ≤ sizeLine; decide, fun p hp => q p _ (same_upd hp) (SqT.of upd_same)⟩
/-! ### Stack.__init__ -/
def spStB (K : PySem.W.Frag) : Sp := fun vs H Q E => ∃ x dx p es rs, vs = [.ref x, .ref p] ∧ H x = some (.ins (ga K "Stack") dx []) ∧ SqT K H p (es.map V.ref) ∧ Paired (RuAt K H) es rs ∧ rs.length ≤ 13 ∧
  (rs.length ≤ 12 → ∀ H', Keep [x] H H' → StAt K H' x rs → Q .non H') ∧ (12 < rs.length → ∀ d H', Keep [x] H H' → E (.ref (ga K "InvalidStack")) (some d) H')
/-- at the loop's turn i -/
structure StL (K : PySem.W.Frag) (H0 : Hp) (x dx p : Addr) (es : List Addr) (rs : List K68.Ru) (i : Nat) (σ : L2.St) (H : Hp) : Prop where
  sl : ∃ a b c d, σ = [some (.ref x), some (.ref p), a, b, c, d]
  kp : Keep [x] H0 H
  le : i ≤ 12
  at_ : ∃ q n ss, H x = some (.ins (ga K "Stack") dx [("parts", .ref p), ("steps", .ref q), ("names", .ref n), ("depth", .int 1)]) ∧ SqT K H q ((es.take i).map V.ref) ∧ SqT K H n (ss.map V.str) ∧ NamesOf ss (rs.take i)
theorem Keep.seqT {S : List Addr} {H H' : Hp} {x C dx : Addr} {fs : List (Str × V)} {b : Addr} {xs : List V} (k : Keep [x] H H') (h : SqT K H b xs) (hx : H x = some (.ins C dx fs)) : SqT K H' b xs := by
  have go : ∀ {u : HO}, H b = some u → (∀ fs, u ≠ .ins C dx fs) → H' b = some u := fun {u} e n => k b u e fun z => by
    rw [List.mem_singleton.mp z, hx] at e
    exact n fs (Option.some.inj e).symm
  rcases h with (z | ⟨u, z⟩) | z
  · exact .inl (.inl (go z fun fs e => by cases e))
  · exact .inl (.inr ⟨u, go z fun fs e => by cases e⟩)
  · exact .inr z
theorem Keep.rule {H H' : Hp} {x dx : Addr} {fs : List (Str × V)} {r : Addr} {u : K68.Ru} (k : Keep [x] H H') (h : RuAt K H r u) (hx : H x = some (.ins (ga K "Stack") dx fs)) (hf : fs = [] ∨ ∃ v r, fs = (Str.ofString "parts", v) :: r) : RuAt K H' r u := by
  obtain ⟨dy, b, h1, h2⟩ := h
  refine ⟨dy, b, k r _ h1 fun z => ?_, Keep.seqT (S := []) k h2 hx⟩
  rw [List.mem_singleton.mp z, hx] at h1
  have e := Option.some.inj h1
  injection e with e1 e2 e3
  rcases hf with rfl | ⟨v, r', rfl⟩
  · cases e3
  · injection e3 with e4 e5
    injection e4 with e6 e7
    exact absurd e6 (by decide)
theorem names_of {rs : List K68.Ru} {ss' : List Str} (h : ∀ y, y ∈ ss' ↔ y ∈ rs.map fun u => mdS u.1) (nd : ss'.Nodup) : NamesOf ss' rs :=
  ⟨nd, fun y => (h y).trans ⟨fun z => by
    obtain ⟨u, h1, h2⟩ := List.mem_map.mp z
    exact ⟨u, h1, h2.symm⟩, fun ⟨u, h1, h2⟩ => List.mem_map.mpr ⟨u, h1, h2.symm⟩⟩⟩
theorem paired_take {α β : Type} {F : α → β → Prop} : ∀ {l : List α} {m : List β}, Paired F l m → ∀ n, Paired F (l.take n) (m.take n)
  | _, _, _, 0 => .nil
  | _, _, .nil, _ + 1 => .nil
  | _, _, .cons r t, n + 1 => .cons r (paired_take t n)
theorem Keep.refl {S : List Addr} (H : Hp) : Keep S H H := fun _ _ e _ => e
theorem Keep.refl0 (H : Hp) : Same H H := fun _ _ e => e
theorem put_step {H0 H Hq : Hp} {x C dx : Addr} {fs fs' : List (Str × V)} (k : Keep [x] H0 H) (s : Same H Hq) (hx : Hq x = some (.ins C dx fs)) :
    Keep [x] H0 (upd Hq x (.ins C dx fs')) ∧ upd Hq x (.ins C dx fs') x = some (.ins C dx fs') ∧ ∀ b xs, SqT K Hq b xs → SqT K (upd Hq x (.ins C dx fs')) b xs :=
  ⟨k.trans ((Same.keep s).trans (keep_upd (List.mem_singleton.mpr rfl))), upd_same, fun b xs h => SqT.updI h hx⟩
theorem ok_StInitB (T : Tx w K mg) : ∀ (cdv : Value) (f : Addr) (A : Around) (outer : List Env) (s : Shared) (H : Hp) (vs : List V) (Q : VK) (E : XK), Room 3 (A.deeper (envOfC "Stack.__init__" (defScope s_StInit) s.heap.objs.size f cdv)) → spStB K vs H Q E →
    ∃ t, PSs (cxOf (L2N.CX P w) P w K mg base ["self", "entries", "index", "entry", "is_stack", "rule"] "Stack.__init__" (defScope s_StInit) f cdv A outer s H E) (defBody s_StInit) t ∧ t { nx := fun _ H' => Q .non H', rt := Q } (start ["self", "entries", "index", "entry", "is_stack", "rule"] vs) H := by
  intro cdv f A outer s H vs Q E hr h
  obtain ⟨x, dx, p, es, rs, rfl, hx, hp, hes, hl, q1, q2⟩ := h
  have hlen : es.length = rs.length := Paired.length hes
  refine ⟨_, pss_cons (ps_fld (pv 0) (pv 1) rfl) (pss_cons (ps_fld (pv 0) (pe_tup pa_nil) rfl) (pss_cons (ps_fld (pv 0) (pe_tup pa_nil) rfl) (pss_cons (ps_fld (pv 0) pe_int rfl) (pss_one
    (ps_for PassesOwn.leaving rfl (pi_enumT (by rfl) T.b_enumerate (pa_cons (pv 1) pa_nil)) (pg_tup rfl (pgs_cons (pg_name (i := 2) sc_StInit.nd rfl (.inl rfl)) (pgs_cons (pg_name (i := 3) sc_StInit.nd rfl (.inl rfl)) pgs_nil)))
      (pss_cons (ps_set (i := 4) sc_StInit.nd rfl (.inl rfl) (pe_callB call_isi (by rfl) T.b_isinstance (by decide +kernel) (pa_cons (pv 3) (pa_cons (kr T.g_Stack) pa_nil))))
      (pss_cons (ps_if (PW.pt (pw_or (pt_cmpR op_eq (pv 2) (ki T.i_MOST_ENTRIES) (nomark _)) (pw_or1 (PW.pt (pw_and (pt_not (pt_val (pv 4))) (pw_and1 (pt_not (pt_val (pe_callB call_isi (by rfl) T.b_isinstance (by decide +kernel) (pa_cons (pv 3) (pa_cons (kr T.g_Rule) pa_nil)))))))))))
        (pss_one (L2N.ps_raise rfl (L2N.takes_of rfl rfl rfl rfl) (pmk_oexN T.oStk T.m_InvalidStack___init__.at_ T.tiStk (ok_XStk T) (hr.mono (by decide)) (by rfl) T.g_InvalidStack (pa_cons (pv 2) pa_nil)))) pss_nil)
      (pss_cons (ps_fld (pv 0) (pe_op op_cat0 (pe_fld (pv 0) rfl) (gd (ok_stepsOf T) hr (by decide) pass0 (pa_cons (pv 3) pa_nil))) rfl)
      (pss_cons (ps_fld (pv 0) (pe_callTy call_tuple_of (by rfl) T.b_tuple (by decide +kernel) (pa_cons (pe_callB (cr_sortT rfl) (by rfl) T.b_sorted (by decide +kernel) (pa_cons (pe_callTy (cr_setL rfl) (by rfl) T.b_set (by decide +kernel) (pa_cons
          (pe_lc (own := [("rule", 5)]) (g := gName 5) (tt := tYes) (te := tFld K (tVar 5) "asks") rfl sc_StInit.nd (pi_tup (pe_fld (pv 0) rfl)) (blkOk_by (N := ["self", "entries", "index", "entry", "is_stack", "rule"]) (sc := defScope s_StInit) (by decide +kernel))
            (fun _ _ _ _ _ => pg_name (i := 5) sc_StInit.nd rfl (Or.inl rfl)) (fun _ _ _ _ _ => pts_nil) (fun _ _ _ _ _ => pe_fld (pv 5) rfl)) pa_nil)) pa_nil)) pa_nil)) rfl)
      (pss_cons (ps_fld (pv 0) (pe_callB (call_max2 rfl) (by rfl) T.b_max (by decide +kernel) (pa_cons (pe_fld (pv 0) rfl) (pa_cons (pe_ifExp (pt_val (pv 4)) (pe_op op_add (pe_fld (pv 3) rfl) pe_int) pe_int) pa_nil))) rfl)
      (pss_one (ps_if (PW.pt (pw_or (pt_cmpR op_gt (pe_fld (pv 0) rfl) (ki T.i_MOST_DEPTH_stacks) (nomark _)) (pw_or (pt_cmpR op_gt (pe_callB call_len (by rfl) T.b_len (by decide +kernel) (pa_cons (pe_fld (pv 0) rfl) pa_nil)) (ki T.i_MOST_RULES) (nomark _))
          (pw_or1 (pt_cmpR op_gt (pe_callB call_len (by rfl) T.b_len (by decide +kernel) (pa_cons (pe_fld (pv 0) rfl) pa_nil)) (ki T.i_MOST_MODULES) (nomark _))))))
        (pss_one ps_never) pss_nil)))))))))))), ?_⟩
  refine ⟨_, rfl, _, rfl, x, _, dx, _, rfl, hx, T.c_Stack, T.n_Stack_parts, by decide, ?_⟩
  obtain ⟨k1, x1, t1⟩ := put_step (K := K) (fs' := putF "parts" (.ref p) []) (Keep.refl (S := [x]) H) (Keep.refl0 H) hx
  refine ⟨Nat.zero_le _, fun q hq => ⟨_, rfl, x, _, dx, _, rfl, same_upd hq _ _ x1, T.c_Stack, T.n_Stack_steps, by show 1 < 1000; decide, ?_⟩⟩
  obtain ⟨k2, x2, t2⟩ := put_step (K := K) (fs' := putF "steps" (.ref q) (putF "parts" (.ref p) [])) k1 (same_upd (o := HO.tup []) hq) (same_upd hq _ _ x1)
  have sq2 := t2 q [] (SqT.of upd_same)
  refine ⟨Nat.zero_le _, fun n hn => ⟨_, rfl, x, _, dx, _, rfl, same_upd hn _ _ x2, T.c_Stack, T.n_Stack_names, by show 2 < 1000; decide, ?_⟩⟩
  obtain ⟨k3, x3, t3⟩ := put_step (K := K) (fs' := putF "names" (.ref n) (putF "steps" (.ref q) (putF "parts" (.ref p) []))) k2 (same_upd (o := HO.tup []) hn) (same_upd hn _ _ x2)
  have sn3 := t3 n [] (SqT.of upd_same)
  have sq3 := t3 q [] (Same.seqT (same_upd hn) sq2)
  refine ⟨_, rfl, x, _, dx, _, rfl, x3, T.c_Stack, T.n_Stack_depth, by show 3 < 1000; decide, ?_⟩
  obtain ⟨k4, x4, t4⟩ := put_step (K := K) (fs' := putF "depth" (.int 1) (putF "names" (.ref n) (putF "steps" (.ref q) (putF "parts" (.ref p) [])))) k3 (Keep.refl0 _) x3
  have hp4 := Keep.seqT (S := []) k4 hp hx
  refine ⟨_, rfl, p, _, rfl, hp4, for_it (walk_enumT (xs := es.map V.ref)) (fun i σ H' => StL K H x dx p es rs i σ H') ?_ (fun i σ H' _ st => Keep.seqT (S := []) st.kp hp hx) (fun i v σ1 H1 H2 hi st hy => ?_) fun σ1 H1 st => ?_⟩
  · exact ⟨⟨_, _, _, _, rfl⟩, k4, Nat.zero_le _, q, n, [], x4, t4 _ _ sq3, t4 _ _ sn3, ⟨List.nodup_nil, fun y => by simp⟩⟩
  · obtain ⟨Tu, y, rfl, hTu, rfl, hy⟩ := hy
    obtain ⟨⟨a, b, c, d, rfl⟩, kp, le, q, n, ss, x1, sq, sn, nm⟩ := st
    obtain ⟨r, hr0, rfl⟩ := List.getElem?_map .. ▸ hy |> fun z => Option.map_eq_some_iff.mp z
    obtain ⟨u, hu, ru⟩ := paired_get hes hr0
    have ru1 := Keep.rule kp ru hx (.inl rfl)
    have sT := same_upd (o := HO.tup [.int (i : Nat), .ref r]) hTu
    have ru2 := RuAt.mono ru1 sT
    have x2 := sT _ _ x1
    refine ⟨Tu, _, rfl, SqT.of upd_same, rfl, _, _, rfl, _, _, rfl, rfl, ?_⟩
    refine ⟨_, rfl, _, _, _, _, false, rfl, .own _, tyRule T ru2, T.iNot, ?_⟩
    refine ⟨_, rfl, rfl, _, rfl, ?_⟩
    have hir : i < rs.length := (List.getElem?_eq_some_iff.mp hu).1
    by_cases e12 : i = 12
    · refine it (by rw [e12]; rfl) (it rfl ?_)
      refine ⟨_, rfl, by show 1 ≤ 1000; decide, mk_read (by rw [e12]; rfl) fun d' H' k => q2 (by omega) d' H' (kp.trans (Same.keep fun b o e => k b o (sT b o e)))⟩
    refine if_ (decide_eq_false fun z => e12 (by injection z with z; omega)) ?_
    refine ⟨_, rfl, false, rfl, it rfl ?_⟩
    refine ⟨_, rfl, _, _, _, _, true, rfl, .own _, tyRule T ru2, T.iRule.me, true, rfl, if_ rfl ?_⟩
    -- self.steps
    refine ⟨_, rfl, x, _, dx, _, _, rfl, x2, T.c_Stack, T.n_Stack_steps, rfl, ?_⟩
    refine ⟨_, rfl, r, u, rfl, ru2, fun p1 H3 k3 hp1 => ?_⟩
    refine ⟨q, p1, _, _, rfl, rfl, Same.seqT k3 (Same.seqT sT sq), hp1, ?_, fun p2 H4 k4 hp2 => ?_⟩
    · rw [List.length_map, List.length_take]
      exact Nat.le_trans (Nat.add_le_add_right (Nat.min_le_left _ _) _) (Nat.le_trans (Nat.add_le_add_right le 1) (by decide))
    have x4 := k4 _ _ (k3 _ _ x2)
    refine ⟨_, rfl, x, _, dx, _, rfl, x4, T.c_Stack, T.n_Stack_steps, by show 4 < 1000; decide, ?_⟩
    obtain ⟨k5, x5, t5⟩ := put_step (K := K) (fs' := [("parts", .ref p), ("steps", .ref p2), ("names", .ref n), ("depth", .int 1)]) kp (fun b o e => k4 b o (k3 b o (sT b o e))) x4
    have hst : (es.take i).map V.ref ++ [V.ref r] = (es.take (i + 1)).map V.ref := by
      rw [List.take_succ, hr0, List.map_append]
      rfl
    rw [hst] at hp2
    have sp5 := t5 _ _ hp2
    have kr5 : Paired (RuAt K _) es rs := Paired.mapP hes fun r u z => Keep.rule k5 z hx (.inl rfl)
    -- self.names
    refine ⟨_, rfl, x, _, dx, _, _, rfl, x5, T.c_Stack, T.n_Stack_steps, rfl, p2, rfl, ⟨_, sp5⟩, fun D hD => ?_⟩
    have sp6 : ∀ H', (∀ b o, upd H4 x (.ins (ga K "Stack") dx [("parts", .ref p), ("steps", .ref p2), ("names", .ref n), ("depth", .int 1)]) b = some o → H' b = some o) → SqT K H' p2 ((es.take (i + 1)).map V.ref) := fun H' k => Same.seqT k sp5
    refine lc_it (walk_tup (K := K) (a := p2) (xs := (es.take (i + 1)).map V.ref)) (fun j H' => H' D = some (.lst (((rs.take j).map fun u => mdS u.1).map V.str)) ∧
      ∀ b o, upd H4 x (.ins (ga K "Stack") dx [("parts", .ref p), ("steps", .ref p2), ("names", .ref n), ("depth", .int 1)]) b = some o → H' b = some o) ⟨upd_same, same_upd hD⟩ (fun j H' _ p => sp6 H' p.2) (fun j v H5 H6 hj hp hy => ?_) (fun H6 hp6 => ?_)
    · obtain ⟨rfl, hx6⟩ := hy
      have hj' : j < i + 1 := by
        rw [List.length_map, List.length_take] at hj
        exact Nat.lt_of_lt_of_le hj (Nat.min_le_left _ _)
      obtain ⟨r6, hr6, rfl⟩ := List.getElem?_map .. ▸ hx6 |> fun z => Option.map_eq_some_iff.mp z
      rw [List.getElem?_take_of_lt hj'] at hr6
      obtain ⟨u6, hu6, ru6⟩ := paired_get kr5 hr6
      obtain ⟨dy, b6, h6, _⟩ := RuAt.mono ru6 hp.2
      refine ⟨rfl, _, rfl, r6, _, dy, _, _, rfl, h6, T.c_Rule, T.n_Rule_asks, rfl, _, hp.1, ?_, ?_, fun b o e => ?_⟩
      · rw [List.length_map, List.length_map, List.length_take]
        exact Nat.lt_of_le_of_lt (Nat.min_le_left _ _) (Nat.lt_of_lt_of_le hj' (Nat.le_trans (Nat.add_le_add_right le 1) (by decide)))
      · rw [upd_same, List.take_succ, hu6, List.map_append, List.map_append]
        rfl
      · rw [upd_ne (ne_of_none e hD)]
        exact hp.2 b o e
    obtain ⟨hD6, k6⟩ := hp6
    have hn6 : (((es.take (i + 1)).map V.ref).length) = i + 1 := by
      rw [List.length_map, List.length_take, Nat.min_eq_left]
      rw [hlen]; exact hir
    rw [hn6] at hD6
    have hxl : ((rs.take (i + 1)).map fun u => mdS u.1).length ≤ 13 := by
      rw [List.length_map, List.length_take]
      exact Nat.le_trans (Nat.min_le_left _ _) (Nat.add_le_add_right le 1)
    have nd : (uq [] ((rs.take (i + 1)).map fun u => mdS u.1)).Nodup := uq_nodup _ _ List.nodup_nil
    have me : ∀ y, y ∈ uq [] ((rs.take (i + 1)).map fun u => mdS u.1) ↔ y ∈ (rs.take (i + 1)).map fun u => mdS u.1 := fun y => by
      rw [uq_mem]
      exact ⟨fun z => z.elim (fun z => nomatch z) id, .inr⟩
    refine ⟨D, _, rfl, SqL.of hD6, Nat.le_trans hxl (by decide), fun p3 hp3 => ?_⟩
    refine ⟨p3, _, rfl, upd_same, Nat.le_trans (nodup_le nd fun y z => (me y).mp z) (Nat.le_trans hxl (by decide)), fun ss' p4 pm hp4 => ?_⟩
    refine ⟨p4, _, rfl, .inl ⟨SqL.of upd_same, fun p5 hp5 => ?_⟩⟩
    have k9 : ∀ b o, upd H4 x (.ins (ga K "Stack") dx [("parts", .ref p), ("steps", .ref p2), ("names", .ref n), ("depth", .int 1)]) b = some o → upd (upd (upd H6 p3 (SetO' w p3 (uq [] ((rs.take (i + 1)).map fun u => mdS u.1)))) p4 (.lst (ss'.map V.str))) p5 (.tup (ss'.map V.str)) b = some o := fun b o e =>
      same_upd hp5 b o (same_upd hp4 b o (same_upd hp3 b o (k6 b o e)))
    have x9 := k9 _ _ x5
    refine ⟨_, rfl, x, _, dx, _, rfl, x9, T.c_Stack, T.n_Stack_names, by show 4 < 1000; decide, ?_⟩
    obtain ⟨k10, x10, t10⟩ := put_step (K := K) (fs' := [("parts", .ref p), ("steps", .ref p2), ("names", .ref p5), ("depth", .int 1)]) k5 k9 x9
    have sq10 := t10 _ _ (Same.seqT k9 sp5)
    have sn10 := t10 _ _ (SqT.of upd_same)
    refine ⟨_, rfl, x, _, dx, _, _, rfl, x10, T.c_Stack, T.n_Stack_depth, rfl, _, rfl, false, rfl, if_ rfl ?_⟩
    refine ⟨1, 1, rfl, _, rfl, x, _, dx, _, rfl, x10, T.c_Stack, T.n_Stack_depth, by show 4 < 1000; decide, ?_⟩
    obtain ⟨k11, x11, t11⟩ := put_step (K := K) (fs' := [("parts", .ref p), ("steps", .ref p2), ("names", .ref p5), ("depth", .int 1)]) k10 (Keep.refl0 _) x10
    have sq11 := t11 _ _ sq10
    have sn11 := t11 _ _ sn10
    have nm11 : NamesOf ss' (rs.take (i + 1)) := names_of (fun y => by rw [pm.mem_iff]; exact me y) (pm.nodup_iff.mpr nd)
    refine ⟨_, rfl, x, _, dx, _, _, rfl, x11, T.c_Stack, T.n_Stack_depth, rfl, _, _, rfl, rfl, _, rfl, if_ rfl ?_⟩
    refine ⟨_, rfl, x, _, dx, _, _, rfl, x11, T.c_Stack, T.n_Stack_steps, rfl, _, _, rfl, .inr ⟨_, sq11, rfl⟩, _, _, rfl, rfl, _, rfl, if_ ?_ ?_⟩
    · rw [hn6]
      exact decide_eq_false (by omega)
    have hs3 := nm11.few
    refine ⟨_, rfl, x, _, dx, _, _, rfl, x11, T.c_Stack, T.n_Stack_names, rfl, _, _, rfl, .inr ⟨_, sn11, rfl⟩, _, _, rfl, rfl, _, rfl, if_ ?_ ?_⟩
    · rw [List.length_map]
      exact decide_eq_false (by omega)
    exact ⟨⟨_, _, _, _, rfl⟩, k11, by omega, p2, p5, ss', x11, sq11, sn11, nm11⟩
  · have hle := st.le
    rw [List.length_map] at hle
    obtain ⟨q, n, ss, e1, e2, e3, e4⟩ := st.at_
    rw [List.length_map] at e2 e4
    rw [List.take_length] at e2
    rw [hlen, List.take_length] at e4
    have kr : Paired (RuAt K H1) es rs := Paired.mapP hes fun r u z => Keep.rule st.kp z hx (.inl rfl)
    exact q1 (by omega) H1 st.kp ⟨dx, p, q, n, es, ss, e1, Keep.seqT (S := []) st.kp hp hx, e2, e3, e4, kr, by omega⟩
/-- Stack(*rules): x with its empty fields, the rules -/
def spSt (K : PySem.W.Frag) : Sp := fun vs H Q E => ∃ x dx es rs, vs = .ref x :: es.map V.ref ∧ H x = some (.ins (ga K "Stack") dx []) ∧ Paired (RuAt K H) es rs ∧ rs.length ≤ 13 ∧
  (rs.length ≤ 12 → ∀ H', Keep [x] H H' → StAt K H' x rs → Q .non H') ∧ (12 < rs.length → ∀ d H', Keep [x] H H' → E (.ref (ga K "InvalidStack")) (some d) H')
theorem ok_StInit (T : Tx w K mg) : Ck P w K mg base (L2N.CX P w) 4 "Stack" (spSt K) := by
  refine ⟨?_, T.k_Stack, T.g_Stack⟩
  obtain ⟨fd, F⟩ := T.d_StInit
  obtain ⟨oc, od, dV, kV, doc, pm, an, cdv, ct, osl, rfl, lk, hcd, hD, _⟩ := F.ex
  obtain rfl : dV = .none := hD.elim (fun z => z.2) fun z => absurd rfl z.1
  refine (StX.fn_star (P := P) (w := w) (mg := mg) (base := base) (CX := L2N.CX P w) (k := 3) (ps := ["self"]) (pv := "entries") (N := ["self", "entries", "index", "entry", "is_stack", "rule"]) (sp := spStB K) lk hcd sc_StInit cxUpN (StX.bind_star1 (B := fun us => bindArgs (PySem.W.fnOf "__init__" "Stack.__init__" (defArgs s_StInit) (defBody s_StInit) (defScope s_StInit) .none kV doc pm an cdv ct) ⟨us, []⟩) (p1 := "self") (pv := "entries") (fun _ => rfl) (fun _ _ _ => rfl))
    fun A outer s H vs Q E hr h => ok_StInitB T cdv _ A outer s H vs Q E hr h).imp fun vs H Q E h => ?_
  obtain ⟨x, dx, es, rs, rfl, hx, hes, hl, q1, q2⟩ := h
  have hlen := Paired.length hes
  refine ⟨[.ref x], es.map V.ref, rfl, rfl, ?_, fun p hp => ⟨x, dx, p, es, rs, rfl, same_upd hp _ _ hx, SqT.of upd_same, rules_mono hes (same_upd hp), hl, fun z H' k => q1 z H' ?_, fun z d H' k => q2 z d H' ?_⟩⟩
  · rw [List.length_map, hlen]
    exact Nat.le_trans hl (by decide)
  · exact (Same.keep (same_upd hp)).trans k
  · exact (Same.keep (same_upd hp)).trans k
end
end K6
set_option Elab.async false
set_option linter.all false
set_option maxRecDepth 100000
set_option maxHeartbeats 2000000
/-! K68Own: len, [], +, == of instances by their own methods -/
namespace K6
open PySem PySem.Spec PyProof.Rows L2
section
variable {X : Cx} {CX : CXT} {k j : Nat} {f C : Addr} {sp : Sp} {E : XK} {a b : Expr} {ta tb : TE} {pos : Pos}
theorem inst_at {pins : List (Addr × Obj)} {σ : L2.St} {H : Hp} {s : Shared} {x dx : Addr} {fs : List (Str × V)} (I : Inv X pins σ H s) (e : H x = some (.ins C dx fs)) : ∃ od, PySem.W.InstAt s.heap x (PySem.W.instObj C dx) C (some od) := by
  obtain ⟨mA, J, _⟩ := ins_get I.hok e
  obtain ⟨od, J, _⟩ := J.look
  exact ⟨od, J⟩
theorem env0_in1 {pins : List (Addr × Obj)} {σ : L2.St} {H : Hp} {s : Shared} (I : Inv X pins σ H s) : Env0 X.prog X.w X.K X.mg X.base X.A.in1 X.stack s H := by
  have e := I.env0
  exact ⟨e.frames, e.mod, e.bs, e.bsz, e.funs, e.frf, e.hok, e.bare⟩
/-- a method run, nothing raised -/
theorem run_own {A : Around} {pins : List (Addr × Obj)} {σ : L2.St} {H : Hp} {s : Shared} {Q : VK} {R : Value → Shared → Prop} {E' : Value → Shared → Prop} {us : List Value} {vs : List V} (F : FnR X.prog X.w X.K X.mg X.base CX0 k f sp) (hr : Room k A) (e0 : Env0 X.prog X.w X.K X.mg X.base A X.stack s H)
    (I : Inv X pins σ H s) (r : Vals vs us) (h : sp vs H Q E0) (hR : ∀ u s', EP X pins σ Q u s' → R u s') : wpAny (model X.prog X.w) A (call (.ref f) us) R E' s := by
  refine wpAny_call (codeAny_mono (F A X.stack s H us vs Q E0 hr e0 r h) fun r s' hq => ?_)
  cases r with
  | error e => exact hq.elim
  | ok fl =>
    cases fl with
    | ret u => exact hR u s' (I.after hq)
    | next => exact False.elim hq
    | brk => exact False.elim hq
    | cont => exact False.elim hq
/-- len(o) -/
theorem cr_lenI (F : FnR X.prog X.w X.K X.mg X.base CX0 k f sp) (hr : Room (k + 1) X.A) (hm : Meth X.K C "__len__" f) :
    CallR X (.builtin "len") (fun xs H Q => ∃ o dx fs, xs = [.ref o] ∧ H o = some (.ins C dx fs) ∧ sp [.ref o] H (fun v H' => ∃ n : Int, v = .int n ∧ 0 ≤ n ∧ n < 2 ^ 63 ∧ Q (.int n) H') E0) := by
  intro pins s σ H xs us Q I r h
  obtain ⟨o, dx, fs, rfl, ho, q⟩ := h
  rw [Vals.ref1 r]
  obtain ⟨od, J⟩ := inst_at I ho
  obtain ⟨m, hF⟩ := I.fr
  refine PySem.W.len_K hF I.ok.mod.kin J hm.at_ hm.fn (run_own (us := [.ref o]) (vs := [.ref o]) F hr.in1 (env0_in1 I) I (.cons rfl .nil) q fun u s' ⟨v, H', I', rv, n, ev, h0, h1, q'⟩ => ?_)
  subst ev
  obtain ⟨t, rfl⟩ := rv
  exact ⟨⟨h0, h1⟩, .int n, H', I'.tok _, ⟨_, rfl⟩, q'⟩
/-- o[i] -/
def tIxO (C : Addr) (sp : Sp) (ta tb : TE) : TE := fun σ H Q => ta σ H fun x H1 => tb σ H1 fun y H2 => ∃ o dx fs, x = .ref o ∧ H2 o = some (.ins C dx fs) ∧ sp [.ref o, y] H2 Q E0
theorem pe_ixO (F : FnR X.prog X.w X.K X.mg X.base CX0 k f sp) (hr : Room (k + 1) X.A) (hm : Meth X.K C "__getitem__" f) (hf : PySem.W.fnIn X.K f = true) (ha : PE X a ta) (hb : PE X b tb)
    (hsl : ∀ o i, subscripted b true (.ref o) i = runValue (.builtin "lifetime.subscript" ⟨[.ref o, i], []⟩) := by intro _ _; with_unfolding_all rfl) : PE X (.Subscript a b pos) (tIxO C sp ta tb) := by
  refine ⟨fun pins s σ H Q I h => ?_⟩
  refine Subscript_ (binT ha hb I (R := fun x y H2 => ∃ o dx fs, x = .ref o ∧ H2 o = some (.ins C dx fs) ∧ sp [.ref o, y] H2 Q E0) h fun v u s2 x y H2 I2 rx ry q => ?_)
  obtain ⟨o, dx, fs, ex, ho, q⟩ := q
  subst ex
  obtain rfl : v = Value.ref o := rx
  obtain ⟨od, J⟩ := inst_at I2 ho
  obtain ⟨m, hF⟩ := I2.fr
  exact PySem.W.sub_K hF I2.ok.mod.kin J hm.at_ hf hm.fn (run_own (us := [.ref o, u]) (vs := [.ref o, y]) F hr.in1 (env0_in1 I2) I2 (.cons rfl (.cons ry .nil)) q fun u s' z => z) (hsl o u)
/-- o + p -/
theorem op_addI (F : FnR X.prog X.w X.K X.mg X.base CX k f sp) (hr : Room k X.A) (hm : Meth X.K C "__add__" f) (hc : PySem.W.selfFirst X.K C = true) (hx : ∀ σ, PassesAt CX X σ E) :
    OpR X (binaryOp .Add) (fun x y H Q => ∃ o p dx dy fs gs, x = .ref o ∧ y = .ref p ∧ H o = some (.ins C dx fs) ∧ H p = some (.ins C dy gs) ∧ sp [.ref o, .ref p] H (fun v H' => (∃ c, v = .ref c) ∧ Q v H') E) := by
  intro pins s σ H x y v u Q I rx ry h
  obtain ⟨o, p, dx, dy, fs, gs, rfl, rfl, ho, hp, q⟩ := h
  cases rx
  cases ry
  obtain ⟨od, J⟩ := inst_at I ho
  obtain ⟨od', J'⟩ := inst_at I hp
  obtain ⟨m, hF⟩ := I.fr
  refine PySem.W.binop_K (op := .Add) hF I.ok.mod.kin J J'.type hc hm.at_ hm.fn ?_
  refine wpAny_call (codeAny_mono (F X.A X.stack s H [.ref o, .ref p] [.ref o, .ref p] _ E hr I.env0 (.cons rfl (.cons rfl .nil)) q) fun r s' hq => ?_)
  cases r with
  | error e => exact hx σ pins H s e s' I hq
  | ok fl =>
    cases fl with
    | ret u =>
      obtain ⟨v, H', I', rv, ⟨c, ev⟩, q'⟩ := I.after hq
      subst ev
      cases rv
      exact ⟨.ref c, H', I', rfl, q'⟩
    | next => exact False.elim hq
    | brk => exact False.elim hq
    | cont => exact False.elim hq
/-- == by an own __eq__ that says True -/
theorem rcG_R {n : Nat} {R : Addr → Addr → Hp → Prop} (F : FnR X.prog X.w X.K X.mg X.base CX0 n f (spEq R)) (hm : Meth X.K C "__eq__" f) : RcG X n (DIns C R) := by
  intro A pins s σ H x y u v sb I rx ry d
  obtain ⟨o, p, dx, dy, fs, gs, rfl, rfl, ho, hp, hR⟩ := d
  cases rx
  cases ry
  obtain ⟨od, J⟩ := inst_at I ho
  obtain ⟨od', J'⟩ := inst_at I hp
  obtain ⟨m, hF⟩ := I.fr
  have e := I.env0
  have e0 : Env0 X.prog X.w X.K X.mg X.base A X.stack s H := ⟨by rw [sb.fr]; exact e.frames, e.mod, e.bs, e.bsz, e.funs, e.frf, e.hok, e.bare⟩
  refine PySem.W.cmp_K (op := .Eq) (tb := .ref C) sb.room.units0 hF I.ok.mod.kin J J'.type (by simp [PySem.W.notFirst]) hm.at_ hm.fn ?_
  refine run_own (us := [.ref o, .ref p]) (vs := [.ref o, .ref p]) (Q := fun v H' => v = .bl true ∧ L2.Ext H H') F sb.room e0 I (.cons rfl (.cons rfl .nil)) ⟨o, p, rfl, hR, fun H' z => ⟨rfl, z⟩⟩ fun u s' ⟨v, H', I', rv, ev, ex⟩ => ?_
  subst ev
  cases rv
  exact ⟨rfl, H', I', ex⟩
theorem eqG_R {n : Nat} {R : Addr → Addr → Hp → Prop} (F : FnR X.prog X.w X.K X.mg X.base CX0 n f (spEq R)) (hm : Meth X.K C "__eq__" f) : EqG X n (DIns C R) :=
  (rcG_R F hm).eqG fun _ _ _ d => let ⟨a, b, _, _, _, _, hx, hy, _⟩ := d; ⟨a, b, hx, hy⟩
end
theorem FnF.fnIn {K : PySem.W.Frag} {x qual : Str} {st : Stmt} {f : Addr} (F : FnF K x qual st f) : PySem.W.fnIn K f = true := by
  obtain ⟨fd, F⟩ := F
  obtain ⟨oc, od, dV, kV, doc, pm, an, cdv, ct, osl, rfl, lk, hcd, hD, _⟩ := F.ex
  unfold PySem.W.fnIn
  rw [lk]
end K6
set_option Elab.async false
set_option linter.all false
set_option maxRecDepth 100000
set_option maxHeartbeats 2000000
/-! K68Stk2: the methods of Stack -/
namespace K6
open PySem PySem.Spec PyProof.Rows L2
/-- nothing is let out of a call of a def that may -/
theorem paN {X : Cx} : ∀ σ : L2.St, PassesAt (L2N.CX X.prog X.w) X σ ((fun _ => fun _ _ _ => False) σ) := fun _ _ _ _ _ _ _ ⟨_, _, _, _, _, _, _, _, _, _, _, _, z⟩ => z.elim
theorem Keep.single {G H H' : Hp} {x : Addr} (k : Keep [x] H H') (g : Same G H) (n : G x = none) : Same G H' := Keep.of k g fun b hb => by rw [List.mem_singleton.mp hb]; exact n
theorem same_make {H : Hp} {x dx C : Addr} (hx : H x = none) (hdx : H dx = none) : Same H (upd (upd H dx (.own x)) x (.ins C dx [])) := fun b o e => by
  rw [upd_ne (ne_of_none e hx), upd_ne (ne_of_none e hdx)]
  exact e
/-- Stack(*a tuple of rules), from the promise of its __init__ -/
theorem make_stack {K : PySem.W.Frag} {H : Hp} {x dx : Addr} {es : List Addr} {rs : List K68.Ru} {Q : VK} {E : XK} (hx : H x = none) (hdx : H dx = none) (hes : Paired (RuAt K H) es rs) (hl : rs.length ≤ 13)
    (q1 : rs.length ≤ 12 → ∀ H', Same H H' → StAt K H' x rs → Q (.ref x) H') (q2 : 12 < rs.length → ∀ d H', Same H H' → E (.ref (ga K "InvalidStack")) (some d) H') :
    spSt K (V.ref x :: es.map V.ref) (upd (upd H dx (.own x)) x (.ins (ga K "Stack") dx [])) (fun v H2 => v = .non ∧ Q (.ref x) H2) E :=
  ⟨x, dx, es, rs, rfl, upd_same, rules_mono hes (same_make hx hdx), hl, fun z H' k st => ⟨rfl, q1 z H' (Keep.single k (same_make hx hdx) hx) st⟩, fun z d H' k => q2 z d H' (Keep.single k (same_make hx hdx) hx)⟩
theorem Paired.append {α β : Type} {F : α → β → Prop} : ∀ {l₁ l₂ : List α} {m₁ m₂ : List β}, Paired F l₁ m₁ → Paired F l₂ m₂ → Paired F (l₁ ++ l₂) (m₁ ++ m₂)
  | _, _, _, _, .nil, h => h
  | _, _, _, _, .cons r t, h => .cons r (Paired.append t h)
theorem paired_drop {α β : Type} {F : α → β → Prop} : ∀ {l : List α} {m : List β}, Paired F l m → ∀ n, Paired F (l.drop n) (m.drop n)
  | _, _, h, 0 => h
  | _, _, .nil, _ + 1 => .nil
  | _, _, .cons r t, n + 1 => paired_drop t n
section
variable {P : Program} {w : World} {K : PySem.W.Frag} {mg : Str → Option Value} {base : Heap}
def spStLen (K : PySem.W.Frag) : Sp := fun vs H Q _ => ∃ s rs, vs = [.ref s] ∧ StAt K H s rs ∧ Q (.int rs.length) H
theorem ok_StLen (T : Tx w K mg) : FnR P w K mg base CX0 1 (ma K (ga K "Stack") "__len__") (spStLen K) := by
  refine T.d_StLen.r sc_StLen bi_StLen (fun vs H Q E h => ?_) (fun cdv A outer s H vs Q E hr h => ?_)
  · obtain ⟨s, rs, rfl, _⟩ := h
    rfl
  obtain ⟨s, rs, rfl, ⟨dx, p, q0, n, es, ss, h1, h2, h3, h4, h5, h6, h7⟩, q⟩ := h
  refine ⟨_, pss_one (ps_ret (pe_callB call_len (by rfl) T.b_len (by decide +kernel) (pa_cons (pe_fld (pv 0) rfl) pa_nil))), ?_⟩
  refine ⟨_, rfl, s, _, dx, _, _, rfl, h1, T.c_Stack, T.n_Stack_parts, rfl, _, _, rfl, .inr ⟨_, h2, rfl⟩, ?_⟩
  rw [List.length_map, Paired.length h6]
  exact q
def spStGet (K : PySem.W.Frag) : Sp := fun vs H Q _ => ∃ s rs j u, vs = [.ref s, .int (j : Nat)] ∧ StAt K H s rs ∧ rs[j]? = some u ∧ ∀ r, RuAt K H r u → Q (.ref r) H
theorem paired_getR {α β : Type} {F : α → β → Prop} : ∀ {l : List α} {m : List β} {i : Nat} {y : β}, Paired F l m → m[i]? = some y → ∃ x, l[i]? = some x ∧ F x y
  | _, _, _, _, .nil, e => by simp at e
  | _, _, 0, _, .cons r _, e => by simp at e; subst e; exact ⟨_, rfl, r⟩
  | _, _, i + 1, y, .cons _ t, e => by
    obtain ⟨x, h1, h2⟩ := paired_getR (i := i) t (by simpa using e)
    exact ⟨x, by simpa using h1, h2⟩
theorem ok_StGet (T : Tx w K mg) : FnR P w K mg base CX0 1 (ma K (ga K "Stack") "__getitem__") (spStGet K) := by
  refine T.d_StGet.r sc_StGet bi_StGet (fun vs H Q E h => ?_) (fun cdv A outer s H vs Q E hr h => ?_)
  · obtain ⟨s, rs, j, u, rfl, _⟩ := h
    rfl
  obtain ⟨s, rs, j, u, rfl, ⟨dx, p, q0, n, es, ss, h1, h2, h3, h4, h5, h6, h7⟩, hj, q⟩ := h
  obtain ⟨r, hr1, hr2⟩ := paired_getR h6 hj
  refine ⟨_, pss_one (ps_ret (pe_ix ix_tup (pe_fld (pv 0) rfl) (pv 1) (fun _ _ => rfl))), ?_⟩
  exact ⟨_, rfl, s, _, dx, _, _, rfl, h1, T.c_Stack, T.n_Stack_parts, rfl, _, rfl, p, _, _, .ref r, rfl, rfl, h2, atI_nat (by rw [List.getElem?_map, hr1]; rfl), q r hr2⟩
def spStAdd (K : PySem.W.Frag) : Sp := fun vs H Q E => ∃ a b ra rb, vs = [.ref a, .ref b] ∧ StAt K H a ra ∧ StAt K H b rb ∧ ra.length + rb.length ≤ 13 ∧
  (ra.length + rb.length ≤ 12 → ∀ c H', Same H H' → StAt K H' c (ra ++ rb) → Q (.ref c) H') ∧ (12 < ra.length + rb.length → ∀ d H', Same H H' → E (.ref (ga K "InvalidStack")) (some d) H')
theorem ok_StAdd (T : Tx w K mg) : FnR P w K mg base (L2N.CX P w) 6 (ma K (ga K "Stack") "__add__") (spStAdd K) := by
  refine T.d_StAdd.r sc_StAdd bi_StAdd (fun vs H Q E h => ?_) (fun cdv A outer s H vs Q E hr h => ?_)
  · obtain ⟨a, b, ra, rb, rfl, _⟩ := h
    rfl
  obtain ⟨a, b, ra, rb, rfl, ⟨dx, p, q0, n, es, ss, h1, h2, h3, h4, h5, h6, h7⟩, ⟨dx', p', q0', n', es', ss', h1', h2', h3', h4', h5', h6', h7'⟩, hl, q1, q2⟩ := h
  have tk := L2N.takes_of (X := cxOf (L2N.CX P w) P w K mg base ["self", "other", "parts"] "Stack.__add__" (defScope s_StAdd) (ma K (ga K "Stack") "__add__") cdv A outer s H E) rfl rfl rfl rfl
  refine ⟨_, pss_cons (ps_set (i := 2) sc_StAdd.nd rfl (.inl rfl) (pe_op op_cat0 (pe_fld (pv 0) rfl) (pe_fld (pv 1) rfl))) (pss_one (ps_ret (ckS (ok_StInit T) hr (by decide) (fun σ => L2N.passAt tk σ) (pv 2)))), ?_⟩
  refine ⟨_, rfl, a, _, dx, _, _, rfl, h1, T.c_Stack, T.n_Stack_parts, rfl, _, rfl, b, _, dx', _, _, rfl, h1', T.c_Stack, T.n_Stack_parts, rfl, p, p', _, _, rfl, rfl, h2, h2', ?_, fun t H1 k1 ht => ?_⟩
  · rw [List.length_map, List.length_map, Paired.length h6, Paired.length h6']
    exact Nat.le_trans hl (by decide)
  rw [← List.map_append] at ht
  refine ⟨_, rfl, t, _, rfl, .inl ht, fun x dz hx hdz ne => ?_⟩
  have hlen : (ra ++ rb).length = ra.length + rb.length := List.length_append
  refine make_stack hx hdz (Paired.append (rules_mono h6 k1) (rules_mono h6' k1)) (by rw [hlen]; exact hl) (fun z H' k st => q1 (by rw [← hlen]; exact z) x H' (fun b o e => k b o (k1 b o e)) st) fun z d H' k => q2 (by rw [← hlen]; exact z) d H' fun b o e => k b o (k1 b o e)
/-! ### == -/
def RuR (K : PySem.W.Frag) (a b : Addr) (H : Hp) : Prop := ∃ u, RuAt K H a u ∧ RuAt K H b u
def StR (K : PySem.W.Frag) (a b : Addr) (H : Hp) : Prop := ∃ rs, StAt K H a rs ∧ StAt K H b rs
theorem eq_rule {X : Cx} (T : Tx X.w X.K X.mg) : EqG X 1 (DIns (ga X.K "Rule") (RuR X.K)) := by
  refine eqG_R ((ok_RuleEq (P := X.prog) (base := X.base) T).fn.imp fun vs H Q E h => ?_) T.m_Rule___eq__
  obtain ⟨a, b, rfl, ⟨u, h1, h2⟩, q⟩ := h
  exact ⟨a, b, u, rfl, h1, h2, q⟩
theorem mon_rule {K : PySem.W.Frag} : Mon (DIns (ga K "Rule") (RuR K)) := mon_ins fun _ _ _ _ e ⟨u, h1, h2⟩ => ⟨u, h1.mono e, h2.mono e⟩
/-- tuples of equal rules -/
theorem prs_rules {H : Hp} {es es' : List Addr} {rs : List K68.Ru} (h : Paired (RuAt K H) es rs) (h' : Paired (RuAt K H) es' rs) : Prs (DIns (ga K "Rule") (RuR K)) (es.map V.ref) (es'.map V.ref) H := by
  refine ⟨by rw [List.length_map, List.length_map, Paired.length h, Paired.length h'], fun i x y hx hy => ?_⟩
  obtain ⟨r, hr, rfl⟩ := List.getElem?_map .. ▸ hx |> fun z => Option.map_eq_some_iff.mp z
  obtain ⟨r', hr', rfl⟩ := List.getElem?_map .. ▸ hy |> fun z => Option.map_eq_some_iff.mp z
  obtain ⟨u, hu, ru⟩ := paired_get h hr
  obtain ⟨u', hu', ru'⟩ := paired_get h' hr'
  rw [hu] at hu'
  cases hu'
  have ⟨d1, b1, z1, _⟩ := ru
  have ⟨d2, b2, z2, _⟩ := ru'
  exact ⟨r, r', d1, d2, _, _, rfl, rfl, z1, z2, u, ru, ru'⟩
theorem ok_StEq (T : Tx w K mg) : FnR P w K mg base CX0 3 (ma K (ga K "Stack") "__eq__") (spEq (StR K)) := by
  refine T.d_StEq.r sc_StEq bi_StEq (fun vs H Q E h => ?_) (fun cdv A outer s H vs Q E hr h => ?_)
  · obtain ⟨a, b, rfl, _⟩ := h
    rfl
  obtain ⟨a, b, rfl, ⟨rs, ⟨dx, p, q0, n, es, ss, h1, h2, h3, h4, h5, h6, h7⟩, ⟨dx', p', q0', n', es', ss', h1', h2', h3', h4', h5', h6', h7'⟩⟩, q⟩ := h
  refine ⟨_, pss_one (ps_ret (pe_and (pe_callB (C8.call_isC T.iStack) (by rfl) T.b_isinstance (by decide +kernel) (pa_cons (pv 1) (pa_cons (kr T.g_Stack) pa_nil)))
    (pe_one (pe_cmpR (op_eqG (rcG_tup mon_rule (eq_rule (X := cxOf CX0 P w K mg base ["self", "other"] "Stack.__eq__" (defScope s_StEq) (ma K (ga K "Stack") "__eq__") cdv A outer s H E) T)) hr) (pe_fld (pv 0) rfl) (pe_fld (pv 1) rfl) (nomark _))))), ?_⟩
  refine ⟨_, rfl, b, dx', _, rfl, h1', true, rfl, it rfl ?_⟩
  exact ⟨_, rfl, a, _, dx, _, _, rfl, h1, T.c_Stack, T.n_Stack_parts, rfl, _, rfl, b, _, dx', _, _, rfl, h1', T.c_Stack, T.n_Stack_parts, rfl, ⟨p, p', _, _, rfl, rfl, h2, h2', prs_rules h6 h6'⟩, q⟩
end
end K6
set_option Elab.async false
set_option linter.all false
set_option maxRecDepth 100000
set_option maxHeartbeats 2000000
/-! K68Stk3: spliced, firsts_of, modules; marked -/
namespace K6
open PySem PySem.Spec PyProof.Rows L2
theorem sIx0 (n d : Nat) : HT.sIx n d (some (0 : Int)) = 0 := by
  rw [show (0 : Int) = ((0 : Nat) : Int) from rfl, HT.sIx_nat]
  exact Nat.zero_min n
section
variable {P : Program} {w : World} {K : PySem.W.Frag} {mg : Str → Option Value} {base : Heap}
def spStSpl (K : PySem.W.Frag) : Sp := fun vs H Q _ => ∃ s e rs es2 rs2, ∃ c : Nat, vs = [.ref s, .int 0, .int c, .ref e] ∧ StAt K H s rs ∧ 1 ≤ c ∧ c ≤ rs.length ∧ SqT K H e (es2.map V.ref) ∧ Paired (RuAt K H) es2 rs2 ∧ rs2.length ≤ c ∧
  ∀ t H', Same H H' → StAt K H' t (rs2 ++ rs.drop c) → Q (.ref t) H'
theorem ok_StSpl (T : Tx w K mg) : Mt P w K mg base CX0 6 "Stack" "spliced" (spStSpl K) := by
  refine ⟨T.d_StSpl.r sc_StSpl bi_StSpl (fun vs H Q E h => ?_) (fun cdv A outer s H vs Q E hr h => ?_), T.m_Stack_spliced, T.c_Stack⟩
  · obtain ⟨s, e, rs, es2, rs2, c, rfl, _⟩ := h
    rfl
  obtain ⟨s, e, rs, es2, rs2, c, rfl, ⟨dx, p, q0, n, es, ss, h1, h2, h3, h4, h5, h6, h7⟩, c1, c2, he, h6', hl2, q⟩ := h
  have hlen := Paired.length h6
  have hlen2 := Paired.length h6'
  refine ⟨_, pss_cons (ps_if (PW.pt (pw_or (pt_not (pt_val (gd (ok_isNumber T) hr (by decide) pass0 (pa_cons (pv 1) (pa_cons pe_int (pa_cons (pe_callB call_len (by rfl) T.b_len (by decide +kernel) (pa_cons (pe_fld (pv 0) rfl) pa_nil)) pa_nil))))))
      (pw_or1 (pt_not (pt_val (gd (ok_isNumber T) hr (by decide) pass0 (pa_cons (pv 2) (pa_cons pe_int (pa_cons (pe_op op_sub (pe_callB call_len (by rfl) T.b_len (by decide +kernel) (pa_cons (pe_fld (pv 0) rfl) pa_nil)) (pv 1)) pa_nil))))))))) (pss_one ps_never) pss_nil)
    (pss_cons (ps_set (i := 4) sc_StSpl.nd rfl (.inl rfl) (pe_op op_cat0 (pe_op op_cat0 (pe_slice sl_tup (pe_fld (pv 0) rfl) po_none (po_some (pv 1))) (pv 3)) (pe_slice sl_tup (pe_fld (pv 0) rfl) (po_some (pe_op op_add (pv 1) (pv 2))) po_none)))
    (pss_one (ps_ret (ckS (ok_StInit T) hr (by decide) paN (pv 4))))), ?_⟩
  refine ⟨_, rfl, _, rfl, s, _, dx, _, _, rfl, h1, T.c_Stack, T.n_Stack_parts, rfl, _, _, rfl, .inr ⟨_, h2, rfl⟩, _, _, _, rfl, true, ?_, if_ rfl ?_⟩
  · rw [List.length_map, hlen]
    exact congrArg V.bl (by rw [decide_eq_true (Int.le_refl 0), decide_eq_true (Int.natCast_nonneg _)]; rfl)
  refine ⟨_, rfl, _, rfl, s, _, dx, _, _, rfl, h1, T.c_Stack, T.n_Stack_parts, rfl, _, _, rfl, .inr ⟨_, h2, rfl⟩, _, rfl, _, _, rfl, rfl, _, _, _, rfl, true, ?_, if_ rfl ?_⟩
  · rw [List.length_map, hlen]
    exact congrArg V.bl (by rw [decide_eq_true (Int.natCast_nonneg _), decide_eq_true (by omega)]; rfl)
  refine ⟨_, rfl, s, _, dx, _, _, rfl, h1, T.c_Stack, T.n_Stack_parts, rfl, _, rfl, _, rfl, p, _, rfl, h2, ?_, fun p1 hp1 => ?_⟩
  · rw [HT.sIx_none, sIx0, List.length_map, hlen]
    omega
  have ec : cutV (es.map V.ref) none (some 0) = [] := by
    unfold cutV
    rw [HT.sIx_none, sIx0]
    rfl
  rw [ec]
  have k1 := same_upd (o := HO.tup []) hp1
  refine ⟨_, rfl, p1, e, [], _, rfl, rfl, SqT.of upd_same, Same.seqT k1 he, ?_, fun p2 H2 k2 hp2 => ?_⟩
  · rw [List.length_map, hlen2]
    exact Nat.le_trans (by rw [List.length_nil, Nat.zero_add]; exact Nat.le_trans hl2 (Nat.le_trans c2 h7)) (by decide)
  refine ⟨_, rfl, s, _, dx, _, _, rfl, k2 _ _ (k1 _ _ h1), T.c_Stack, T.n_Stack_parts, rfl, _, rfl, _, rfl, _, _, rfl, rfl, _, rfl, p, _, rfl, Same.seqT k2 (Same.seqT k1 h2), ?_, fun p3 hp3 => ?_⟩
  · rw [HT.sIx_none, Int.zero_add, HT.sIx_nat, List.length_map, hlen]
    omega
  have ed : cutV (es.map V.ref) (some (0 + (c : Int))) none = (es.drop c).map V.ref := by
    unfold cutV
    rw [HT.sIx_none, Int.zero_add, HT.sIx_nat, List.length_map, hlen, Nat.min_eq_left c2, ← List.map_drop, List.take_of_length_le]
    rw [List.length_map, List.length_drop, hlen]
    exact Nat.le_refl _
  rw [ed]
  have k3 := same_upd (o := HO.tup ((es.drop c).map V.ref)) hp3
  refine ⟨p2, p3, _, _, rfl, rfl, Same.seqT k3 hp2, SqT.of upd_same, ?_, fun p4 H4 k4 hp4 => ?_⟩
  · rw [List.nil_append, List.length_map, List.length_map, List.length_drop, hlen2, hlen]
    exact Nat.le_trans (by omega : _ ≤ 12) (by decide)
  rw [List.nil_append, ← List.map_append] at hp4
  have kk : Same H H4 := fun b o z => k4 b o (k3 b o (k2 b o (k1 b o z)))
  refine ⟨_, rfl, p4, _, rfl, .inl hp4, fun x dz hx hdz ne => ?_⟩
  have hl4 : (rs2 ++ rs.drop c).length ≤ 12 := by
    rw [List.length_append, List.length_drop]
    omega
  exact make_stack hx hdz (Paired.append (rules_mono h6' kk) (paired_drop (rules_mono h6 kk) c)) (Nat.le_succ_of_le hl4) (fun _ H' k st => q x H' (fun b o z => k b o (kk b o z)) st) fun z => absurd hl4 (by omega)
/-! ### firsts_of -/
def natsV (n : Nat) : List V := (List.range n).map fun (i : Nat) => V.int (i : Int)
def spFirsts (K : PySem.W.Frag) : Sp := fun vs H Q _ => ∃ s rs, vs = [.ref s, .int 0] ∧ StAt K H s rs ∧ ∀ p H', Same H H' → H p = none → H' p = some (.lst (natsV rs.length)) → Q (.ref p) H'
theorem natsV_succ (n : Nat) : natsV (n + 1) = natsV n ++ [.int (n : Int)] := by
  unfold natsV
  rw [List.range_succ, List.map_append]
  rfl
theorem ok_firstsOf (T : Tx w K mg) : Gd P w K mg base CX0 2 "firsts_of" (spFirsts K) := by
  refine ⟨T.d_firstsOf.r sc_firstsOf bi_firstsOf (fun vs H Q E h => ?_) (fun cdv A outer s H vs Q E hr h => ?_), T.f_firstsOf, T.d_firstsOf.kp⟩
  · obtain ⟨s, rs, rfl, _⟩ := h
    rfl
  obtain ⟨s, rs, rfl, ⟨dx, p, q0, n, es, ss, h1, h2, h3, h4, h5, h6, h7⟩, q⟩ := h
  have hlen := Paired.length h6
  refine ⟨_, pss_cons (ps_set (i := 2) sc_firstsOf.nd rfl (.inl rfl) (pe_lst pa_nil)) (pss_cons (ps_for PassesOwn.leaving rfl (pi_tup (pe_fld (pv 0) rfl)) (pg_name (i := 3) sc_firstsOf.nd rfl (.inl rfl))
      (pss_cons (ps_expr (pe_bm PySem.F.plainAttrs_list PySem.F.slot_list_append PySem.F.type_list_append mt_append (pv 2) (pa_cons (pv 1) pa_nil)))
        (pss_one (ps_aug (i := 1) sc_firstsOf.nd rfl (.inl rfl) (pe_callB call_len (by rfl) T.b_len (by decide +kernel) (pa_cons (gd (ok_stepsOf T) hr (by decide) pass0 (pa_cons (pv 3) pa_nil)) pa_nil)) ip_add))))
    (pss_one (ps_ret (pv 2)))), ?_⟩
  refine ⟨Nat.zero_le _, fun D hD => ?_⟩
  have k1 := same_upd (o := HO.lst []) hD
  refine ⟨_, rfl, s, _, dx, _, _, rfl, k1 _ _ h1, T.c_Stack, T.n_Stack_parts, rfl, p, rfl, ⟨_, Same.seqT k1 h2⟩, for_it (walk_tup (xs := es.map V.ref)) (fun i σ H' => (∃ v, σ = [some (.ref s), some (.int (i : Nat)), some (.ref D), v]) ∧ Same H H' ∧ H' D = some (.lst (natsV i)))
    ⟨⟨_, rfl⟩, k1, upd_same⟩ (fun i σ H' _ p => Same.seqT p.2.1 h2) (fun i v σ1 H1 H2 hi st hy => ?_) fun σ1 H1 st => ?_⟩
  · obtain ⟨rfl, hy⟩ := hy
    obtain ⟨⟨v, rfl⟩, kk, hd⟩ := st
    obtain ⟨r, hr0, rfl⟩ := List.getElem?_map .. ▸ hy |> fun z => Option.map_eq_some_iff.mp z
    obtain ⟨u, hu, ru⟩ := paired_get h6 hr0
    have hi12 : i < 12 := by
      rw [List.length_map, hlen] at hi
      omega
    refine ⟨_, rfl, .inl ⟨rfl, _, SqL.of hd⟩, _, rfl, D, _, _, rfl, rfl, hd, ?_, ?_⟩
    · rw [show (natsV i).length = i by unfold natsV; rw [List.length_map, List.length_range]]
      exact Nat.lt_of_lt_of_le hi12 (by decide)
    have k2 : Same H (upd H2 D (.lst (natsV i ++ [.int (i : Nat)]))) := fun b o e => by
      rw [upd_ne (ne_of_none e hD)]
      exact kk b o e
    refine ⟨_, rfl, _, rfl, r, u, rfl, RuAt.mono ru k2, fun p1 H3 k3 hp1 => ?_⟩
    refine ⟨_, _, rfl, .inr ⟨_, hp1, rfl⟩, _, _, rfl, rfl, ⟨_, rfl⟩, fun b o e => k3 b o (k2 b o e), ?_⟩
    rw [k3 _ _ upd_same, natsV_succ]
  · obtain ⟨⟨v, rfl⟩, kk, hd⟩ := st
    rw [List.length_map, hlen] at hd
    exact ⟨_, rfl, q D H1 kk hD hd⟩
/-! ### modules -/
theorem prop_modules (T : Tx w K mg) : ∃ fd, FnOk P w K mg base CX0 1 (pgA K "Stack" "modules") fd ["self"] (getSp (ga K "Stack") "names") ∧ Binds K fd ["self"] [] := by
  obtain ⟨oc, od, osl, kV, doc, pm, an, cdv, ct, lk, hcd⟩ := T.d_StMods
  refine ⟨_, fn_getter (N := ["self"]) (CX := CX0) (P := P) (w := w) (mg := mg) (base := base) (k := 0) (C := ga K "Stack") (f := "names") lk hcd sc_StMods rfl rfl T.c_Stack T.n_Stack_names, .all fun us hl => ?_⟩
  match us, hl with
  | [v], _ => rfl
end
end K6
set_option Elab.async false
set_option linter.all false
set_option maxRecDepth 100000
set_option maxHeartbeats 2000000
/-! K68RunD: marked, the class Run -/
namespace K6
open PySem PySem.Spec PyProof.Rows L2
def mkL : K68.Mk → List V
  | .non => [.str "none", .non] | .good => [.str "good", .non] | .bad n => [.str "bad", .int n]
def mkD : K68.Mk → PyData
  | .non => .tuple [.str "none", .none] | .good => .tuple [.str "good", .none] | .bad n => .tuple [.str "bad", .int n]
/-- a mark stands at p -/
def MkAt (K : PySem.W.Frag) (H : Hp) (m : K68.Mk) (p : Addr) : Prop := SqT K H p (mkL m)
theorem MkAt.mono {K : PySem.W.Frag} {H H' : Hp} {m : K68.Mk} {p : Addr} (h : MkAt K H m p) (k : Same H H') : MkAt K H' m p := Same.seqT k h
theorem MkAt.dp {K : PySem.W.Frag} {H : Hp} {m : K68.Mk} {p : Addr} (h : MkAt K H m p) : Dp K H (.ref p) (mkD m) := by
  cases m with
  | non => exact .tup h (.cons (.str _) (.cons .non .nil))
  | good => exact .tup h (.cons (.str _) (.cons .non .nil))
  | bad n => exact .tup h (.cons (.str _) (.cons (.int _) .nil))
theorem mkD_shaped (m : K68.Mk) : SeqAt.shaped (mkD m) = true := by
  cases m <;> first | with_unfolding_all rfl | (simp [mkD, SeqAt.shaped, PyData.canLay0, PyData.depth]; done)
theorem mkD_non (m : K68.Mk) : PyData.eqv (mkD m) (mkD .non) = decide (m = .non) := by cases m <;> rfl
theorem mkD_good (m : K68.Mk) : PyData.eqv (mkD m) (mkD .good) = decide (m = .good) := by cases m <;> rfl
section
variable {P : Program} {w : World} {K : PySem.W.Frag} {mg : Str → Option Value} {base : Heap}
def spMarked (K : PySem.W.Frag) : Sp := fun vs H Q _ => ∃ a m p b n, vs = [acV a, .ref p, .ref b, .int (n : Nat)] ∧ MkAt K H m p ∧ ∀ p' H', Same H H' → MkAt K H' (K68.marked a m n) p' → Q (.ref p') H'
theorem ok_markD (T : Tx w K mg) : Gd P w K mg base CX0 1 "marked" (spMarked K) := by
  refine ⟨T.d_markD.r sc_markD bi_markD (fun vs H Q E h => ?_) (fun cdv A outer s H vs Q E hr h => ?_), T.f_markD, T.d_markD.kp⟩
  · obtain ⟨a, m, p, b, n, rfl, _⟩ := h
    rfl
  obtain ⟨a, m, p, b, n, rfl, hm, q⟩ := h
  refine ⟨_, pss_cons (ps_if (pt_cmpR op_in_seq (pv 0) (pe_tup (pa_cons (ks T.s_OK) (pa_cons (ks T.s_DONE) pa_nil))) (by rfl))
      (pss_one (ps_ret (pe_ifExp (pt_cmpR (op_eqD hr.units) (pv 1) (kr T.g_NONE) (nomark _)) (kr T.g_GOOD) (pv 1)))) pss_nil)
    (pss_cons (ps_if (pt_cmpR op_in_seq (pv 0) (pe_tup (pa_cons (ks T.s_BAD) (pa_cons (ks T.s_DIE) pa_nil))) (by rfl))
      (pss_one (ps_ret (pe_ifExp (pt_cmpR op_eq (pe_ix ix_tup (pv 1) pe_int (fun _ _ => rfl)) (ks T.s_BAD) (nomark _)) (pv 1) (pe_tup (pa_cons (ks T.s_BAD) (pa_cons (pv 3) pa_nil)))))) pss_nil)
    (pss_one (ps_ret (pe_ifExp (pt_cmpR op_eq (pv 0) (ks T.s_RESET) (nomark _)) (pv 2) (pv 1))))), ?_⟩
  refine ⟨_, rfl, by show 2 ≤ sizeLine; decide, fun t ht => ?_⟩
  have k1 := same_upd (o := HO.tup [.str "ok", .str "done"]) ht
  have hm1 := MkAt.mono hm k1
  have hk : (a = .ok ∨ a = .done) ∨ (a = .bad ∨ a = .die) ∨ (a = .ign ∨ a = .jmp) := by cases a <;> simp
  rcases hk with h | h | h
  · have y1 : inV (acV a) [.str "ok", .str "done"] = true := by rcases h with rfl | rfl <;> rfl
    have f1 : flatV (acV a) = true := by rcases h with rfl | rfl <;> rfl
    have qa : ∀ p' H', Same H H' → MkAt K H' (if m = .non then .good else m) p' → Q (.ref p') H' := by rcases h with rfl | rfl <;> exact q
    refine ⟨t, _, rfl, .inr (SqT.of upd_same), f1, rfl, true, congrArg V.bl y1, it rfl ?_⟩
    refine ⟨_, rfl, mkD m, mkD .non, hm1.dp, MkAt.dp (m := .non) (T.tNON _), mkD_shaped _, mkD_shaped _, _, rfl, ?_⟩
    rw [mkD_non]
    by_cases c : m = .non
    · rw [if_pos c] at qa
      exact it (decide_eq_true c) (qa _ _ k1 (T.tGOO _))
    · rw [if_neg c] at qa
      exact if_ (decide_eq_false c) ⟨_, rfl, qa _ _ k1 hm1⟩
  · have n1 : inV (acV a) [.str "ok", .str "done"] = false := by rcases h with rfl | rfl <;> rfl
    have y1 : inV (acV a) [.str "bad", .str "die"] = true := by rcases h with rfl | rfl <;> rfl
    have f1 : flatV (acV a) = true := by rcases h with rfl | rfl <;> rfl
    have qa : ∀ p' H', Same H H' → MkAt K H' (match m with | .bad k => .bad k | _ => .bad n) p' → Q (.ref p') H' := by rcases h with rfl | rfl <;> exact q
    refine ⟨t, _, rfl, .inr (SqT.of upd_same), f1, rfl, false, congrArg V.bl n1, if_ rfl ?_⟩
    refine ⟨_, rfl, by show 2 ≤ sizeLine; decide, fun t2 ht2 => ?_⟩
    have k2 := same_upd (o := HO.tup [.str "bad", .str "die"]) ht2
    have hm2 := MkAt.mono hm1 k2
    have kk : Same H _ := fun b o e => k2 b o (k1 b o e)
    refine ⟨t2, _, rfl, .inr (SqT.of upd_same), f1, rfl, true, congrArg V.bl y1, it rfl ?_⟩
    cases m with
    | bad k => exact ⟨_, rfl, p, _, _, .str "bad", rfl, rfl, hm2, rfl, rfl, true, rfl, it rfl ⟨_, rfl, qa p _ kk hm2⟩⟩
    | non => exact ⟨_, rfl, p, _, _, .str "none", rfl, rfl, hm2, rfl, rfl, false, rfl, if_ rfl ⟨_, rfl, by show 2 ≤ sizeLine; decide, fun t3 ht3 => qa t3 _ (fun b o e => same_upd ht3 b o (kk b o e)) (SqT.of upd_same)⟩⟩
    | good => exact ⟨_, rfl, p, _, _, .str "good", rfl, rfl, hm2, rfl, rfl, false, rfl, if_ rfl ⟨_, rfl, by show 2 ≤ sizeLine; decide, fun t3 ht3 => qa t3 _ (fun b o e => same_upd ht3 b o (kk b o e)) (SqT.of upd_same)⟩⟩
  · have n1 : inV (acV a) [.str "ok", .str "done"] = false := by rcases h with rfl | rfl <;> rfl
    have y1 : inV (acV a) [.str "bad", .str "die"] = false := by rcases h with rfl | rfl <;> rfl
    have f1 : flatV (acV a) = true := by rcases h with rfl | rfl <;> rfl
    have qa : ∀ p' H', Same H H' → MkAt K H' m p' → Q (.ref p') H' := by rcases h with rfl | rfl <;> exact q
    refine ⟨t, _, rfl, .inr (SqT.of upd_same), f1, rfl, false, congrArg V.bl n1, if_ rfl ?_⟩
    refine ⟨_, rfl, by show 2 ≤ sizeLine; decide, fun t2 ht2 => ?_⟩
    have k2 := same_upd (o := HO.tup [.str "bad", .str "die"]) ht2
    have hm2 := MkAt.mono hm1 k2
    have kk : Same H _ := fun b o e => k2 b o (k1 b o e)
    refine ⟨t2, _, rfl, .inr (SqT.of upd_same), f1, rfl, false, congrArg V.bl y1, if_ rfl ?_⟩
    have n3 : decide (acV a = V.str "reset") = false := by cases a <;> decide
    have s3 : scal (acV a) (.str "reset") = true := by cases a <;> rfl
    exact ⟨_, rfl, s3, _, rfl, if_ n3 ⟨_, rfl, qa p _ kk hm2⟩⟩
end
end K6
set_option Elab.async false
set_option linter.all false
set_option maxRecDepth 100000
set_option maxHeartbeats 2000000
/-! K68RunE: Run.ended, Run.__init__, outcome -/
namespace K6
open PySem PySem.Spec PyProof.Rows L2
/-! ### what is never written -/
def hid (S : List Addr) (H : Hp) : Hp := fun b => if b ∈ S then none else H b
theorem hid_in {S : List Addr} {H : Hp} {b : Addr} (h : b ∈ S) : hid S H b = none := if_pos h
theorem hid_out {S : List Addr} {H : Hp} {b : Addr} (h : b ∉ S) : hid S H b = H b := if_neg h
theorem hid_same {S : List Addr} {H : Hp} : Same (hid S H) H := fun b o e => by
  by_cases h : b ∈ S
  · rw [hid_in h] at e; cases e
  · rw [hid_out h] at e; exact e
theorem Keep.hid {S : List Addr} {H H' : Hp} (k : Keep S H H') : Same (hid S H) H' := Keep.of k hid_same fun b hb => hid_in hb
structure NotT (o : HO) : Prop where
  tup : ∀ xs, o ≠ .tup xs
  frz : ∀ ob xs, o ≠ .frz ob (.tup xs)
  ru : ∀ C dx v r, o ≠ .ins C dx (("asks", v) :: r)
  st : ∀ C dx v r, o ≠ .ins C dx (("parts", v) :: r)
def Off (S : List Addr) (H : Hp) : Prop := ∀ b ∈ S, ∀ o, H b = some o → NotT o
theorem notT_lst (xs : List V) : NotT (.lst xs) := ⟨(fun _ z => nomatch z), (fun _ _ z => nomatch z), (fun _ _ _ _ z => nomatch z), (fun _ _ _ _ z => nomatch z)⟩
theorem notT_dK (kvs : List (Key × V)) : NotT (.dK kvs) := ⟨(fun _ z => nomatch z), (fun _ _ z => nomatch z), (fun _ _ _ _ z => nomatch z), (fun _ _ _ _ z => nomatch z)⟩
theorem notT_ins {C dx : Addr} {f : Str} {v : V} {r : List (Str × V)} (h1 : f ≠ "asks") (h2 : f ≠ "parts") : NotT (.ins C dx ((f, v) :: r)) := by
  refine ⟨(fun _ z => nomatch z), (fun _ _ z => nomatch z), fun _ _ _ _ z => ?_, fun _ _ _ _ z => ?_⟩
  · injection z with _ _ z
    injection z with z _
    injection z with z _
    exact h1 z
  · injection z with _ _ z
    injection z with z _
    injection z with z _
    exact h2 z
theorem off1 {H : Hp} {l : Addr} {o : HO} (h : H l = some o) (n : NotT o) : Off [l] H := fun b hb u e => by
  rw [List.mem_singleton.mp hb, h] at e
  cases e
  exact n
theorem Off.app {S S' : List Addr} {H : Hp} (a : Off S H) (b : Off S' H) : Off (S ++ S') H := fun c hc => (List.mem_append.mp hc).elim (a c) (b c)
section
variable {K : PySem.W.Frag} {S : List Addr} {H : Hp}
theorem SqT.hid {b : Addr} {xs : List V} (h : SqT K H b xs) (n : Off S H) : SqT K (K6.hid S H) b xs := by
  rcases h with (z | ⟨u, z⟩) | z
  · refine .inl (.inl ?_)
    rw [hid_out fun hb => (n b hb _ z).tup _ rfl]
    exact z
  · refine .inl (.inr ⟨u, ?_⟩)
    rw [hid_out fun hb => (n b hb _ z).frz _ _ rfl]
    exact z
  · exact .inr z
theorem RuAt.hid {r : Addr} {u : K68.Ru} (h : RuAt K H r u) (n : Off S H) : RuAt K (K6.hid S H) r u := by
  obtain ⟨dx, b, h1, h2⟩ := h
  refine ⟨dx, b, ?_, SqT.hid h2 n⟩
  rw [hid_out fun hb => (n r hb _ h1).ru _ _ _ _ rfl]
  exact h1
theorem StAt.hid {s : Addr} {rs : List K68.Ru} (h : StAt K H s rs) (n : Off S H) : StAt K (K6.hid S H) s rs := by
  obtain ⟨dx, p, q, m, es, ss, h1, h2, h3, h4, h5, h6, h7⟩ := h
  refine ⟨dx, p, q, m, es, ss, ?_, SqT.hid h2 n, SqT.hid h3 n, SqT.hid h4 n, h5, Paired.mapP h6 fun _ _ r => RuAt.hid r n, h7⟩
  rw [hid_out fun hb => (n s hb _ h1).st _ _ _ _ rfl]
  exact h1
theorem SqT.keepS {H' : Hp} {b : Addr} {xs : List V} (h : SqT K H b xs) (n : Off S H) (k : Keep S H H') : SqT K H' b xs := Same.seqT k.hid (SqT.hid h n)
theorem StAt.keepS {H' : Hp} {s : Addr} {rs : List K68.Ru} (h : StAt K H s rs) (n : Off S H) (k : Keep S H H') : StAt K H' s rs := (StAt.hid h n).mono k.hid
end
def natV (as : List Nat) : List V := as.map fun (i : Nat) => V.int (i : Int)
/-- the dict of results -/
def ResD (kvs : List (Key × V)) (rs : List K68.Ru) (tl : K68.Md → K68.Rs) : Prop := ∀ u ∈ rs, valV kvs (.inr (mdS u.1)) = some (.str (rsS (tl u.1)))
section
variable {P : Program} {w : World} {K : PySem.W.Frag} {mg : Str → Option Value} {base : Heap}
def spEnded (K : PySem.W.Frag) : Sp := fun vs H Q _ => ∃ x dx s d l p0 kvs rs tl, vs = [.ref x, .ref s, .int 0, .ref p0] ∧ H x = some (.ins (ga K "Run") dx [("told", .ref d), ("asked_rules", .ref l)]) ∧ H d = some (.dK kvs) ∧ H l = some (.lst []) ∧ StAt K H s rs ∧ ResD kvs rs tl ∧
  MkAt K H .non p0 ∧ ∀ p' H', Keep [l] H H' → H' l = some (.lst (natV (K68.runI rs tl 0 .non []).2)) → MkAt K H' (K68.runI rs tl 0 .non []).1 p' → Q (.ref p') H'
/-- at the head of the while -/
structure EnI (K : PySem.W.Frag) (H0 : Hp) (x s l p0 f : Addr) (rs : List K68.Ru) (tl : K68.Md → K68.Rs) (i : Nat) (m : K68.Mk) (as : List Nat) (σ : L2.St) (H : Hp) : Prop where
  sl : ∃ pm a b c, σ = [some (.ref x), some (.ref s), some (.int 0), some (.ref pm), some (.ref p0), some (.int (i : Nat)), some (.ref f), a, b, c] ∧ MkAt K H m pm
  kp : Keep [l] H0 H
  at_ : H l = some (.lst (natV as))
  fi : H f = some (.lst (natsV rs.length))
  le : i ≤ rs.length + 1
  al : as.length ≤ i
  go : K68.runI rs tl i m as = K68.runI rs tl 0 .non []
theorem acV_scal (a : K68.Ac) (z : Str) : scal (acV a) (.str z) = true := by cases a <;> rfl
theorem acV_die (a : K68.Ac) : decide (acV a = V.str "die") = decide (a = .die) := by cases a <;> decide
theorem acV_done (a : K68.Ac) : decide (acV a = V.str "done") = decide (a = .done) := by cases a <;> decide
theorem ok_RunEnd (T : Tx w K mg) : Mt P w K mg base CX0 3 "Run" "ended" (spEnded K) := by
  refine ⟨T.d_RunEnd.r sc_RunEnd bi_RunEnd (fun vs H Q E h => ?_) (fun cdv A outer s0 H vs Q E hr h => ?_), T.m_Run_ended, T.c_Run⟩
  · obtain ⟨x, dx, s, d, l, p0, kvs, rs, tl, rfl, _⟩ := h
    rfl
  obtain ⟨x, dx, s, d, l, p0, kvs, rs, tl, rfl, hx, hd, hl, hs, hres, hm, q⟩ := h
  refine ⟨_, pss_cons (ps_par (i := 4) (j := 5) rfl sc_RunEnd.nd rfl rfl (by decide) rfl rfl (pa_cons (pv 3) (pa_cons pe_int pa_nil)) (by rfl))
    (pss_cons (ps_set (i := 6) sc_RunEnd.nd rfl (.inl rfl) (gd (ok_firstsOf T) hr (by decide) pass0 (pa_cons (pv 1) (pa_cons (pv 2) pa_nil))))
    (pss_cons (ps_while PassesOwn.leaving (pt_cmpR op_lt (pv 5) (pe_callB call_len (by rfl) T.b_len (by decide +kernel) (pa_cons (pe_fld (pv 1) rfl) pa_nil)) (nomark _))
      (pss_cons (ps_par (i := 7) (j := 8) rfl sc_RunEnd.nd rfl rfl (by decide) rfl rfl (pa_cons (pe_ix ix_tup (pe_fld (pv 1) rfl) (pv 5) (fun _ _ => rfl)) (pa_cons (pe_ix ix_list (pv 6) (pv 5) (fun _ _ => rfl)) pa_nil)) (by rfl))
      (pss_cons (ps_aug (i := 5) sc_RunEnd.nd rfl (.inl rfl) pe_int ip_add)
      (pss_cons (ps_if (pt_val (pe_callB call_isi (by rfl) T.b_isinstance (by decide +kernel) (pa_cons (pv 7) (pa_cons (kr T.g_Stack) pa_nil)))) pss_never pss_nil)
      (pss_cons (ps_expr (pe_bm PySem.F.plainAttrs_list PySem.F.slot_list_append PySem.F.type_list_append mt_append (pe_fld (pv 0) rfl) (pa_cons (pv 8) pa_nil)))
      (pss_cons (ps_set (i := 9) sc_RunEnd.nd rfl (.inl rfl) (md (ok_ActFor T) hr (by decide) pa0 (pv 7) (pa_cons (pe_dget (hu_of hr) (pe_fld (pv 0) rfl) (pe_fld (pv 7) rfl) (fun _ _ => rfl)) pa_nil)))
      (pss_cons (ps_set (i := 3) sc_RunEnd.nd rfl (.inl rfl) (gd (ok_markD T) hr (by decide) pass0 (pa_cons (pv 9) (pa_cons (pv 3) (pa_cons (pv 4) (pa_cons (pv 8) pa_nil))))))
      (pss_cons (ps_if (PW.pt (pw_or (pt_cmpR op_eq (pv 9) (ks T.s_DIE) (nomark _)) (pw_or1 (PW.pt (pw_and (pt_cmpR op_eq (pv 9) (ks T.s_DONE) (nomark _)) (pw_and1 (pt_cmpR (op_eqD hr.units) (pv 3) (kr T.g_GOOD) (nomark _))))))))
        (pss_one (ps_ret (pv 3))) pss_nil)
      (pss_one (ps_if (pt_val (pe_callB call_isi (by rfl) T.b_isinstance (by decide +kernel) (pa_cons (pv 9) (pa_cons (kt (n := "int") T.b_int (by decide +kernel)) pa_nil)))) (pss_one (ps_aug (i := 5) sc_RunEnd.nd rfl (.inl rfl) (pv 9) ip_add)) pss_nil))))))))))
    (pss_one (ps_ret (pv 3))))), ?_⟩
  have noff : Off [l] H := off1 hl (notT_lst _)
  have nex : ∀ {b : Addr} {o : HO}, H b = some o → (∀ xs, o ≠ .lst xs) → b ∉ [l] := fun {b o} e n z => by
    rw [List.mem_singleton.mp z, hl] at e
    exact n _ (Option.some.inj e).symm
  have hs' := hs
  obtain ⟨ds, p, q0, n, es, ss, h1, h2, h3, h4, h5, h6, h7⟩ := hs
  have hlen := Paired.length h6
  refine ⟨_, rfl, _, _, rfl, ?_⟩
  refine ⟨_, rfl, _, rfl, s, rs, rfl, hs', fun f H1 k1 hf1 hf => ?_⟩
  have nfl : f ∉ [l] := fun z => by
    rw [List.mem_singleton.mp z, hl] at hf1
    cases hf1
  refine ⟨fun m σ H' => ∃ i mk as, m = rs.length + 2 - i ∧ EnI K H x s l p0 f rs tl i mk as σ H', ⟨rs.length + 2 - 0, 0, .non, [], rfl, ⟨p0, _, _, _, rfl, MkAt.mono hm k1⟩, Same.keep k1, k1 _ _ hl, hf, Nat.zero_le _, Nat.le_refl _, rfl⟩, ?_⟩
  rintro m σ1 H2 ⟨i, mk, as, rfl, ⟨pm, a, b, c, rfl, hpm⟩, kp, hat, hfi, hle, hal, hgo⟩
  have h1' := kp _ _ h1 (nex h1 fun _ z => nomatch z)
  have h2' := SqT.keepS h2 noff kp
  refine ⟨_, rfl, _, rfl, s, _, ds, _, _, rfl, h1', T.c_Stack, T.n_Stack_parts, rfl, _, _, rfl, .inr ⟨_, h2', rfl⟩, _, _, rfl, rfl, _, rfl, ?_⟩
  rw [List.length_map, hlen]
  by_cases hi : i < rs.length
  case neg =>
    refine if_ (decide_eq_false (by omega)) ?_
    rw [K68.runI_end hi] at hgo
    rw [← hgo] at q
    exact ⟨_, rfl, q pm H2 kp hat hpm⟩
  refine it (decide_eq_true (by omega)) ?_
  obtain ⟨u, hu⟩ : ∃ u, rs[i]? = some u := ⟨_, List.getElem?_eq_getElem hi⟩
  obtain ⟨r, hr0, ru⟩ := paired_getR h6 hu
  have ru2 : RuAt K H2 r u := RuAt.mono (RuAt.hid ru noff) kp.hid
  refine ⟨fun σ' H' => ∃ m', m' < rs.length + 2 - i ∧ ∃ i' mk' as', m' = rs.length + 2 - i' ∧ EnI K H x s l p0 f rs tl i' mk' as' σ' H', fun _ _ z => z, ?_⟩
  -- entry, number
  refine ⟨_, rfl, s, _, ds, _, _, rfl, h1', T.c_Stack, T.n_Stack_parts, rfl, _, rfl, p, _, _, .ref r, rfl, rfl, h2', atI_nat (by rw [List.getElem?_map, hr0]; rfl), ?_⟩
  refine ⟨_, rfl, _, rfl, f, _, _, .int (i : Nat), rfl, rfl, SqL.of hfi, atI_nat ?_, _, _, rfl, ?_⟩
  · unfold natsV
    rw [List.getElem?_map, List.getElem?_range hi]
    rfl
  refine ⟨_, rfl, _, _, rfl, rfl, ?_⟩
  refine ⟨_, rfl, _, _, _, _, false, rfl, .own _, tyRule T ru2, T.iNot, false, rfl, if_ rfl ?_⟩
  -- asked_rules.append
  have hx' := kp _ _ hx (nex hx fun _ z => nomatch z)
  have hd' := kp _ _ hd (nex hd fun _ z => nomatch z)
  refine ⟨_, rfl, x, _, dx, _, _, rfl, hx', T.c_Run, T.n_Run_asked_rules, rfl, .inl ⟨rfl, _, SqL.of hat⟩, _, rfl, l, _, _, rfl, rfl, hat, ?_, ?_⟩
  · unfold natV
    rw [List.length_map]
    exact Nat.lt_of_le_of_lt (Nat.le_trans hal (Nat.le_trans (Nat.le_of_lt hi) h7)) (by decide)
  have kp3 : Keep [l] H (upd H2 l (.lst (natV as ++ [.int (i : Nat)]))) := kp.trans (keep_upd (List.mem_singleton.mpr rfl))
  have e3 : natV as ++ [V.int (i : Nat)] = natV (as ++ [i]) := by
    unfold natV
    rw [List.map_append]
    rfl
  rw [e3] at kp3 ⊢
  have hat3 : upd H2 l (.lst (natV (as ++ [i]))) l = some (.lst (natV (as ++ [i]))) := upd_same
  have hfi3 : upd H2 l (.lst (natV (as ++ [i]))) f = some (.lst (natsV rs.length)) := by
    rw [upd_ne fun z => nfl (List.mem_singleton.mpr z)]
    exact hfi
  have hpm3 : MkAt K (upd H2 l (.lst (natV (as ++ [i])))) mk pm := SqT.keepS hpm (off1 hat (notT_lst _)) (keep_upd (List.mem_singleton.mpr rfl))
  have ru3 : RuAt K (upd H2 l (.lst (natV (as ++ [i])))) r u := RuAt.mono (RuAt.hid ru noff) kp3.hid
  have hx3 := kp3 _ _ hx (nex hx fun _ z => nomatch z)
  have hd3 := kp3 _ _ hd (nex hd fun _ z => nomatch z)
  -- action
  have ⟨dr, br, zr, _⟩ := ru3
  have hv := hres u (List.mem_of_getElem? hu)
  refine ⟨_, rfl, r, dr, _, rfl, zr, rfl, ?_⟩
  refine ⟨_, rfl, x, _, dx, _, _, rfl, hx3, T.c_Run, T.n_Run_told, rfl, ?_⟩
  refine ⟨_, rfl, r, _, dr, _, _, rfl, zr, T.c_Rule, T.n_Rule_asks, rfl, d, _, rfl, hv ▸ DGet.k (k := .inr (mdS u.1)) hd3, ?_⟩
  refine ⟨r, u, tl u.1, rfl, ru3, ?_⟩
  -- mark
  refine ⟨_, rfl, _, rfl, _, rfl, _, rfl, u.2.act (tl u.1), mk, pm, p0, i, rfl, hpm3, fun pm' H4 k4 hpm4 => ?_⟩
  have kp4 : Keep [l] H H4 := kp3.trans (Same.keep k4)
  have hat4 := k4 _ _ hat3
  have hfi4 := k4 _ _ hfi3
  have stop : (u.2.act (tl u.1)).ends (K68.marked (u.2.act (tl u.1)) mk i) = true → Q (.ref pm') H4 := fun h => by
    have e := K68.runI_stop hu h (as := as)
    rw [hgo] at e
    exact q pm' H4 kp4 (by rw [e]; exact hat4) (by rw [e]; exact hpm4)
  have go : (u.2.act (tl u.1)).ends (K68.marked (u.2.act (tl u.1)) mk i) = false → ∀ (z : Int) (a b c : Option V), z = ((i + 1 + (u.2.act (tl u.1)).skips : Nat) : Int) →
      (∃ m', m' < rs.length + 2 - i ∧ ∃ i' mk' as', m' = rs.length + 2 - i' ∧ EnI K H x s l p0 f rs tl i' mk' as' [some (.ref x), some (.ref s), some (.int 0), some (.ref pm'), some (.ref p0), some (.int z), some (.ref f), a, b, c] H4) := fun h z a b c ez => by
    have e := K68.runI_go hu h (as := as)
    subst ez
    have hsk : (u.2.act (tl u.1)).skips ≤ 1 := by cases u.2.act (tl u.1) <;> decide
    refine ⟨_, ?_, i + 1 + (u.2.act (tl u.1)).skips, _, as ++ [i], rfl, ⟨pm', a, b, c, rfl, hpm4⟩, kp4, hat4, hfi4, by omega, by rw [List.length_append, List.length_singleton]; omega, by rw [← e]; exact hgo⟩
    omega
  -- the test
  refine ⟨_, rfl, acV_scal _ _, _, rfl, ?_⟩
  rw [acV_die]
  by_cases c1 : u.2.act (tl u.1) = .die
  · refine it (decide_eq_true c1) (it rfl ⟨_, rfl, stop (by unfold K68.Ac.ends; rw [decide_eq_true c1]; rfl)⟩)
  refine if_ (decide_eq_false c1) ⟨_, rfl, acV_scal _ _, _, rfl, ?_⟩
  rw [acV_done]
  by_cases c2 : u.2.act (tl u.1) = .done
  · refine it (decide_eq_true c2) ⟨_, rfl, _, _, hpm4.dp, MkAt.dp (m := .good) (T.tGOO _), mkD_shaped _, mkD_shaped _, _, rfl, ?_⟩
    rw [mkD_good]
    by_cases c3 : K68.marked (u.2.act (tl u.1)) mk i = .good
    · refine it (decide_eq_true c3) ?_
      exact ⟨_, rfl, stop (by unfold K68.Ac.ends; rw [decide_eq_true c2, decide_eq_true c3]; exact Bool.or_true _)⟩
    refine if_ (decide_eq_false c3) ?_
    have hend : (u.2.act (tl u.1)).ends (K68.marked (u.2.act (tl u.1)) mk i) = false := by
      unfold K68.Ac.ends
      rw [decide_eq_false c1, decide_eq_false c3, Bool.and_false]
      rfl
    by_cases cj : u.2.act (tl u.1) = .jmp
    · have eV : acV (u.2.act (tl u.1)) = .int 1 := by rw [cj]; rfl
      have tyj : TyX K H4 (acV (u.2.act (tl u.1))) (.type "int") := by rw [eV]; exact .base (.int 1)
      refine ⟨_, rfl, _, _, _, _, true, rfl, .ty _, tyj, kit_ty (by decide +kernel), true, rfl, it rfl ⟨_, rfl, _, rfl, _, 1, rfl, eV, go hend _ _ _ _ ?_⟩⟩
      rw [cj]
      rfl
    · have tys : TyX K H4 (acV (u.2.act (tl u.1))) (.type "str") := by
        cases hq : u.2.act (tl u.1) with
        | jmp => exact absurd hq cj
        | _ => exact .base (.str _)
      refine ⟨_, rfl, _, _, _, _, false, rfl, .ty _, tys, kit_ty (by decide +kernel), false, rfl, if_ rfl (go hend _ _ _ _ ?_)⟩
      have hz : (u.2.act (tl u.1)).skips = 0 := by
        cases hq : u.2.act (tl u.1) with
        | jmp => exact absurd hq cj
        | _ => rfl
      rw [hz]
      rfl
  · refine if_ (decide_eq_false c2) (if_ rfl ?_)
    have hend : (u.2.act (tl u.1)).ends (K68.marked (u.2.act (tl u.1)) mk i) = false := by
      unfold K68.Ac.ends
      rw [decide_eq_false c1, decide_eq_false c2]
      rfl
    by_cases cj : u.2.act (tl u.1) = .jmp
    · have eV : acV (u.2.act (tl u.1)) = .int 1 := by rw [cj]; rfl
      have tyj : TyX K H4 (acV (u.2.act (tl u.1))) (.type "int") := by rw [eV]; exact .base (.int 1)
      refine ⟨_, rfl, _, _, _, _, true, rfl, .ty _, tyj, kit_ty (by decide +kernel), true, rfl, it rfl ⟨_, rfl, _, rfl, _, 1, rfl, eV, go hend _ _ _ _ ?_⟩⟩
      rw [cj]
      rfl
    · have tys : TyX K H4 (acV (u.2.act (tl u.1))) (.type "str") := by
        cases hq : u.2.act (tl u.1) with
        | jmp => exact absurd hq cj
        | _ => exact .base (.str _)
      refine ⟨_, rfl, _, _, _, _, false, rfl, .ty _, tys, kit_ty (by decide +kernel), false, rfl, if_ rfl (go hend _ _ _ _ ?_)⟩
      have hz : (u.2.act (tl u.1)).skips = 0 := by
        cases hq : u.2.act (tl u.1) with
        | jmp => exact absurd hq cj
        | _ => rfl
      rw [hz]
      rfl
end
end K6
set_option Elab.async false
set_option linter.all false
set_option maxRecDepth 100000
set_option maxHeartbeats 2000000
/-! K68Mach: Run.__init__, outcome; Machine.__init__, step, run -/
namespace K6
open PySem PySem.Spec PyProof.Rows L2
theorem Keep.fresh {S S' : List Addr} {H H1 H2 : Hp} (k1 : Keep S H H1) (k2 : Keep S' H1 H2) (h : ∀ b ∈ S', b ∈ S ∨ H b = none) : Keep S H H2 := fun b o e n => k2 b o (k1 b o e n) fun hb => (h b hb).elim n fun z => by rw [z] at e; cases e
section
variable {P : Program} {w : World} {K : PySem.W.Frag} {mg : Str → Option Value} {base : Heap}
/-- what a run left -/
structure RunAt (K : PySem.W.Frag) (H : Hp) (r : Addr) (res : K68.Mk × List Nat) : Prop where
  ex : ∃ dx d l p, H r = some (.ins (ga K "Run") dx [("told", .ref d), ("asked_rules", .ref l), ("mark", .ref p)]) ∧ H l = some (.lst (natV res.2)) ∧ MkAt K H res.1 p
def spRunInit (K : PySem.W.Frag) : Sp := fun vs H Q _ => ∃ x dx s d kvs rs tl, vs = [.ref x, .ref s, .ref d] ∧ H x = some (.ins (ga K "Run") dx []) ∧ H d = some (.dK kvs) ∧ StAt K H s rs ∧ ResD kvs rs tl ∧
  ∀ H', Keep [x] H H' → RunAt K H' x (K68.runI rs tl 0 .non []) → Q .non H'
theorem ok_RunInit (T : Tx w K mg) : Ck P w K mg base CX0 4 "Run" (spRunInit K) := by
  refine ⟨T.d_RunInit.r sc_RunInit bi_RunInit (fun vs H Q E h => ?_) (fun cdv A outer s0 H vs Q E hr h => ?_), T.k_Run, T.g_Run⟩
  · obtain ⟨x, dx, s, d, kvs, rs, tl, rfl, _⟩ := h
    rfl
  obtain ⟨x, dx, s, d, kvs, rs, tl, rfl, hx, hd, hs, hres, q⟩ := h
  refine ⟨_, pss_cons (ps_fld (pv 0) (pv 2) rfl) (pss_cons (ps_fld (pv 0) (pe_lst pa_nil) rfl) (pss_one (ps_fld (pv 0) (md (ok_RunEnd T) hr (by decide) pa0 (pv 0) (pa_cons (pv 1) (pa_cons pe_int (pa_cons (kr T.g_NONE) pa_nil)))) rfl))), ?_⟩
  have mx : x ∈ [x] := List.mem_singleton.mpr rfl
  have nx : NotT (HO.ins (ga K "Run") dx []) := ⟨(fun _ z => nomatch z), (fun _ _ z => nomatch z), (fun _ _ _ _ z => nomatch z), (fun _ _ _ _ z => nomatch z)⟩
  have hne : ∀ {b : Addr} {o : HO}, H b = some o → (∀ C dx fs, o ≠ .ins C dx fs) → b ∉ [x] := fun {b o} e n z => by
    rw [List.mem_singleton.mp z, hx] at e
    exact n _ _ _ (Option.some.inj e).symm
  refine ⟨_, rfl, _, rfl, x, _, dx, _, rfl, hx, T.c_Run, T.n_Run_told, by decide, ?_⟩
  obtain ⟨k1, x1, _⟩ := put_step (K := K) (fs' := putF "told" (.ref d) []) (Keep.refl (S := [x]) H) (Keep.refl0 H) hx
  refine ⟨Nat.zero_le _, fun l hl => ⟨_, rfl, x, _, dx, _, rfl, same_upd hl _ _ x1, T.c_Run, T.n_Run_asked_rules, by show 1 < 1000; decide, ?_⟩⟩
  obtain ⟨k2, x2, _⟩ := put_step (K := K) (fs' := putF "asked_rules" (.ref l) (putF "told" (.ref d) [])) k1 (same_upd (o := HO.lst []) hl) (same_upd hl _ _ x1)
  have hl0 : H l = none := by
    cases e : H l with
    | none => rfl
    | some o =>
      by_cases z : l = x
      · rw [z, x1] at hl; cases hl
      · rw [upd_ne z, e] at hl; cases hl
  have hlx : l ≠ x := fun z => by rw [z, hx] at hl0; cases hl0
  have hl2 : upd (upd (upd H x (HO.ins (ga K "Run") dx (putF "told" (.ref d) []))) l (.lst [])) x (HO.ins (ga K "Run") dx (putF "asked_rules" (.ref l) (putF "told" (.ref d) []))) l = some (.lst []) := by
    rw [upd_ne hlx, upd_same]
  have hs2 := StAt.keepS hs (off1 hx nx) k2
  refine ⟨_, rfl, x, dx, _, rfl, x2, rfl, _, rfl, x, dx, s, d, l, ga K "NONE", kvs, rs, tl, rfl, x2, k2 _ _ hd (hne hd fun _ _ _ z => nomatch z), hl2, hs2, hres, T.tNON _, fun p' H3 k3 hl3 hp3 => ?_⟩
  have x3 := k3 _ _ x2 fun z => hlx (List.mem_singleton.mp z).symm
  refine ⟨_, rfl, x, _, dx, _, rfl, x3, T.c_Run, T.n_Run_mark, by show 2 < 1000; decide, ?_⟩
  obtain ⟨k4, x4, t4⟩ := put_step (K := K) (fs' := putF "mark" (.ref p') (putF "asked_rules" (.ref l) (putF "told" (.ref d) []))) (Keep.refl (S := [x]) H3) (Keep.refl0 H3) x3
  refine q _ ((Keep.fresh k2 k3 fun b hb => .inr (by rw [List.mem_singleton.mp hb]; exact hl0)).trans k4) ⟨dx, d, l, p', x4, ?_, t4 _ _ hp3⟩
  rw [upd_ne hlx]
  exact hl3
def spOut (K : PySem.W.Frag) : Sp := fun vs H Q _ => ∃ x res, vs = [.ref x] ∧ RunAt K H x res ∧ Q (.str (if res.1 = .good then "in" else "out")) H
theorem ok_RunOut (T : Tx w K mg) : Mt P w K mg base CX0 1 "Run" "outcome" (spOut K) := by
  refine ⟨T.d_RunOut.r sc_RunOut bi_RunOut (fun vs H Q E h => ?_) (fun cdv A outer s0 H vs Q E hr h => ?_), T.m_Run_outcome, T.c_Run⟩
  · obtain ⟨x, res, rfl, _⟩ := h
    rfl
  obtain ⟨x, res, rfl, ⟨dx, d, l, p, hx, hl, hp⟩, q⟩ := h
  refine ⟨_, pss_one (ps_ret (pe_ifExp (pt_cmpR (op_eqD hr.units) (pe_fld (pv 0) rfl) (kr T.g_GOOD) (nomark _)) (ks T.s_IN) (ks T.s_OUT))), ?_⟩
  refine ⟨_, rfl, x, _, dx, _, _, rfl, hx, T.c_Run, T.n_Run_mark, rfl, _, _, hp.dp, MkAt.dp (m := .good) (T.tGOO _), mkD_shaped _, mkD_shaped _, _, rfl, ?_⟩
  rw [mkD_good]
  by_cases c : res.1 = .good
  · rw [if_pos c] at q
    exact it (decide_eq_true c) q
  · rw [if_neg c] at q
    exact if_ (decide_eq_false c) q
/-! ### Machine -/
def numS (as : List Nat) : Str := if as = [] then "-" else Txt.join " " (as.map fun (i : Nat) => toString (i : Int))
def outV1 : K68.OutLn → V
  | .inn => .str "in" | .out => .str "out" | .asked as => .str (numS as)
/-- a machine at x: its dict at d, its output at o -/
def MaAt (K : PySem.W.Frag) (H : Hp) (x d o : Addr) (c : K68.Co) (n : Nat) : Prop := ∃ dx s kvs, H x = some (.ins (ga K "Machine") dx [("present", .ref s), ("told", .ref d), ("output", .ref o), ("step_count", .int (n : Nat))]) ∧
  H d = some (.dK kvs) ∧ H o = some (.lst (c.out.map outV1)) ∧ StAt K H s c.rs ∧ (∀ m, valV kvs (.inr (mdS m)) = (c.told m).map fun r => V.str (rsS r)) ∧ kvs.length ≤ n ∧ c.out.length ≤ n
theorem MaAt.mono {H H' : Hp} {x d o : Addr} {c : K68.Co} {n : Nat} (h : MaAt K H x d o c n) (k : Same H H') : MaAt K H' x d o c n := by
  obtain ⟨dx, s, kvs, h1, h2, h3, h4, h5⟩ := h
  exact ⟨dx, s, kvs, k _ _ h1, k _ _ h2, k _ _ h3, StAt.mono h4 k, h5⟩
theorem MaAt.off {H : Hp} {x d o : Addr} {c : K68.Co} {n : Nat} (h : MaAt K H x d o c n) : Off [x, d, o] H := by
  obtain ⟨dx, s, kvs, h1, h2, h3, h4, h5⟩ := h
  intro b hb u e
  rcases List.mem_cons.mp hb with rfl | hb
  · rw [h1] at e
    cases e
    exact notT_ins (by decide) (by decide)
  rcases List.mem_cons.mp hb with rfl | hb
  · rw [h2] at e
    cases e
    exact notT_dK _
  · rw [List.mem_singleton.mp hb, h3] at e
    cases e
    exact notT_lst _
def spMaInit (K : PySem.W.Frag) : Sp := fun vs H Q _ => ∃ x dx, vs = [.ref x] ∧ H x = some (.ins (ga K "Machine") dx []) ∧ ∀ H' d o, Keep [x] H H' → MaAt K H' x d o K68.co0 0 → H d = none → H o = none → Q .non H'
theorem make_stackQ {H : Hp} {x dx : Addr} {es : List Addr} {rs : List K68.Ru} {Q : VK} {E : XK} (hx : H x = none) (hdx : H dx = none) (hes : Paired (RuAt K H) es rs) (hl : rs.length ≤ 13)
    (q1 : rs.length ≤ 12 → ∀ H', Same H H' → StAt K H' x rs → Q .non H') (q2 : 12 < rs.length → ∀ d H', Same H H' → E (.ref (ga K "InvalidStack")) (some d) H') :
    spSt K (V.ref x :: es.map V.ref) (upd (upd H dx (.own x)) x (.ins (ga K "Stack") dx [])) Q E :=
  ⟨x, dx, es, rs, rfl, upd_same, rules_mono hes (same_make hx hdx), hl, fun z H' k st => q1 z H' (Keep.single k (same_make hx hdx) hx) st, fun z d H' k => q2 z d H' (Keep.single k (same_make hx hdx) hx)⟩
theorem ok_MaInit (T : Tx w K mg) : Ck P w K mg base CX0 6 "Machine" (spMaInit K) := by
  refine ⟨T.d_MaInit.r sc_MaInit bi_MaInit (fun vs H Q E h => ?_) (fun cdv A outer s0 H vs Q E hr h => ?_), T.k_Machine, T.g_Machine⟩
  · obtain ⟨x, dx, rfl, _⟩ := h
    rfl
  obtain ⟨x, dx, rfl, hx, q⟩ := h
  refine ⟨_, pss_cons (ps_fld (pv 0) (ck0 (ok_StInit T) hr (by decide) paN) rfl) (pss_cons (ps_fld (pv 0) pe_dnewK rfl) (pss_cons (ps_fld (pv 0) (pe_lst pa_nil) rfl) (pss_one (ps_fld (pv 0) pe_int rfl)))), ?_⟩
  intro s ds hs hds ne
  show spSt K (V.ref s :: ([] : List Addr).map V.ref) _ _ _
  refine make_stackQ (es := []) (rs := []) hs hds .nil (Nat.zero_le _) (fun _ H1 k1 st => ⟨rfl, ?_⟩) fun z => absurd z (by decide)
  refine ⟨_, rfl, x, _, dx, _, rfl, k1 _ _ hx, T.c_Machine, T.n_Machine_present, by decide, ?_⟩
  obtain ⟨k2, x2, _⟩ := put_step (K := K) (fs' := putF "present" (.ref s) []) (Keep.refl (S := [x]) H) k1 (k1 _ _ hx)
  have nx : NotT (HO.ins (ga K "Machine") dx []) := ⟨(fun _ z => nomatch z), (fun _ _ z => nomatch z), (fun _ _ _ _ z => nomatch z), (fun _ _ _ _ z => nomatch z)⟩
  have mx : ∀ {b : Addr} {H : Hp}, H x ≠ none → H b = none → b ≠ x := fun n e z => n (by rw [← z]; exact e)
  have st2 : StAt K _ s [] := StAt.keepS (H' := upd H1 x (HO.ins (ga K "Machine") dx (putF "present" (.ref s) []))) st (off1 (k1 _ _ hx) nx) (keep_upd (List.mem_singleton.mpr rfl))
  intro d hd
  refine ⟨_, rfl, x, _, dx, _, rfl, same_upd hd _ _ x2, T.c_Machine, T.n_Machine_told, by show 1 < 1000; decide, ?_⟩
  obtain ⟨k3, x3, _⟩ := put_step (K := K) (fs' := putF "told" (.ref d) (putF "present" (.ref s) [])) k2 (same_upd (o := HO.dK []) hd) (same_upd hd _ _ x2)
  have hdx : d ≠ x := mx (by rw [x2]; exact fun z => nomatch z) hd
  have d3 : upd (upd (upd H1 x (HO.ins (ga K "Machine") dx (putF "present" (.ref s) []))) d (.dK [])) x (HO.ins (ga K "Machine") dx (putF "told" (.ref d) (putF "present" (.ref s) []))) d = some (.dK []) := by
    rw [upd_ne hdx, upd_same]
  have st3 := StAt.keepS (H' := upd (upd (upd H1 x (HO.ins (ga K "Machine") dx (putF "present" (.ref s) []))) d (.dK [])) x (HO.ins (ga K "Machine") dx (putF "told" (.ref d) (putF "present" (.ref s) [])))) (StAt.mono st2 (same_upd hd)) (off1 (same_upd hd _ _ x2) (notT_ins (by decide) (by decide))) (keep_upd (List.mem_singleton.mpr rfl))
  refine ⟨Nat.zero_le _, fun o ho => ⟨_, rfl, x, _, dx, _, rfl, same_upd ho _ _ x3, T.c_Machine, T.n_Machine_output, by show 2 < 1000; decide, ?_⟩⟩
  obtain ⟨k4, x4, _⟩ := put_step (K := K) (fs' := putF "output" (.ref o) (putF "told" (.ref d) (putF "present" (.ref s) []))) k3 (same_upd (o := HO.lst []) ho) (same_upd ho _ _ x3)
  have hox : o ≠ x := mx (by rw [x3]; exact fun z => nomatch z) ho
  have hod : d ≠ o := ne_of_none d3 ho
  have st4 := StAt.keepS (H' := upd (upd (upd (upd (upd H1 x (HO.ins (ga K "Machine") dx (putF "present" (.ref s) []))) d (.dK [])) x (HO.ins (ga K "Machine") dx (putF "told" (.ref d) (putF "present" (.ref s) [])))) o (.lst [])) x (HO.ins (ga K "Machine") dx (putF "output" (.ref o) (putF "told" (.ref d) (putF "present" (.ref s) [])))))
    (StAt.mono st3 (same_upd ho)) (off1 (same_upd ho _ _ x3) (notT_ins (by decide) (by decide))) (keep_upd (List.mem_singleton.mpr rfl))
  refine ⟨_, rfl, x, _, dx, _, rfl, x4, T.c_Machine, T.n_Machine_step_count, by show 3 < 1000; decide, ?_⟩
  have st5 := StAt.keepS (H' := upd _ x (HO.ins (ga K "Machine") dx (putF "step_count" (.int 0) (putF "output" (.ref o) (putF "told" (.ref d) (putF "present" (.ref s) [])))))) st4 (off1 x4 (notT_ins (by decide) (by decide))) (keep_upd (List.mem_singleton.mpr rfl))
  obtain ⟨k5, x5, _⟩ := put_step (K := K) (fs' := putF "step_count" (.int 0) (putF "output" (.ref o) (putF "told" (.ref d) (putF "present" (.ref s) [])))) k4 (Keep.refl0 _) x4
  have gone : ∀ {b : Addr} {H' : Hp}, Keep [x] H H' → b ≠ x → H' b = none → H b = none := fun {b H'} k n e => by
    cases z : H b with
    | none => rfl
    | some u =>
      rw [k b u z fun w => n (List.mem_singleton.mp w)] at e
      cases e
  refine q _ d o k5 ⟨dx, s, [], x5, ?_, ?_, st5, fun m => rfl, Nat.le_refl _, Nat.le_refl _⟩ (gone k2 hdx hd) (gone k3 hox ho)
  · rw [upd_ne hdx, upd_ne hdx, upd_ne hod]
    exact d3
  · rw [upd_ne hox, upd_ne hox, upd_same]
    rfl
end
end K6
set_option Elab.async false
set_option linter.all false
set_option maxRecDepth 100000
set_option maxHeartbeats 2000000
/-! K68Mach2: Machine.step, run, splice -/
namespace K6
open PySem PySem.Spec PyProof.Rows L2
theorem pmk_weak {X : Cx} {e : Expr} {t : L2.St → Hp → XK → Prop} (h : L2N.PMk X e t) : L2.PMk X e t := fun pins s σ H Q I q =>
  thn (h pins s σ H Q I q) fun u s1 ⟨a, oe, vs, sI, H', cls, d, e1, J, k, hne, ha, hz, hd, h1, na, os, ag, r, q'⟩ => ⟨a, oe, vs, sI, H', cls, d, e1, J, k, hne, ha, hz.zc, hd, h1, na, os, ag, r, q'⟩
section
variable {P : Program} {w : World} {K : PySem.W.Frag} {mg : Str → Option Value} {base : Heap}
def maF (s d o : Addr) (n : Nat) : List (Str × V) := [("present", .ref s), ("told", .ref d), ("output", .ref o), ("step_count", .int (n : Nat))]
/-- a field of the machine is stored -/
theorem MaAt.set {H Hq : Hp} {x d o s : Addr} {dx : Addr} {c c' : K68.Co} {n m : Nat} (h : MaAt K H x d o c n) (k : Same H Hq) (hx : ∃ s0 n0, Hq x = some (.ins (ga K "Machine") dx (maF s0 d o n0))) (hs : StAt K Hq s c'.rs) (e1 : c'.told = c.told) (e2 : c'.out = c.out) (hm : n ≤ m) :
    MaAt K (upd Hq x (.ins (ga K "Machine") dx (maF s d o m))) x d o c' m := by
  obtain ⟨dx0, s0, kvs, h1, h2, h3, h4, h5, h6, h7⟩ := h
  obtain ⟨s1, n1, hx⟩ := hx
  have nd : d ≠ x := fun z => by rw [z, h1] at h2; cases h2
  have no : o ≠ x := fun z => by rw [z, h1] at h3; cases h3
  refine ⟨dx, s, kvs, upd_same, ?_, ?_, StAt.keepS hs (off1 hx (notT_ins (by decide) (by decide))) (keep_upd (List.mem_singleton.mpr rfl)), fun m => by rw [e1]; exact h5 m, Nat.le_trans h6 hm, by rw [e2]; exact Nat.le_trans h7 hm⟩
  · rw [upd_ne nd]; exact k _ _ h2
  · rw [upd_ne no, e2]; exact k _ _ h3
def spMaStep (K : PySem.W.Frag) : Sp := fun vs H Q _ => ∃ x d o c n, vs = [.ref x] ∧ MaAt K H x d o c n ∧ n < 300 ∧ ∀ H', Keep [x] H H' → MaAt K H' x d o c (n + 1) → Q .non H'
theorem ok_MaStep (T : Tx w K mg) : Mt P w K mg base CX0 1 "Machine" "step" (spMaStep K) := by
  refine ⟨T.d_MaStep.r sc_MaStep bi_MaStep (fun vs H Q E h => ?_) (fun cdv A outer s0 H vs Q E hr h => ?_), T.m_Machine_step, T.c_Machine⟩
  · obtain ⟨x, d, o, c, n, rfl, _⟩ := h
    rfl
  obtain ⟨x, d, o, c, n, rfl, hm, hn, q⟩ := h
  have ⟨dx, s, kvs, h1, h2, h3, h4, h5, h6, h7⟩ := hm
  refine ⟨_, pss_cons (ps_fldaug (pv 0) pe_int in_add) (pss_one (ps_if (pt_cmpR op_gt (pe_fld (pv 0) rfl) (ki T.i_MOST_STEPS) (nomark _)) (pss_one ps_never) pss_nil)), ?_⟩
  refine ⟨_, rfl, x, _, dx, _, _, rfl, h1, T.c_Machine, T.n_Machine_step_count, rfl, _, _, rfl, rfl, dx, _, h1, by show 4 < 1000; decide, ?_⟩
  have hm' : MaAt K (upd H x (.ins (ga K "Machine") dx (maF s d o (n + 1)))) x d o c (n + 1) := MaAt.set hm (Keep.refl0 H) ⟨s, n, h1⟩ h4 rfl rfl (Nat.le_succ n)
  refine ⟨_, rfl, x, _, dx, _, _, rfl, upd_same, T.c_Machine, T.n_Machine_step_count, rfl, _, _, rfl, rfl, _, rfl, if_ (decide_eq_false (by omega)) ?_⟩
  exact q _ (keep_upd (List.mem_singleton.mpr rfl)) hm'
/-! ### run -/
def spMaRun (K : PySem.W.Frag) : Sp := fun vs H Q _ => ∃ x d o c n, vs = [.ref x] ∧ MaAt K H x d o c n ∧ ∀ H' r, Same H H' → RunAt K H' r c.run → Q (.ref r) H'
theorem putK_le (kvs : List (Key × V)) (k : Key) (v : V) : (putK kvs k v).length ≤ kvs.length + 1 := by
  unfold putK
  split
  · rw [List.length_map]; exact Nat.le_succ _
  · rw [List.length_append]; exact Nat.le_refl _
theorem mdS_inj {a b : K68.Md} (h : mdS a = mdS b) : a = b := by
  cases a <;> cases b <;> first | rfl | (exact absurd h (by decide))
theorem ok_MaRun (T : Tx w K mg) : Mt P w K mg base CX0 6 "Machine" "run" (spMaRun K) := by
  refine ⟨T.d_MaRun.r sc_MaRun bi_MaRun (fun vs H Q E h => ?_) (fun cdv A outer s0 H vs Q E hr h => ?_), T.m_Machine_run, T.c_Machine⟩
  · obtain ⟨x, d, o, c, n, rfl, _⟩ := h
    rfl
  obtain ⟨x, d, o, c, n, rfl, hm, q⟩ := h
  have ⟨dx, s, kvs, h1, h2, h3, h4, h5, h6, h7⟩ := hm
  have ⟨ds, p, q0, nn, es, ss, s1, s2, s3, s4, s5, s6, s7⟩ := h4
  obtain ⟨fd, F, B⟩ := prop_modules (P := P) (base := base) T
  refine ⟨_, pss_one (ps_ret (ck (ok_RunInit T) hr (by decide) pa0 (pa_cons (pe_fld (pv 0) rfl) (pa_cons
    (pe_dc (own := [("name", 1)]) (g := gName 1) (tt := tYes) (tk := tVar 1) (tv := tDGet2 (tFld K (tVar 0) "told") (tVar 1) (tC (.str "skip"))) rfl sc_MaRun.nd (pi_tup (pe_prop (pe_fld (pv 0) rfl) T.c_Stack T.pMods F (hr.mono (by decide)) B .nil pass0 rfl))
      (blkOk_by (N := ["self", "name"]) (sc := defScope s_MaRun) (by decide +kernel)) (fun _ _ _ _ _ => pg_name (i := 1) sc_MaRun.nd rfl (Or.inl rfl)) (fun _ _ _ _ _ => pts_nil) (fun _ _ _ _ _ => pv 1)
      (fun _ _ _ _ _ => pe_dget2 (hu_of hr) (pe_fld (pv 0) rfl) (pv 1) (ks T.s_SKIP) ⟨rfl, rfl, rfl, rfl⟩)) pa_nil)))), ?_⟩
  refine ⟨_, rfl, x, _, dx, _, _, rfl, h1, T.c_Machine, T.n_Machine_present, rfl, ?_⟩
  refine ⟨_, rfl, x, _, dx, _, _, rfl, h1, T.c_Machine, T.n_Machine_present, rfl, s, ds, _, rfl, s1, s, ds, _, _, rfl, s1, rfl, nn, rfl, ⟨_, s4⟩, fun D hD => ?_⟩
  refine dc_tup (K := K) (a := nn) (xs := ss.map V.str) (fun i H' => (∃ kv, H' D = some (.dK kv) ∧ kv.length ≤ i ∧ ∀ m, mdS m ∈ ss.take i → valV kv (.inr (mdS m)) = some (.str (rsS (K68.tellF c.told m)))) ∧ ∀ b o, H b = some o → H' b = some o)
    ⟨⟨[], upd_same, Nat.le_refl _, fun m hm => nomatch hm⟩, same_upd hD⟩ (fun i H' _ p => Same.seqT p.2 s4) (fun i v H1 hx p => ?_) (fun H1 p => ?_)
  · obtain ⟨z, hz, rfl⟩ := List.getElem?_map .. ▸ hx |> fun z => Option.map_eq_some_iff.mp z
    obtain ⟨⟨kv, hkv, hl, hv⟩, k1⟩ := p
    obtain ⟨u, hu, rfl⟩ := (s5.mem z).mp (List.mem_of_getElem? hz)
    have hlt : i < ss.length := (List.getElem?_eq_some_iff.mp hz).1
    have h3 := s5.few
    refine ⟨rfl, _, rfl, _, rfl, x, _, dx, _, _, rfl, k1 _ _ h1, T.c_Machine, T.n_Machine_told, rfl, d, rfl, .inl ⟨kvs, Rd.of (k1 _ _ h2)⟩, _, rfl, _, DGet.k (k := .inr (mdS u.1)) (k1 _ _ h2), kv, .inr (mdS u.1), rfl, hkv, ?_, ⟨_, upd_same, Nat.le_trans (putK_le _ _ _) (Nat.succ_le_succ hl), fun m hm => ?_⟩, fun b o e => ?_⟩
    · exact Nat.lt_of_le_of_lt hl (Nat.lt_of_lt_of_le hlt (Nat.le_trans h3 (by decide)))
    · rw [valV_put, h5]
      by_cases e : m = u.1
      · rw [if_pos (by rw [e]), e]
        unfold K68.tellF
        cases c.told u.1 <;> rfl
      · rw [if_neg fun z => e (mdS_inj (Sum.inr.inj z))]
        rw [List.take_succ, hz] at hm
        rcases List.mem_append.mp hm with hm | hm
        · exact hv m hm
        · exact absurd (mdS_inj (List.mem_singleton.mp hm)) e
    · rw [upd_ne (ne_of_none e hD)]
      exact k1 b o e
  · obtain ⟨⟨kv, hkv, hl, hv⟩, k1⟩ := p
    rw [List.length_map, List.take_length] at hv
    have k1' : Same H H1 := k1
    intro r dr hr0 hdr ne
    refine ⟨r, dr, s, D, kv, c.rs, K68.tellF c.told, rfl, upd_same, same_make hr0 hdr _ _ hkv, StAt.mono (StAt.mono h4 k1') (same_make hr0 hdr), fun u hu => hv u.1 ((s5.mem _).mpr ⟨u, hu, rfl⟩), fun H2 k2 hrun => ⟨rfl, q H2 r (fun b o e => Keep.single k2 (same_make hr0 hdr) hr0 b o (k1' b o e)) hrun⟩⟩
end
end K6
set_option Elab.async false
set_option linter.all false
set_option maxRecDepth 100000
set_option maxHeartbeats 2000000
/-! K68Spl: rows; Machine.splice -/
namespace K6
open PySem PySem.Spec PyProof.Rows L2
/-- a row of a script: its number, its words, its block -/
def RowAt (K : PySem.W.Frag) (H : Hp) (r : Addr) (wl bl : Addr) : Prop := ∃ dx vs, ∃ num : Int, H r = some (SlX.SlO r (ga K "Row") dx vs) ∧ H dx = some (.xd []) ∧ vs[1]? = some (some (.int num)) ∧ vs[2]? = some (some (.ref wl)) ∧ vs[0]? = some (some (.ref bl))
theorem RowAt.mono {K : PySem.W.Frag} {H H' : Hp} {r wl bl : Addr} (h : RowAt K H r wl bl) (k : Same H H') : RowAt K H' r wl bl := by
  obtain ⟨dx, vs, num, h1, h2, h3⟩ := h
  exact ⟨dx, vs, num, k _ _ h1, k _ _ h2, h3⟩
def ixL : K68.Ln → Int
  | .drop99 => 99 | _ => 0
def cnL : K68.Ln → Int
  | .swap => 2 | _ => 1
section
variable {P : Program} {w : World} {K : PySem.W.Frag} {mg : Str → Option Value} {base : Heap}
def spMaSpl (K : PySem.W.Frag) : Sp := fun vs H Q E => ∃ x d o c n row wl bl l, vs = [.ref x, .ref row, .int (ixL l), .int (cnL l)] ∧ (l = .drop ∨ l = .swap ∨ l = .drop99) ∧ MaAt K H x d o c n ∧ RowAt K H row wl bl ∧
  (∀ c', K68.exL l c = some c' → ∀ H', Keep [x] H H' → MaAt K H' x d o c' n → Q .non H') ∧ (K68.exL l c = none → ∀ dd H', Same H H' → E (.ref (ga K "ExecutionFailed")) (some dd) H')
def splB (l : K68.Ln) (n : Nat) : Bool := decide ((0 : Int) ≤ ixL l) && decide (ixL l ≤ (n : Int) - cnL l)
theorem spl_none {l : K68.Ln} {c : K68.Co} (hl : l = .drop ∨ l = .swap ∨ l = .drop99) (h : splB l c.rs.length = false) : K68.exL l c = none := by
  rcases hl with rfl | rfl | rfl
  · cases e : c.rs with
    | nil => unfold K68.exL; rw [e]
    | cons a r =>
      rw [e] at h
      have z : splB .drop (a :: r).length = true := by
        show (true && decide ((0 : Int) ≤ ((r.length + 1 : Nat) : Int) - 1)) = true
        rw [decide_eq_true (by omega)]
        rfl
      rw [z] at h
      cases h
  · cases e : c.rs with
    | nil => unfold K68.exL; rw [e]
    | cons a r =>
      cases e2 : r with
      | nil => unfold K68.exL; rw [e, e2]
      | cons b r2 =>
        rw [e, e2] at h
        have z : splB .swap (a :: b :: r2).length = true := by
          show (true && decide ((0 : Int) ≤ ((r2.length + 1 + 1 : Nat) : Int) - 2)) = true
          rw [decide_eq_true (by omega)]
          rfl
        rw [z] at h
        cases h
  · rfl
theorem spl_some {l : K68.Ln} {c : K68.Co} (hl : l = .drop ∨ l = .swap ∨ l = .drop99) (hn : c.rs.length ≤ 12) (h : splB l c.rs.length = true) : (l = .drop ∧ ∃ a r, c.rs = a :: r) ∨ (l = .swap ∧ ∃ a b r, c.rs = a :: b :: r) := by
  rcases hl with rfl | rfl | rfl
  · cases e : c.rs with
    | nil => rw [e] at h; exact absurd h (by decide)
    | cons a r => exact .inl ⟨rfl, a, r, rfl⟩
  · cases e : c.rs with
    | nil => rw [e] at h; exact absurd h (by decide)
    | cons a r =>
      cases e2 : r with
      | nil =>
        rw [e, e2] at h
        exact absurd (show splB .swap 1 = true from h) (by decide)
      | cons b r2 => exact .inr ⟨rfl, a, b, r2, rfl⟩
  · exfalso
    obtain ⟨_, h2⟩ := Bool.and_eq_true_iff.mp h
    have z : (99 : Int) ≤ (c.rs.length : Int) - 1 := of_decide_eq_true h2
    omega
theorem ok_MaSpl (T : Tx w K mg) : Mt P w K mg base (L2.CX P w) 7 "Machine" "splice" (spMaSpl K) := by
  refine ⟨T.d_MaSpl.r sc_MaSpl bi_MaSpl (fun vs H Q E h => ?_) (fun cdv A outer s0 H vs Q E hr h => ?_), T.m_Machine_splice, T.c_Machine⟩
  · obtain ⟨x, d, o, c, n, row, wl, bl, l, rfl, _⟩ := h
    rfl
  obtain ⟨x, d, o, c, n, row, wl, bl, l, rfl, hl, hm, hrow, q1, q2⟩ := h
  have ⟨dx, s, kvs, h1, h2, h3, h4, h5, h6, h7⟩ := hm
  have ⟨ds, p, q0, nn, es, ss, s1, s2, s3, s4, s5, s6, s7⟩ := h4
  obtain ⟨dr, vs, num, r1, r2, r3, r4, r5⟩ := hrow
  refine ⟨_, pss_cons (ps_set (i := 4) sc_MaSpl.nd rfl (.inl rfl) (pe_fld (pv 0) rfl))
    (pss_cons (ps_if (pt_not (pt_val (gd (ok_isNumber T) hr (by decide) pass0 (pa_cons (pv 2) (pa_cons pe_int (pa_cons (pe_op op_sub (pe_callB (cr_lenI (ok_StLen T) (hr.mono (by decide)) T.m_Stack___len__) (by rfl) T.b_len (by decide +kernel) (pa_cons (pv 4) pa_nil)) (pv 3)) pa_nil))))))
        (pss_one (L2.ps_raise rfl (L2.takes_of rfl rfl rfl rfl) (pmk_weak (pmk_oexN T.oExe T.m_ExecutionFailed___init__.at_ T.tiExe (ok_XExe T) (hr.mono (by decide)) (by rfl) T.g_ExecutionFailed (pa_cons (SlX.pe_sl (pv 1)) pa_nil))))) pss_nil)
    (pss_cons (ps_set (i := 5) sc_MaSpl.nd rfl (.inl rfl) (pe_ifExp (pt_cmpR op_eq (pv 3) pe_int (nomark _))
        (pe_tup (pa_cons (pe_ixO (ok_StGet T) (hr.mono (by decide)) T.m_Stack___getitem__ T.d_StGet.fnIn (pv 4) (pe_op op_add (pv 2) pe_int)) (pa_cons (pe_ixO (ok_StGet T) (hr.mono (by decide)) T.m_Stack___getitem__ T.d_StGet.fnIn (pv 4) (pv 2)) pa_nil))) (pe_tup pa_nil)))
    (pss_one (ps_fld (pv 0) (md (ok_StSpl T) hr (by decide) pa0 (pv 4) (pa_cons (pv 2) (pa_cons (pv 3) (pa_cons (pv 5) pa_nil)))) rfl)))), ?_⟩
  refine ⟨_, rfl, x, _, dx, _, _, rfl, h1, T.c_Machine, T.n_Machine_present, rfl, ?_⟩
  refine ⟨_, rfl, _, rfl, s, ds, _, rfl, s1, s, c.rs, rfl, h4, (c.rs.length : Nat), rfl, Int.natCast_nonneg _, by omega, _, rfl, _, _, rfl, rfl, _, _, _, rfl, _, rfl, ?_⟩
  by_cases hb : splB l c.rs.length = false
  · refine it (show (!splB l c.rs.length) = true by rw [hb]; rfl) ?_
    exact ⟨_, rfl, row, _, dr, _, vs, 1, _, rfl, .inr ⟨r1, r2⟩, T.cRow, T.sNum, r3, by show 1 ≤ 1000; decide, mk_read trivial fun dd H' k => q2 (spl_none hl hb) dd H' k⟩
  have hb' : splB l c.rs.length = true := by
    cases z : splB l c.rs.length with
    | true => rfl
    | false => exact absurd z hb
  refine if_ (show (!splB l c.rs.length) = false by rw [hb']; rfl) ?_
  have nm : ∀ s', NotT (HO.ins (ga K "Machine") dx (maF s' d o n)) := fun s' => notT_ins (by decide) (by decide)
  rcases spl_some hl s7 hb' with ⟨rfl, a, r, hrs⟩ | ⟨rfl, a, b, r, hrs⟩
  · refine ⟨_, rfl, rfl, false, rfl, if_ rfl ?_⟩
    refine ⟨Nat.zero_le _, fun t ht => ?_⟩
    have k1 := same_upd (o := HO.tup []) ht
    refine ⟨_, rfl, s, ds, _, rfl, k1 _ _ s1, rfl, _, rfl, _, rfl, _, rfl, s, t, c.rs, [], [], 1, rfl, StAt.mono h4 k1, Nat.le_refl _, by rw [hrs]; exact Nat.succ_le_succ (Nat.zero_le _), SqT.of upd_same, .nil, Nat.zero_le _, fun s' H2 k2 hs2 => ?_⟩
    have kk : Same H H2 := fun b o e => k2 b o (k1 b o e)
    refine ⟨_, rfl, x, _, dx, _, rfl, kk _ _ h1, T.c_Machine, T.n_Machine_present, by show 4 < 1000; decide, ?_⟩
    have ec : K68.exL .drop c = some { c with rs := r } := by unfold K68.exL; rw [hrs]
    have ed : c.rs.drop 1 = r := by rw [hrs]; rfl
    rw [List.nil_append, ed] at hs2
    exact q1 _ ec _ ((Same.keep kk).trans (keep_upd (List.mem_singleton.mpr rfl))) (MaAt.set (c' := { c with rs := r }) hm kk ⟨s, n, kk _ _ h1⟩ hs2 rfl rfl (Nat.le_refl n))
  · refine ⟨_, rfl, rfl, true, rfl, it rfl ?_⟩
    refine ⟨_, rfl, _, rfl, _, _, rfl, rfl, s, ds, _, rfl, s1, s, c.rs, 1, b, rfl, h4, by rw [hrs]; rfl, fun rb hrb => ?_⟩
    refine ⟨_, rfl, _, rfl, s, ds, _, rfl, s1, s, c.rs, 0, a, rfl, h4, by rw [hrs]; rfl, fun ra hra => ?_⟩
    refine ⟨by show 2 ≤ sizeLine; decide, fun t ht => ?_⟩
    have k1 := same_upd (o := HO.tup [.ref rb, .ref ra]) ht
    refine ⟨_, rfl, s, ds, _, rfl, k1 _ _ s1, rfl, _, rfl, _, rfl, _, rfl, s, t, c.rs, [rb, ra], [b, a], 2, rfl, StAt.mono h4 k1, by decide, by rw [hrs]; exact Nat.succ_le_succ (Nat.succ_le_succ (Nat.zero_le _)), SqT.of upd_same, .cons (RuAt.mono hrb k1) (.cons (RuAt.mono hra k1) .nil), Nat.le_refl _, fun s' H2 k2 hs2 => ?_⟩
    have kk : Same H H2 := fun b o e => k2 b o (k1 b o e)
    refine ⟨_, rfl, x, _, dx, _, rfl, kk _ _ h1, T.c_Machine, T.n_Machine_present, by show 4 < 1000; decide, ?_⟩
    have ec : K68.exL .swap c = some { c with rs := b :: a :: r } := by unfold K68.exL; rw [hrs]
    have ed : [b, a] ++ c.rs.drop 2 = b :: a :: r := by rw [hrs]; rfl
    rw [ed] at hs2
    exact q1 _ ec _ ((Same.keep kk).trans (keep_upd (List.mem_singleton.mpr rfl))) (MaAt.set (c' := { c with rs := b :: a :: r }) hm kk ⟨s, n, kk _ _ h1⟩ hs2 rfl rfl (Nat.le_refl n))
end
end K6
set_option Elab.async false
set_option linter.all false
set_option maxRecDepth 100000
set_option maxHeartbeats 2000000
/-! K68Try: two clauses that raise again, one that raises from what it names -/
namespace K6
open PySem PySem.Spec PyProof.Rows L2 HotX
section
variable {X : Cx} {pins : List (Addr × Obj)} {σ : L2.St} {H : Hp}
/-- the clause's name goes; sI is the state without what is in the air -/
theorem gone_sub {M : Model} {A : Around} {E : Value → Shared → Prop} {i : Nat} {n : Str} {pos : Pos} {Q : Unit → Shared → Prop} {s3 sI : Shared} (I3 : Inv X pins σ H s3) (I : Inv X pins σ H sI)
    (nb : ∀ b o, sI.heap.get? b = some o → b ∉ frs X.stack → s3.heap.get? b = some o) (hL : X.env.locals ∈ frs X.stack) (hN : X.N.Nodup) (hi : X.N[i]? = some n) (hl : X.env.kindOf n = some .local)
    (h : ∀ s7 sJ : Shared, Inv X pins (σ.set i none) H sJ → (∀ b, b ≠ X.env.locals → s7.heap.get? b = s3.heap.get? b) → s7.heap.FunFrames X.base X.stack → (∀ b o, sJ.heap.get? b = some o → s7.heap.get? b = some o) →
      (∀ b o, sJ.heap.get? b = some o → b ∉ frs X.stack → sI.heap.get? b = some o) → s7.os = s3.os → sJ.os = s3.os → s7.gens = s3.gens → Q () s7) : wpAny M A (do bindName X.env n .none; unbindBehindTheSuite X.env n pos) Q E s3 := by
  obtain ⟨m, hn, hlk⟩ := id I3.loc
  obtain ⟨mI, hnI, _⟩ := id I.loc
  have hcls : (X.env.scope.kind == .class || (X.env.scope.kind == .module && X.env.locals != X.env.globals)) = false := by rw [I3.ok.kind]; rfl
  refine wpAny_nameGoes_keeps hl hn hcls fun h' v hn' hs => ?_
  obtain ⟨G, g1, g2⟩ := restrict h' fun b => (sI.heap.get? b).isSome
  have gIn : ∀ b o, sI.heap.get? b = some o → G.get? b = h'.get? b := fun b o e => g1 b (by rw [e]; rfl)
  have gOf : ∀ b o, G.get? b = some o → h'.get? b = some o ∧ ∃ o', sI.heap.get? b = some o' := fun b o e => by
    cases q : sI.heap.get? b with
    | none =>
      have z := g2 b (by rw [q]; rfl)
      rw [z] at e
      cases e
    | some o' => exact ⟨(gIn b o' q) ▸ e, o', rfl⟩
  have neL : ∀ b o, X.s_0.heap.get? b = some o → b ≠ X.env.locals := fun b o e => Nat.ne_of_lt (Nat.lt_of_lt_of_le (Heap.lt_size e) I3.ok.above)
  have old : ∀ b o, X.s_0.heap.get? b = some o → b ∉ X.ex → ∀ o2, s3.heap.get? b = some o2 → G.get? b = some o2 := fun b o e hx o2 e2 => by
    obtain ⟨o', q⟩ := I.base.there b o e hx
    rw [gIn b o' q, hs.2 b (neL b o e)]
    exact e2
  obtain ⟨oI, esI, epI, hoI, _⟩ := id hnI
  have cellK : ∀ x c, X.env.cells.lookup x = some c → ∀ u, s3.heap.IsCell c u → G.IsCell c u := fun x c e u z => by
    obtain ⟨uI, ocI, hocI, _⟩ := I.cell x c e
    obtain ⟨o, ho, hd⟩ := z.sameBut hs (I3.cne x c e)
    exact ⟨o, (gIn c ocI hocI).trans ho, hd⟩
  have J : Inv X pins (σ.set i none) H { s3 with heap := G, toks := s3.toks + 1 } := by
    refine ⟨I3.ok, I3.os, I3.bare, ⟨fun b o e n hb hx => ?_, fun b o e n hb hx => ?_, I3.base.free, fun b o e hx => ?_, I3.base.tups, I3.base.frzs, I3.base.tbls⟩, ?_, fun y c e => ?_, I3.free, I3.freeC, fun p hp => ?_, fun b ob e => ?_, by simpa using I3.len⟩
    · exact old b o e hx o (I3.base.keep b o e n hb hx)
    · obtain ⟨sl, e1⟩ := I3.base.slot b o e n hb hx
      exact ⟨sl, old b o e hx _ e1⟩
    · obtain ⟨o', e1⟩ := I3.base.there b o e hx
      exact ⟨o', old b o e hx o' e1⟩
    · obtain ⟨o7, es, ep, ho7, r7⟩ := hn'
      refine ⟨_, ⟨o7, es, ep, (gIn _ _ hoI).trans ho7, r7⟩, fun j y v' e1 e2 e3 => ?_⟩
      by_cases hj : j = i
      · subst hj
        by_cases hlt : j < σ.length
        · rw [List.getElem?_set_self hlt] at e2; cases e2
        · rw [List.getElem?_eq_none (by simpa using hlt)] at e2; cases e2
      · rw [List.getElem?_set_ne (Ne.symm hj)] at e2
        obtain ⟨u', r', q⟩ := hlk j y v' e1 e2 e3
        refine ⟨u', r', ?_⟩
        rcases q with ⟨k, e⟩ | ⟨k, c, e, z⟩
        · have ny : y ≠ n := fun e => hj (nodup_ix hN e1 (e ▸ hi))
          exact .inl ⟨k, (if_neg ny).trans e⟩
        · exact .inr ⟨k, c, e, cellK y c e _ z⟩
    · obtain ⟨w', z⟩ := I3.cell y c e
      exact ⟨w', cellK y c e _ z⟩
    · obtain ⟨e, n, ne, nf, d⟩ := I3.pin p hp
      exact ⟨(gIn _ _ (I.pin p hp).1).trans ((hs.2 p.1 ne).trans e), n, ne, nf, d⟩
    · refine (I.hok b ob e).stay (fun c w' hc q => ?_) (fun _ q => q) fun _ _ q => q
      have nf : c ∉ frs X.stack := fun hm => by
        have z := I.stkFree c hm
        rcases hc with hc | hc
        · rw [hc, e] at z; cases z
        · rw [hc] at z; cases z
      rw [gIn c w' q, hs.2 c (fun z => nf (z ▸ hL))]
      exact nb c w' q nf
  have I7 : s3.heap.FunFrames X.base X.stack := I3.stack
  refine h _ { s3 with heap := G, toks := s3.toks + 1 } J hs.2 ?_ (fun b o e => (gOf b o e).1) (fun b o e hb => ?_) rfl rfl rfl
  · exact Heap.FunFrames.of_keeps (fun b o e hm => (gOf b o e).elim fun z _ => ⟨o, z, rfl⟩) J.stack
  · obtain ⟨z, o', q⟩ := gOf b o e
    have z2 := nb b o' q hb
    have z3 : s3.heap.get? b = some o := (hs.2 b (fun y => hb (y ▸ hL))).symm.trans z
    rw [z2] at z3
    cases z3
    exact q
end
/-- the heap behind «from e» -/
def caused (h : Heap) (a x1 : Addr) : Heap := (h.update a (Obj.mapFields (·.setIfInBounds 3 (.ref x1)))).update a (Obj.mapFields (·.setIfInBounds 4 (.bool true)))
abbrev causedO (oe : Obj) (x1 : Addr) : Obj := (oe.mapFields (·.setIfInBounds 3 (.ref x1))).mapFields (·.setIfInBounds 4 (.bool true))
theorem caused_at {h : Heap} {a x1 : Addr} {oe : Obj} {vs : Array Value} (ha : h.get? a = some oe) (hd : oe.data = .fields vs) :
    (caused h a x1).get? a = some (causedO oe x1) ∧ (causedO oe x1).data = .fields ((vs.setIfInBounds 3 (.ref x1)).setIfInBounds 4 (.bool true)) := by
  have d1 := Obj.data_mapFields hd (·.setIfInBounds 3 (.ref x1))
  have a1 := Heap.get?_update_self (Obj.mapFields (·.setIfInBounds 3 (.ref x1))) ha (Obj.isFreed_of_fields d1)
  have d2 := Obj.data_mapFields d1 (·.setIfInBounds 4 (.bool true))
  exact ⟨Heap.get?_update_self (Obj.mapFields (·.setIfInBounds 4 (.bool true))) a1 (Obj.isFreed_of_fields d2), d2⟩
theorem caused_other {h : Heap} {a b x1 : Addr} (hne : a ≠ b) : (caused h a x1).get? b = h.get? b :=
  (Heap.get?_update_other _ _ hne).trans (Heap.get?_update_other _ _ hne)
section
variable {prog : Program} {w : World} {A : Around} {E : Value → Shared → Prop} {s : Shared}
/-- what a record is to a raise: no type, an instance of BaseException -/
theorem excFrom_rec {a : Addr} {oe : Obj} {vs : Array Value} {c : String} {Q : Value → Shared → Prop} (ha : s.heap.get? a = some oe) (hd : oe.data = .fields vs) (L : PySem.W.Looks (model prog w) s.heap (isSubtype oe.cls (.type "BaseException")) true) (q : Q (.ref a) s) :
    wpAny (model prog w) A (excFromValue (.ref a) c) Q E s := by
  have LT : PySem.W.Looks (model prog w) s.heap (typeOf (.ref a)) oe.cls := fun A Q E s k q => wpAny_typeOf_ref (k _ _ ha) q
  have LI : PySem.W.Looks (model prog w) s.heap (isInstance (.ref a) (.type "BaseException")) true := LT.andThen L
  unfold excFromValue isExcClass
  refine wpAny_bind (wpAny_bind ?_)
  simp only [isType, loadHead]
  refine wpAny_bind (wpAny_loadPart ha ?_)
  rw [hd]
  refine wpAny_pure ?_
  simp only [Bool.false_eq_true, if_false]
  refine wpAny_pure ?_
  simp only [Bool.false_eq_true, if_false]
  refine wpAny_bind (LI.here ?_)
  simp only [if_true]
  exact wpAny_pure q
theorem raise_caused {env : Env} {x c : Sem Value} {Q : Flow → Shared → Prop} {x1 : Addr}
    (h : wpAny (model prog w) A x (fun v s₁ => ∃ a oe vs, v = .ref a ∧ s₁.heap.get? a = some oe ∧ oe.data = .fields vs ∧ vs[1]? = some .none ∧ 4 < vs.size ∧ x1 ≠ a ∧ HotAt A x1 s₁.heap ∧
      (∀ Q' : Value → Shared → Prop, Q' (.ref x1) s₁ → wpAny (model prog w) A c Q' E s₁) ∧ (∃ o1 vs1, s₁.heap.get? x1 = some o1 ∧ o1.data = .fields vs1 ∧ PySem.W.Looks (model prog w) s₁.heap (isSubtype o1.cls (.type "BaseException")) true) ∧
      PySem.W.Looks (model prog w) s₁.heap (isSubtype oe.cls (.type "BaseException")) true ∧ PySem.W.Looks (model prog w) (caused s₁.heap a x1) (typeOf oe.cls) (.type "type") ∧
      E (.ref a) { s₁ with heap := (caused s₁.heap a x1).update a (Obj.mapFields (·.setIfInBounds 2 (.ref x1))) }) E s) :
    wpAny (model prog w) A (raiseStmt env (some x) (some c)) Q E s := by
  unfold raiseStmt
  dsimp only
  refine wpAny_bind (wpAny_mono h (fun v s₁ h₁ => ?_) fun _ _ x => x)
  obtain ⟨a, oe, vs, rfl, ha, hd, h1, hi, hne, hot, hcs, ⟨o1, vs1, e1, d1, K1⟩, L1, L3, hE⟩ := h₁
  have hd3 := Obj.data_mapFields hd (·.setIfInBounds 3 (.ref x1))
  have ha3 := Heap.get?_update_self (Obj.mapFields (·.setIfInBounds 3 (.ref x1))) ha (Obj.isFreed_of_fields hd3)
  obtain ⟨ha4, hd4⟩ := caused_at (x1 := x1) ha hd
  have s3 : 3 < vs.size := by omega
  have s4 : 4 < (vs.setIfInBounds 3 (Value.ref x1)).size := by rw [set_size]; exact hi
  have s2 : 2 < ((vs.setIfInBounds 3 (Value.ref x1)).setIfInBounds 4 (Value.bool true)).size := by rw [set_size, set_size]; omega
  have h14 : ((vs.setIfInBounds 3 (Value.ref x1)).setIfInBounds 4 (Value.bool true))[1]? = some Value.none := set_other (by decide) (set_other (by decide) h1)
  have hcls4 : (causedO oe x1).cls = oe.cls := by rw [Obj.cls_mapFields, Obj.cls_mapFields]
  have LT4 : PySem.W.Looks (model prog w) (caused s₁.heap a x1) (typeOf (.ref a)) oe.cls := fun A Q E s k q => wpAny_typeOf_ref (k _ _ ha4) (by rw [hcls4]; exact q)
  have hnt4 : ∀ {Q' : Bool → Shared → Prop}, Q' false { s₁ with heap := caused s₁.heap a x1 } → wpAny (model prog w) A (isType (.ref a)) Q' E { s₁ with heap := caused s₁.heap a x1 } := by
    intro Q' hq
    simp only [isType, loadHead]
    refine wpAny_bind (wpAny_loadPart ha4 ?_)
    rw [hd4]; exact wpAny_pure hq
  have hot4 : HotAt A x1 (caused s₁.heap a x1) := by
    obtain ⟨q1, o, vs', q2, q3, q4⟩ := hot
    exact ⟨q1, o, vs', by rw [caused_other (Ne.symm hne)]; exact q2, q3, q4⟩
  have rest : wpAny (model prog w) A (do
      let b ← isType (.ref a)
      if b = true then do
        let e ← holding [.ref a] (raisedFor (.ref a) (.ref a))
        setFlight e none
        raiseNew e
      else do
        let e ← raisedInstance (.ref a)
        setFlight e none
        raiseNew e : Sem Flow) Q E { s₁ with heap := caused s₁.heap a x1 } := by
    refine wpAny_bind (hnt4 ?_)
    simp only [Bool.false_eq_true, if_false]
    unfold raisedInstance
    refine wpAny_bind (wpAny_bind (LT4.here (wpAny_bind (L3.here ?_))))
    rw [if_pos (beq_self_eq_true _)]
    refine wpAny_pure ?_
    unfold setFlight
    refine wpAny_bind (wpAny_bind (wpAny_field ha4 hd4 h14 ?_))
    rw [if_neg (by decide)]
    refine wpAny_pure ?_
    exact raiseNew_hot hot4 hne ha4 hd4 s2 hE
  refine wpAny_bind (wpAny_holding (hcs _ (wpAny_bind (wpAny_pure ?_))))
  dsimp only
  refine wpAny_bind (wpAny_holding (excFrom_rec ha hd L1 ?_))
  have hnn : (Value.ref x1 == Value.none) = false := by simp
  simp only [hnn, Bool.false_eq_true, if_false]
  refine wpAny_bind (wpAny_holding (excFrom_rec e1 d1 K1 ?_))
  refine wpAny_bind (wpAny_setField ha hd s3 (wpAny_bind (wpAny_setField ha3 hd3 s4 ?_)))
  exact rest
end
/-- raise C(..) from e: slot i is e's -/
theorem ps_raiseF {X : Cx} {W : WX} {e : Expr} {t : L2.St → Hp → XK → Prop} {i : Nat} {n : Str} {p1 pos : Pos} {a1 : Addr} {o1 : Obj} (hh : L2H.Hot1 X.A (a1, o1)) (hp : (a1, o1) ∈ X.pn) (r1 : Raises X o1.cls) (hN : X.N[i]? = some n) (hl : X.env.scope.names.lookup n = some .local)
    (hdb : (n == ("__debug__" : Str)) = false) (tk : L2.Takes X W) (he : L2H.PMk5 X e t) :
    PS X (.Raise (some e) (some (.Name n p1)) pos) (fun _ σ H => σ[i]? = some (some (.ref a1)) ∧ t σ H fun cls d H' => W cls d σ H') := by
  refine ⟨fun pins s σ H D I h => ?_⟩
  obtain ⟨hi, h⟩ := h
  obtain ⟨hh, v1, e1, c1⟩ := hh
  show wpAny _ _ (do standAt pos; raiseStmt X.env (some (do let v ← eval e X.env; standAt pos; pure v)) (some (do let v ← eval (.Name n p1) X.env; standAt pos; pure v))) _ _ _
  refine wpAny_bind (wpAny_standAt (raise_caused (x1 := a1) (wpAny_bind (wpAny_mono (he pins s σ H _ I h) (fun u s1 hu => wpAny_bind (wpAny_standAt (wpAny_pure ?_))) fun _ _ x => x))))
  obtain ⟨⟨a, oe, vs, sI, H', cls, d, rfl, J, k, hne, ha, hz, hd, h1, na, os, ag, r, q⟩, h5⟩ := hu
  have hi4 : 4 < vs.size := h5 a oe vs rfl ha hd
  have K1 := J.kept (t' := s1.toks) k
  have J1 : Inv X pins σ H' s1 := ⟨K1.ok, os.trans K1.os, ag, K1.base, K1.loc, K1.cell, K1.free, K1.freeC, K1.pin, K1.hok, K1.len⟩
  have P1 := (J.pin (a1, o1) (List.mem_append_left _ hp)).1
  have nap : a1 ≠ a := fun z => by
    have y : sI.heap.get? a1 = none := z ▸ hne
    rw [show sI.heap.get? a1 = some o1 from P1] at y
    cases y
  have k4 : ∀ b u, sI.heap.get? b = some u → (caused s1.heap a a1).get? b = some u := fun b u z => by
    have nab : a ≠ b := fun y => by
      rw [← y, hne] at z
      cases z
    rw [caused_other nab]
    exact k b u z
  obtain ⟨L1, _⟩ := r (model X.prog X.w) s1.heap (J.kIn.keeps k)
  obtain ⟨_, L3⟩ := r (model X.prog X.w) (caused s1.heap a a1) (J.kIn.keeps k4)
  obtain ⟨L1', _⟩ := r1 (model X.prog X.w) s1.heap (J.kIn.keeps k)
  obtain ⟨ha4, hd4⟩ := caused_at (x1 := a1) ha hd
  have h12 : (((vs.setIfInBounds 3 (Value.ref a1)).setIfInBounds 4 (Value.bool true)).setIfInBounds 2 (Value.ref a1))[1]? = some Value.none := set_other (by decide) (set_other (by decide) (set_other (by decide) h1))
  have hz1 : oe.cls = cls := hz.1
  refine ⟨a, oe, vs, rfl, ha, hd, h1, hi4, nap, ⟨hh, o1, v1, k _ _ P1, e1, c1⟩, fun Q' q' => ?_, ⟨o1, v1, k _ _ P1, e1, L1'⟩, hz1 ▸ L1, hz1 ▸ L3, tk _ _ (XE.new J (fun b u z => ?_) hne (Heap.get?_update_self _ ha4 (Obj.isFreed_of_fields (Obj.data_mapFields hd4 _)))
    ⟨by rw [Obj.cls_mapFields, Obj.cls_mapFields, Obj.cls_mapFields]; exact hz.1, by rw [HandSPX.dict_mapFields, HandSPX.dict_mapFields, HandSPX.dict_mapFields]; exact hz.2.1⟩ (Obj.data_mapFields hd4 _) h12 na os ag q)⟩
  · obtain ⟨m, hn, hlk⟩ := J1.loc
    obtain ⟨u, ru, l⟩ := hlk i n (.ref a1) hN hi (.inl hl)
    cases ru
    refine wpAny_bind (?_ : wpAny _ _ _ (fun v s => _) _ _)
    rcases l with ⟨hk, hm⟩ | ⟨hk, _⟩
    · exact wpAny_Name (wpAny_loadName_local J1.ok.kind hk hn hm (wpAny_bind (wpAny_standAt (wpAny_pure q')))) hdb
    · rcases hk with hk | hk
      · rw [show X.env.kindOf n = some .local from hl] at hk; cases hk
      · rw [show X.env.kindOf n = some .local from hl] at hk; cases hk
  · have nab : a ≠ b := fun y => by
      rw [← y, hne] at z
      cases z
    show ((caused s1.heap a a1).update a (Obj.mapFields (·.setIfInBounds 2 (.ref a1)))).get? b = some u
    rw [Heap.get?_update_other _ _ nab]
    exact k4 b u z
section
variable {X : Cx} {pins : List (Addr × Obj)} {σ : L2.St} {H : Hp} {s : Shared} {a : Addr} {oe : Obj} {cls : Value} {x : Str} {c : Value} {np pos : Pos} {nm : Option Str} {suite : List Stmt} {rest : List ExceptHandler} {Q : Flow → Shared → Prop} {E : Value → Shared → Prop}
/-- a clause is looked at -/
theorem clause_at {b : Bool} (S : Inv (X.suite a ((a, oe) :: (X.pn ++ pins))) [] σ H s) (hc : Names X x c) (hcl : oe.cls = cls) (hb : PySem.W.exmOne X.K cls c = some b)
    (h : (match b with
      | true => codeAny (model X.prog X.w) (X.A.mark (some (.ref a))) (.handlers (.ref a) [.ExceptHandler none nm suite pos] X.env) (fun r s₂ => match r with
          | .ok f => (match nm with
            | none => Q f s₂
            | some n => wpAny (model X.prog X.w) X.A (do bindName X.env n .none; unbindBehindTheSuite X.env n pos) (fun _ s₃ => Q f s₃) E s₂)
          | .error x => cameBackBy (model X.prog X.w) X.A X.env E x s₂) s
      | false => wpAny (model X.prog X.w) X.A (handleBy (.ref a) X.env rest) Q E s)) :
    wpAny (model X.prog X.w) X.A (handleBy (.ref a) X.env (.ExceptHandler (some (.Name x np)) nm suite pos :: rest)) Q E s := by
  have ha : s.heap.get? a = some oe := (S.pin (a, oe) (List.mem_append_left _ List.mem_cons_self)).1
  refine wpAny_handleBy_cons (codeAny_handlers_test ?_) (by intro q; cases q)
  have LT : PySem.W.Looks (model X.prog X.w) s.heap (typeOf (.ref a)) cls := fun A Q E s k q => wpAny_typeOf_ref (k _ _ ha) (by rw [hcl]; exact q)
  have LM := PySem.W.exm_one (M := model X.prog X.w) S.kIn LT hb
  have test : ∀ {Q : Value → Shared → Prop} {E : Value → Shared → Prop}, Q c s → wpAny (model X.prog X.w) (X.A.mark (some (.ref a))) (eval (.Name x np) X.env) Q E s := fun {Q E} q => by
    obtain ⟨hg, hdbg, hm | ⟨hm, hv, hnn⟩⟩ := hc
    · exact ld_glob (X := X.suite a ((a, oe) :: (X.pn ++ pins))) S hg hm q hdbg
    · exact ld_blt (X := X.suite a ((a, oe) :: (X.pn ++ pins))) S hg hm hv q hnn hdbg
  refine test (LM.here ?_)
  cases b with
  | true => exact h
  | false => exact h
end
/-- raise: what is handled flies on -/
theorem bare_again {prog : Program} {w : World} {A : Around} {E : Value → Shared → Prop} {s : Shared} {env : Env} {a L : Addr} {B : Heap} {l : List Env} {Z : Obj → Prop} {Q : Flow → Shared → Prop} {pos : Pos} (hh : A.handled = some (.ref a)) (hf : env.frame = some L)
    (fl : HandSPX.FlyingZ B l a Z s.heap) (h : ∀ h', HandSPX.HeldZ B l a Z L h' → s.heap.UpToSlots h' → E (.ref a) { s with heap := h' }) : wpAny (model prog w) A (execs [.Raise none none pos] env) Q E s := by
  obtain ⟨k1, k2, k3, oe, vs, T, oT, ts', he, hz, hd, h1, hr⟩ := id fl
  refine wpAny_execs_cons ?_
  show wpAny _ _ (do standAt pos; raiseStmt env none none) _ _ _
  refine wpAny_bind (wpAny_standAt ?_)
  unfold raiseStmt
  dsimp only
  refine wpAny_bind (wpAny_handled ?_)
  rw [hh]
  dsimp only
  refine wpAny_bind (wpAny_rule ?_)
  refine wpAny_bind (wpAny_field he hd h1 ?_)
  rw [if_neg (show ¬ ((Value.ref T == Value.none) = true) from by simp)]
  have fin : wpAny (model prog w) A (setFlight (.ref a) env.frame) (fun _ s4 => wpAny (model prog w) A (throw (.ref a) : Sem Flow) (fun f s' => match f with | .next => wpAny (model prog w) A (execs [] env) Q E s' | f => Q f s') E s4) E s := by
    rw [hf]
    exact HandSPX.setFlight_upZ fl fun h' hh' up' => wpAny_throw (h h' hh' up')
  first
  | exact wpAny_bind fin
  | exact wpAny_bind (wpAny_pure (wpAny_bind fin))
abbrev noEnds : Ends := { nx := fun _ _ => False, rt := fun _ _ => False, bk := fun _ _ => False, ct := fun _ _ => False }
/-- the context of a suite with a wish of its own -/
abbrev suiteE (X : Cx) (a : Addr) (pn : List (Addr × Obj)) (xs : Value → Shared → Prop) : Cx := { X with A := X.A.mark (some (.ref a)), calm := false, pn := pn, xe := xs }
/-- wishes: what the second clause passes on; what the third turns into another -/
def w2 (K : PySem.W.Frag) (c1 c2 : Value) (Wout : WX) : WX := fun cls d σ H => PySem.W.exmOne K cls c1 = some false ∧ PySem.W.exmOne K cls c2 = some true ∧ Wout cls d σ H
def w3 (K : PySem.W.Frag) (Pc : Value → Prop) (c1 c2 c3 : Value) (i : Nat) (ts : Addr → Value → Option Addr → TS) : WX := fun cls d σ H =>
  Pc cls ∧ PySem.W.exmOne K cls c1 = some false ∧ PySem.W.exmOne K cls c2 = some false ∧ PySem.W.exmOne K cls c3 = some true ∧ ∀ a, H a = none → ts a cls d noEnds (σ.set i (some (.ref a))) H
section
variable {X : Cx} {x1 x2 x3 n : Str} {c1 c2 c3 : Value} {i : Nat} {body suite : List Stmt} {b₀ : Stmt} {n1 n2 n3 q1 q2 p1 p2 p3 pos : Pos} {tb : WX → TS} {ts : Addr → Value → Option Addr → TS} {Wout : WX}
theorem ps_try_exec {Pc : Value → Prop} (hs : X.stack = X.env :: X.outer) (hf : X.env.frame = some X.env.locals) (hN : X.N.Nodup) (hi : X.N[i]? = some n) (hln : X.env.kindOf n = some .local) (hc1 : Names X x1 c1) (hc2 : Names X x2 c2) (hc3 : Names X x3 c3)
    (hpa : ∀ hd : Option Value, PassesOwnAt (model X.prog X.w) (X.A.mark hd) X.A X.env X.xe) (tk : L2.Takes X Wout)
    (hb : ∀ (W : WX) (pn : List (Addr × Obj)) (xe : Value → Shared → Prop), L2N.Takes (X.tr pn xe) W → L2.Takes (X.tr pn xe) (w2 X.K c1 c2 Wout) → PassesOwn (model X.prog X.w) X.A X.env xe → PSs (X.tr pn xe) body (tb W))
    (hsu : ∀ (a : Addr) (oe : Obj) (cls : Value) (d : Option Addr) (pn : List (Addr × Obj)) (xs : Value → Shared → Prop), L2N.Zn cls d oe → Pc cls → L2.Takes (suiteE X a ((a, oe) :: pn) xs) (fun cls d σ H => Wout cls d (σ.set i none) H) →
      L2H.Hot1 (X.A.mark (some (.ref a))) (a, oe) → PSs (suiteE X a ((a, oe) :: pn) xs) (b₀ :: suite) (ts a cls d)) :
    PS X (.Try body [.ExceptHandler (some (.Name x1 n1)) none [.Raise none none q1] p1, .ExceptHandler (some (.Name x2 n2)) none [.Raise none none q2] p2, .ExceptHandler (some (.Name x3 n3)) (some n) (b₀ :: suite) p3] [] [] pos)
      (fun D σ H => tb (w3 X.K Pc c1 c2 c3 i ts) D σ H) := by
  refine ⟨fun pins s σ H D I h => ?_⟩
  have ok := I.ok
  have hfr : X.A.frames = some (X.env :: X.outer) := by rw [ok.frames, hs]
  have hloc : Loc X.env.scope n := .inl hln
  have hLm : X.env.locals ∈ frs X.stack := List.mem_filterMap.mpr ⟨X.env, by rw [hs]; exact List.mem_cons_self, hf⟩
  have notFr : ∀ {B h : Heap} {a : Addr} {o : Obj} {vs : Array Value}, h.FunFrames B (X.env :: X.outer) → h.get? a = some o → o.data = .fields vs → a ∉ frs (X.env :: X.outer) := fun {B h a o vs} ff e dd hm => by
    obtain ⟨_, o', e', hnf⟩ := ff.mem hm
    rw [e] at e'; cases e'
    exact hnf _ dd
  have notL : ∀ {a : Addr}, a ∉ frs (X.env :: X.outer) → a ≠ X.env.locals ∧ a ∉ X.fs := fun {a} nfr =>
    ⟨fun z => nfr (List.mem_filterMap.mpr ⟨X.env, List.mem_cons_self, by rw [hf, z]⟩), fun hm => by
      obtain ⟨e, he, q⟩ := List.mem_filterMap.mp hm
      exact nfr (List.mem_filterMap.mpr ⟨e, List.mem_cons_of_mem _ he, q⟩)⟩
  refine wpAny_Try_except ?_
  refine wpAny_mono ((hb (w3 X.K Pc c1 c2 c3 i ts) (X.pn ++ pins) _ (fun u s' xx => ?_) (fun u s' xx => ?_) PassesOwn.looking).run [] s σ H D (I.toTry _) h) (fun f s1 hsp => ?_) (fun e s1 he => he)
  · -- the third clause
    obtain ⟨a, B, sI, pins', σ', H', cls, d, rfl, J', nb, up, sky, na, os, ag, hpc, hb1, hb2, hb3, hyes⟩ := xx
    have J : Inv X pins σ' H' sI := J'.ofTry ok
    have sky' : Sky B (X.env :: X.outer) a (L2N.Zn cls d) X.env.locals s'.heap := by rw [← hs]; exact sky
    show wpAny (model X.prog X.w) X.A (noteFrame (.ref a) X.env) _ _ _
    refine L2N.Sky.land L2N.Zn.steady hfr hf sky' fun h3 fl3 up3 => ?_
    have J3 : Inv X pins σ' H' { s' with heap := h3 } := J.landed nb fl3.1 (up.trans up3) os ag
    obtain ⟨oe3, vs3, he3, hz3, hd3⟩ := fl3.there
    obtain ⟨nL, nF⟩ := notL (notFr fl3.2.2.1 he3 hd3)
    have S3 := J3.suite he3 hd3 na nL nF
    refine clause_at S3 hc1 hz3.1 hb1 (clause_at S3 hc2 hz3.1 hb2 (clause_at S3 hc3 hz3.1 hb3 ?_))
    refine codeAny_handlers_suite_as ?_
    refine HandSPX.lands_againZ fl3 fun h4 fl4 up4 => ?_
    have J4 : Inv X pins σ' H' { s' with heap := h4 } := J.landed nb fl4.1 ((up.trans up3).trans up4) os ag
    obtain ⟨oe4, vs4, he4, hz4, hd4⟩ := fl4.there
    have S4 := J4.suite he4 hd4 na nL nF
    refine store_ok (X := X.suite a ((a, oe4) :: (X.pn ++ pins))) (v := .ref a) S4 hN hi hloc rfl (fun s5 S5 => ?_) (.inr hln)
    have hot : L2H.Hot1 (X.A.mark (some (.ref a))) (a, oe4) := ⟨rfl, vs4, hd4, hz4.2.2 vs4 hd4⟩
    have S5' : ∀ xs, Inv (suiteE X a ((a, oe4) :: (X.pn ++ pins)) xs) [] (σ'.set i (some (.ref a))) H' s5 := fun xs => Inv.unwish (X := suiteE X a ((a, oe4) :: (X.pn ++ pins)) xs) (E := fun _ _ => False) S5
    refine wpAny_mono ((hsu a oe4 cls d (X.pn ++ pins) _ hz4 hpc (fun u2 s2 x2 => ?_) hot).run [] s5 _ H' _ (S5' _) (hyes a na)) (fun f s6 hsp => ?_) (fun e6 s6 z => z)
    · obtain ⟨a2, B2, sI2, pn2, σ2, H2, cls2, d2, rfl, I2, nb2, up2, sky2, na2, os2, ag2, w2⟩ := x2
      have J2 : Inv X pins σ2 H2 sI2 := Inv.unsuite (X := X) (a := a) (q := (a, oe4)) (pn' := pn2) (Inv.wish I2 (fun _ _ => False)) ok
      have sky2' : Sky B2 (X.env :: X.outer) a2 (Zc cls2 d2) X.env.locals s2.heap := by rw [← hs]; exact sky2
      have hfrA : (X.A.mark (some (.ref a))).frames = some (X.env :: X.outer) := hfr
      have fin : ∀ h7, HandSPX.HeldZ B2 (X.env :: X.outer) a2 (Zc cls2 d2) X.env.locals h7 → s2.heap.UpToSlots h7 →
          wpAny (model X.prog X.w) (X.A.mark (some (.ref a))) (do bindName X.env n .none; unbindBehindTheSuite X.env n p3)
            (fun _ s8 => wpAny (model X.prog X.w) (X.A.mark (some (.ref a))) (passOn "try.except-as" (.ref a2) X.env : Sem Flow) (fun _ _ => False) (notedBy (model X.prog X.w) (X.A.mark (some (.ref a))) X.env fun x s' => cameBackBy (model X.prog X.w) X.A X.env X.xe x s') s8)
            (fun y s8 => wpAny (model X.prog X.w) (X.A.mark (some (.ref a))) (setFlight (.ref a2) none) (fun _ s9 => (notedBy (model X.prog X.w) (X.A.mark (some (.ref a))) X.env fun x s' => cameBackBy (model X.prog X.w) X.A X.env X.xe x s') y s9) (notedBy (model X.prog X.w) (X.A.mark (some (.ref a))) X.env fun x s' => cameBackBy (model X.prog X.w) X.A X.env X.xe x s') s8) { s2 with heap := h7 } := by
        intro h7 hh7 up7
        have J7 : Inv X pins σ2 H2 { s2 with heap := h7 } := J2.landed nb2 hh7.1 (up2.trans up7) os2 ag2
        refine gone_sub J7 J2 (fun b o e hb => hh7.1 b o (nb2 b o e hb)) hLm hN hi hln fun s8 sJ JJ same ff sub nbJ os8 osJ gens8 => ?_
        obtain ⟨k1, k2, k3, oe, vs, T, oT, ts', he, hz, hd, h1, hnT, hTe, hT, hdT, h3'⟩ := hh7
        have k3' : h7.FunFrames B2 X.stack := by rw [hs]; exact k3
        have st8 : B2.StaysIn s8.heap := fun b o e => by
          have nb : b ≠ X.env.locals := fun z => by
            have q := (k3'.mem hLm).1
            rw [← z, e] at q
            cases q
          exact (same b nb).trans (k1 b o e)
        have ff8 : s8.heap.FunFrames B2 X.stack := funFrames_none ff fun b hm => (k3'.mem hm).1
        have he8 : s8.heap.get? a2 = some oe := (same a2 (notL (notFr k3 he hd)).1).trans he
        have hT8 : s8.heap.get? T = some oT := (same T (notL (notFr k3 hT hdT)).1).trans hT
        unfold PySem.passOn
        refine wpAny_bind (wpAny_field he8 hd h1 ?_)
        rw [if_neg (show ¬ ((Value.ref T == Value.none) = true) from by simp)]
        have fin2 : wpAny (model X.prog X.w) (X.A.mark (some (.ref a))) (setFlight (.ref a2) X.env.frame) (fun _ s9 => wpAny (model X.prog X.w) (X.A.mark (some (.ref a))) (throw (.ref a2) : Sem Flow) (fun _ _ => False) (notedBy (model X.prog X.w) (X.A.mark (some (.ref a))) X.env fun x s' => cameBackBy (model X.prog X.w) X.A X.env X.xe x s') s9) (notedBy (model X.prog X.w) (X.A.mark (some (.ref a))) X.env fun x s' => cameBackBy (model X.prog X.w) X.A X.env X.xe x s') s8 := by
          rw [hf]
          refine HandSPX.setFlight_anyZ (fr := some X.env.locals) st8 ff8 ⟨oe, vs, T, oT, ts', he8, hz, hd, h1, hnT, hTe, hT8, hdT, h3'⟩ fun h9 z1 z2 z3 z4 => wpAny_throw (hpa (some (.ref a)) _ _ (tk _ _ ?_))
          exact ⟨a2, B2, sJ, pins, σ2.set i none, H2, cls2, d2, rfl, JJ, fun b o e hb => nb2 b o (nbJ b o e hb) hb, (Heap.UpToSlots.of_keeps sub).trans z4, .inr (.inr ⟨z1, k2, z2, z3⟩), na2, os8.trans osJ.symm, gens8 ▸ ag2, w2⟩
        first
        | exact wpAny_bind fin2
        | exact wpAny_bind (wpAny_pure (wpAny_bind fin2))
      rcases sky2' with ⟨hB, hn, hl, oe, vs, he, hz, hd, h1⟩ | fl | hh
      · exact HandSPX.look_newZ Zc.steady hfrA hl hf he hB hn hd h1 hz fin
      · exact HandSPX.looks_onZ Zc.steady hfrA hf fl fin
      · exact HandSPX.againZ hf hh.2.2.2 (fin s2.heap hh (Heap.UpToSlots.refl _))
    · cases f with
      | next =>
        obtain ⟨_, _, _, z⟩ := hsp
        exact z.elim
      | brk =>
        obtain ⟨_, _, _, z⟩ := hsp
        exact z.elim
      | cont =>
        obtain ⟨_, _, _, z⟩ := hsp
        exact z.elim
      | ret u =>
        obtain ⟨_, _, _, _, _, z⟩ := hsp
        exact z.elim
  · -- the second
    obtain ⟨a, B, sI, pins', σ', H', cls, d, rfl, J', nb, up, sky, na, os, ag, hb1, hb2, hw⟩ := xx
    have J : Inv X pins σ' H' sI := J'.ofTry ok
    have sky' : Sky B (X.env :: X.outer) a (Zc cls d) X.env.locals s'.heap := by rw [← hs]; exact sky
    show wpAny (model X.prog X.w) X.A (noteFrame (.ref a) X.env) _ _ _
    refine L2.Sky.land Zc.steady hfr hf sky' fun h3 fl3 up3 => ?_
    have J3 : Inv X pins σ' H' { s' with heap := h3 } := J.landed nb fl3.1 (up.trans up3) os ag
    obtain ⟨oe3, vs3, he3, hz3, hd3⟩ := fl3.there
    obtain ⟨nL, nF⟩ := notL (notFr fl3.2.2.1 he3 hd3)
    have S3 := J3.suite he3 hd3 na nL nF
    refine clause_at S3 hc1 hz3.1 hb1 (clause_at S3 hc2 hz3.1 hb2 (codeAny_handlers_suite ?_))
    refine HandSPX.lands_againZ fl3 fun h4 fl4 up4 => ?_
    refine bare_again (L := X.env.locals) rfl hf fl4 fun h5 hh5 up5 => ?_
    refine hpa (some (.ref a)) _ _ (tk _ _ ?_)
    exact ⟨a, B, sI, pins, σ', H', cls, d, rfl, J, nb, ((up.trans up3).trans up4).trans up5, .inr (.inr (by rw [hs]; exact hh5)), na, os, ag, hw⟩
  · cases f with
    | next =>
      obtain ⟨σ', H', J', q⟩ := hsp
      exact wpAny_execs_nil ⟨σ', H', J'.ofTry ok, q⟩
    | brk =>
      obtain ⟨σ', H', J', q⟩ := hsp
      exact ⟨σ', H', J'.ofTry ok, q⟩
    | cont =>
      obtain ⟨σ', H', J', q⟩ := hsp
      exact ⟨σ', H', J'.ofTry ok, q⟩
    | ret u =>
      obtain ⟨v, σ', H', J', r, q⟩ := hsp
      exact ⟨v, σ', H', J'.ofTry ok, r, q⟩
end
end K6
set_option Elab.async false
set_option linter.all false
set_option maxRecDepth 100000
set_option maxHeartbeats 2000000
/-! K68View: x in KINDS.values() -/
namespace K6
open PySem PySem.Spec PyProof.Rows L2
theorem entry_ci : entryFor table "proto.contains_iter" = some Builtin.«proto.contains_iter» := entryFor_of_fast (by kernel_rfl)
theorem plain_ci : plainId "proto.contains_iter" = true := by decide +kernel
theorem nocont_vals : typeLookup (.type "dict_values") "__contains__" = pure none := by rw [typeLookup_type, builtinLookup_eq_fast]; kernel_rfl
theorem keys_pairs {prog : Program} {w : World} : ∀ {es : List DictEntry} {ks : List Str} {vs : List Value}, PySem.W.KeysLit w.params es → keysL es ks = true → es.map (fun e => e.val) = vs →
    Pairs (strKind prog w) es (ks.zip vs)
  | [], [], _, _, _, h => by cases h; exact .nil
  | [], _ :: _, _, _, h, _ => by cases h
  | _ :: _, [], _, _, h, _ => by cases h
  | e :: es, k :: ks, vs, ⟨⟨x, t, e1, e2⟩, hk⟩, h, hv => by
    cases hv
    obtain ⟨h1, h2⟩ := Bool.and_eq_true_iff.mp h
    refine .cons ?_ rfl (keys_pairs hk h2 rfl)
    rw [e1] at h1 ⊢
    have q : x = k := by
      have z := PySem.W.isStr_of k (.str x t)
      rw [h1] at z
      first
      | exact (of_decide_eq_true z.symm).symm
      | exact of_decide_eq_true z.symm
      | exact eq_of_beq z.symm
      | exact (eq_of_beq z.symm).symm
    subst q
    exact strKind_is prog w x t
theorem kinds_dict {P : Program} {w : World} {K : PySem.W.Frag} {mg : Str → Option Value} (T : Tx w K mg) {h : Heap} (hk : K.In h) : ∃ ep, h.DictAt (strKind P w) (ga K "KINDS")
    [("required", .ref (dAt K "KINDS" "required")), ("requisite", .ref (dAt K "KINDS" "requisite")), ("sufficient", .ref (dAt K "KINDS" "sufficient")), ("optional", .ref (dAt K "KINDS" "optional"))] ep ∧ ((ga K "KINDS") == sysModules) = false := by
  obtain ⟨es, n, D⟩ := T.kinds
  have kv := T.kindVals D.at_
  have kk := T.kindKeys D.at_
  refine ⟨n, ⟨_, es, hk _ _ D.at_, ⟨rfl, rfl, rfl⟩, rfl, fun e he => ?_, keys_pairs D.lit kk kv, show (["required", "requisite", "sufficient", "optional"] : List Str).Nodup by decide +kernel⟩, D.low⟩
  obtain ⟨x, t, e1, e2⟩ := D.lit.all e (Array.mem_toList_iff.mpr he)
  exact ⟨x, by rw [e1]; exact strKind_is P w x t, e2⟩
section
variable {X : Cx} {pins : List (Addr × Obj)} {σ : L2.St} {H : Hp} {it d : Addr} {ep : Nat} {kvs : List (Str × Value)} {x : V} {xd : PyData} {u : Value}
/-- no value of the view is equal -/
theorem ci_loop (hA : X.A.handled = none) (hu : X.A.units + 64 < cLine) (rx : RelV x u) (hx : Dp X.K H x xd) (cx : xd.canLay0 = true) (hn : H it = none) (hL : it ≠ X.env.locals) (h1 : X.s_0.heap.objs.size ≤ it) (h2 : ∀ x c, X.env.cells.lookup x = some c → c ≠ it) (h3 : ∀ p ∈ X.pn ++ pins, p.1 ≠ it)
    (hdict : ∀ h : Heap, X.K.In h → h.DictAt (strKind X.prog X.w) d kvs ep) (hv : ∀ (i : Nat) (k : Str) (v : Value), kvs[i]? = some (k, v) → ∃ y yd, RelV y v ∧ Dp X.K H y yd ∧ yd.canLay0 = true ∧ yd.depth ≤ 8 ∧ PyData.eqv yd xd = false) {R : Result → Shared → Prop} (hR : ∀ s', Inv X pins σ H s' → R (.ok (.ret (.bool false))) s') :
    ∀ (k i : Nat) (s : Shared), kvs.length - i = k → Inv X pins σ H s → s.heap.IsValIter it d i kvs.length ep →
      codeAny (model X.prog X.w) X.A (.builtin "proto.contains_iter" ⟨[.ref it, u], []⟩) R s := by
  have hA1 : X.A.in1.handled = none := hA
  have but : ∀ {s : Shared} {h' : Heap}, Inv X pins σ H s → Heap.SameBut it s.heap h' → Inv X pins σ H { s with heap := h' } := fun {s h'} I sb =>
    I.turned (t' := s.toks) (fun b o hb e => (sb.2 b hb).trans e) hn hL (.inr h1) h2 h3
  intro k
  induction k with
  | zero =>
    intro i s hk I st
    refine codeAny_builtin entry_ci ?_
    rw [Around.under_plainId plain_ci _]
    show wpAny _ _ (pyNext (.ref it) >>= _) _ _ _
    refine wpAny_bind (wpAny_pyNext_values_end hA1 st (hdict _ I.kIn) (List.getElem?_eq_none (by omega)) fun h' ex => ?_)
    have I' : Inv X pins σ H { s with heap := h' } := I.turned (t' := s.toks) (fun b o hb e => ex b o hb e) hn hL (.inr h1) h2 h3
    exact wpAny_bind (wpAny_rule (wpAny_pure (hR _ I')))
  | succ k ih =>
    intro i s hk I st
    obtain ⟨⟨ki, v⟩, hi⟩ : ∃ p, kvs[i]? = some p := ⟨kvs[i]'(by omega), List.getElem?_eq_getElem (by omega)⟩
    obtain ⟨y, yd, ry, hy, cy, dy, ne⟩ := hv i ki v hi
    refine codeAny_builtin entry_ci ?_
    rw [Around.under_plainId plain_ci _]
    show wpAny _ _ (pyNext (.ref it) >>= _) _ _ _
    refine wpAny_bind (wpAny_pyNext_values_item st (hdict _ I.kIn) hi fun h' st' sb => ?_)
    have I' := but I sb
    obtain ⟨as, r1⟩ := Dp.reads I' yd y v hy ry
    obtain ⟨bs, r2⟩ := Dp.reads I' xd x u hx rx
    have q := SeqAt.eqAt_reads yd xd X.A.in1 { s with heap := h' } v u as bs r1 r2 cy cx (by
      have : min yd.depth xd.depth ≤ 8 := Nat.le_trans (Nat.min_le_left _ _) dy
      show X.A.units + 1 + min yd.depth xd.depth < cLine
      omega)
    rw [ne] at q
    refine wpAny_bind (q X.prog X.w _ _ ?_)
    exact wpAny_pure ⟨plainId_quiet plain_ci _, ih (i + 1) { s with heap := h' } (by omega) I' st'⟩
end
section
variable {X : Cx} {a o : Expr} {ta to : TE} {apos cpos pos : Pos}
def tInVals (K : PySem.W.Frag) (ta to : TE) : TE := fun σ H Q => ta σ H fun x H1 => to σ H1 fun y H2 => y = .ref (ga K "KINDS") ∧ ∃ xd, Dp K H2 x xd ∧ xd.canLay0 = true ∧ (∀ c : K68.Ct, c ≠ .mix → PyData.eqv (.tuple (actsD c)) xd = false) ∧ Q (.bl false) H2
theorem inVals_run {pins : List (Addr × Obj)} {s : Shared} {σ : L2.St} {H : Hp} {Q : VK} (T : Tx X.w X.K X.mg) (hc : X.calm = true) (hu : X.A.units + 64 < cLine) (ha : PE X a ta) (ho : PE X o to)
    (hbase : attributeBase o "values" X.env (eval o X.env) = eval o X.env) (hline : (apos.endLine == cpos.line) = true) (I : Inv X pins σ H s) (h : tInVals X.K ta to σ H Q) :
    wpAny (model X.prog X.w) X.A (eval a X.env) (fun u s1 => wpAny (model X.prog X.w) X.A (eval (.Call (.Attribute o "values" apos) [] [] cpos) X.env) (fun v s2 => wpAny (model X.prog X.w) X.A (compareOp .In u v) (EP X pins σ Q) X.xe s2) X.xe s1) X.xe s := by
  refine thn (ha.run pins s σ H _ I h) fun u s1 ⟨x, H1, I1, rx, h1⟩ => ?_
  refine wpAny_Call_method (T := "dict") (id := "dict.values") hbase rfl hline F.plainAttrs_dict F.slot_dict_values F.type_dict_values (thn (ho.run pins s1 σ H1 _ I1 h1) fun v s2 ⟨y, H2, I2, ry, ey, xd, hx, cx, ne, q⟩ => ?_)
  subst ey
  obtain rfl : v = Value.ref (ga X.K "KINDS") := ry
  obtain ⟨ep, hm2, hs⟩ := kinds_dict (P := X.prog) T I2.kIn
  refine ⟨hm2.dictOf.typeIs, hm2.dictOf.mapOf.noDict, ?_⟩
  show wpAny _ _ (callWith cpos (.builtin "dict.values") [.ref (ga X.K "KINDS")] [] []) _ X.xe s2
  refine method_meetsIn F.slot_dict_values F.entry_dict_values rfl (PySem.evalArgs_none ⟨rfl, hm2.dictOf.typeIs, F.args_dict_values_1 _, _, meets_dict_values (strKind X.prog X.w) _ hs, ⟨_, hm2.dictOf⟩, ?_⟩)
  obtain ⟨s3, e3⟩ : ∃ s3 : Shared, s3 = { s2 with heap := s2.heap.push { cls := .type "dict_values", data := .fields #[.ref (ga X.K "KINDS")] } } := ⟨_, rfl⟩
  have I3 : Inv X pins σ H2 s3 := by
    rw [e3]
    exact I2.kept (t' := s2.toks) fun b ob q => Heap.get?_push_of_some _ q
  have hv : s3.heap.IsValuesView s2.heap.objs.size (ga X.K "KINDS") := by
    rw [e3]
    exact ⟨_, Heap.get?_push_size _ rfl, rfl, rfl⟩
  show wpAny (model X.prog X.w) X.A (compareOp .In u (.ref s2.heap.objs.size)) (EP X pins σ Q) X.xe { s2 with heap := s2.heap.push { cls := .type "dict_values", data := .fields #[.ref (ga X.K "KINDS")] } }
  rw [← e3]
  generalize s2.heap.objs.size = vw at hv
  obtain ⟨ep3, hm3, _⟩ := kinds_dict (P := X.prog) T I3.kIn
  unfold compareOp contains
  refine wpAny_bind (wpAny_holding ?_)
  have hst : stdlibNamesSay? (.ref vw) u = none := rfl
  simp only [hst]
  refine wpAny_bind (wpAny_specialOf hv.typeIs nocont_vals ?_)
  rw [if_neg (by decide)]
  refine wpAny_bind (wpAny_callSpecialUnlessNone?_none hv.typeIs nocont_vals ?_)
  dsimp only
  refine wpAny_bind (wpAny_rule ?_)
  refine wpAny_bind (wpAny_tryCatch (wpAny_pyIter_values hv hm3 ?_))
  have I4 : Inv X pins σ H2 { s3 with heap := s3.heap.push { cls := .type "dict_valueiterator", data := .fields #[.ref (ga X.K "KINDS"), .int 0 0, .int 4 0, .int ep3 0] } } := I3.kept (t' := s3.toks) fun b ob q => Heap.get?_push_of_some _ q
  have old : ∀ {b : Addr} {ob : Obj}, s3.heap.get? b = some ob → b ≠ s3.heap.objs.size := fun e => Nat.ne_of_lt (Heap.lt_size e)
  have kd : ∀ c : K68.Ct, PyData.canLay0 (.tuple (actsD c)) = true := fun c => by cases c <;> decide +kernel
  have kq : ∀ c : K68.Ct, PyData.depth (.tuple (actsD c)) ≤ 8 := fun c => by cases c <;> decide +kernel
  refine wpAny_bind (wpAny_runValue (ci_loop (ep := ep3) (kvs := [("required", .ref (dAt X.K "KINDS" "required")), ("requisite", .ref (dAt X.K "KINDS" "requisite")), ("sufficient", .ref (dAt X.K "KINDS" "sufficient")), ("optional", .ref (dAt X.K "KINDS" "optional"))])
    (I4.ok.hd hc) hu rx hx cx (I3.hok.fresh (Nat.le_refl _)) ?_ I3.sz (fun x c e => ?_) (fun p hp => ?_) (fun h hk => ?_) (fun i k v hi => ?_) (fun s' I' => ?_) 4 0 _ rfl I4 ⟨_, Heap.get?_push_size _ rfl, rfl, rfl⟩))
  · exact fun z => Nat.lt_irrefl _ (z ▸ I3.lt)
  · obtain ⟨u0, ob, e1, _⟩ := I3.cell x c e
    exact old e1
  · exact old (I3.pin p hp).1
  · obtain ⟨ep', hm', _⟩ := kinds_dict (P := X.prog) T hk
    obtain ⟨o1, es1, a1, a2, a3, a4⟩ := hm'
    obtain ⟨o2, es2, b1, b2, b3, b4⟩ := hm3
    obtain ⟨es, n, D⟩ := T.kinds
    have z1 := hk _ _ D.at_
    have z2 := I3.kIn _ _ D.at_
    rw [z1] at a1
    rw [z2] at b1
    cases a1
    cases b1
    cases a3
    cases b3
    exact ⟨_, _, z1, a2, rfl, a4⟩
  · have val : ∀ c : K68.Ct, c ≠ .mix → ∀ {ad : Addr}, (∀ H, SqT X.K H ad (actsV c)) → ∃ y yd, RelV y (.ref ad) ∧ Dp X.K H2 y yd ∧ yd.canLay0 = true ∧ yd.depth ≤ 8 ∧ PyData.eqv yd xd = false := fun c hc ad hq =>
      ⟨.ref ad, .tuple (actsD c), rfl, .tup (hq H2) (actsDp c), kd c, kq c, ne c hc⟩
    rcases i with _ | _ | _ | _ | i
    · cases hi; exact val .req (by decide) T.k_required.2
    · cases hi; exact val .rqs (by decide) T.k_requisite.2
    · cases hi; exact val .suf (by decide) T.k_sufficient.2
    · cases hi; exact val .opt (by decide) T.k_optional.2
    · cases hi
  · refine wpAny_pure (wpAny_pure ⟨.bl false, H2, I', rfl, q⟩)
/-- x in KINDS.values(), as a test -/
theorem pt_inVals (T : Tx X.w X.K X.mg) (hc : X.calm = true) (hu : X.A.units + 64 < cLine) (ha : PE X a ta) (ho : PE X o to)
    (hbase : attributeBase o "values" X.env (eval o X.env) = eval o X.env := by rfl) (hline : (apos.endLine == cpos.line) = true := by rfl) (hm : behindInMarks .In (.Call (.Attribute o "values" apos) [] [] cpos) = false := by rfl) :
    PT X (.Compare a [.In] [.Call (.Attribute o "values" apos) [] [] cpos] pos) (tTest (tInVals X.K ta to)) := by
  refine ⟨fun pins s σ H Q I h => ?_⟩
  refine wpAny_isTrue_Compare1 (thn (inVals_run T hc hu ha ho hbase hline I h) fun u s1 h1 => thn h1 fun v s2 h2 => thn h2 fun c s3 ⟨z, H3, I3, r3, k, e, q3⟩ => ?_) hm
  subst e
  cases r3
  exact wpAny_truthy_bool ⟨H3, I3, q3⟩
end
end K6
set_option Elab.async false
set_option linter.all false
set_option maxRecDepth 100000
set_option maxHeartbeats 2000000
/-! K68Read: read_action, read_control, is_index, is_control, is_result, is_outcome -/
namespace K6
open PySem PySem.Spec PyProof.Rows L2
/-- the word of an action -/
def acW : K68.Ac → Str
  | .ok => "ok" | .bad => "bad" | .die => "die" | .done => "done" | .ign => "ignore" | .jmp => "1"
section
variable {P : Program} {w : World} {K : PySem.W.Frag} {mg : Str → Option Value} {base : Heap}
def spReadAct : Sp := fun vs H Q _ => ∃ a : K68.Ac, vs = [.str (acW a)] ∧ Q (acV a) H
theorem ok_readAct (T : Tx w K mg) : Gd P w K mg base CX0 1 "read_action" spReadAct := by
  refine ⟨T.d_readAct.r sc_readAct bi_readAct (fun vs H Q E h => ?_) (fun cdv A outer s H vs Q E hr h => ?_), T.f_readAct, T.d_readAct.kp⟩
  · obtain ⟨a, rfl, _⟩ := h
    rfl
  obtain ⟨a, rfl, q⟩ := h
  refine ⟨_, pss_cons (ps_if (pt_cmpR op_in_seq (pv 0) (kr T.g_ACTIONS) (by rfl)) (pss_one (ps_ret (pv 0))) pss_nil)
    (pss_one (ps_ret (pe_ifExp (PW.pt (pw_and (pt_cmpR op_eq (pe_callB call_len_str (by rfl) T.b_len (by decide +kernel) (pa_cons (pv 0) pa_nil)) pe_int (nomark _)) (pw_and1 (pt_cmpR op_in_sign (pv 0) (ks T.s_JUMPS) (by rfl)))))
      (pe_callTy call_int_str (by rfl) T.b_int (by decide +kernel) (pa_cons (pv 0) pa_nil)) pe_non))), ?_⟩
  refine ⟨_, rfl, _, _, rfl, .inr (T.tACT _), ?_⟩
  cases a with
  | jmp =>
    refine ⟨rfl, rfl, false, rfl, if_ rfl ?_⟩
    refine ⟨_, rfl, _, rfl, by decide, rfl, true, rfl, it rfl ?_⟩
    refine ⟨_, rfl, 49, _, rfl, rfl, true, rfl, it rfl ?_⟩
    exact ⟨_, rfl, _, 1, rfl, by decide +kernel, by decide +kernel, q⟩
  | ok => exact ⟨rfl, rfl, true, rfl, it rfl ⟨_, rfl, q⟩⟩
  | bad => exact ⟨rfl, rfl, true, rfl, it rfl ⟨_, rfl, q⟩⟩
  | die => exact ⟨rfl, rfl, true, rfl, it rfl ⟨_, rfl, q⟩⟩
  | done => exact ⟨rfl, rfl, true, rfl, it rfl ⟨_, rfl, q⟩⟩
  | ign => exact ⟨rfl, rfl, true, rfl, it rfl ⟨_, rfl, q⟩⟩
theorem split_mix : Txt.split "1,ok,bad,die" "," = (["1", "ok", "bad", "die"] : List Str) := by decide +kernel
theorem mix_ne : ∀ c : K68.Ct, c ≠ .mix → PyData.eqv (.tuple (actsD c)) (.tuple (actsD .mix)) = false := by
  intro c h
  cases c
  · decide +kernel
  · decide +kernel
  · decide +kernel
  · decide +kernel
  · exact absurd rfl h
theorem kinds_in (T : Tx w K mg) {c : K68.Ct} (h : c ≠ .mix) : ∃ v, PySem.W.nsIn K (ga K "KINDS") (ctS c) = some (some v) := by
  cases c with
  | req => exact ⟨_, T.k_required.1⟩
  | rqs => exact ⟨_, T.k_requisite.1⟩
  | suf => exact ⟨_, T.k_sufficient.1⟩
  | opt => exact ⟨_, T.k_optional.1⟩
  | mix => exact absurd rfl h
def spReadCtl : Sp := fun vs H Q _ => ∃ c, vs = [.str (ctS c)] ∧ ∀ v H', Same H H' → CtlV H' c v → Q v H'
def mixA : List K68.Ac := [.jmp, .ok, .bad, .die]
theorem ok_readCtl (T : Tx w K mg) : Gd P w K mg base CX0 2 "read_control" spReadCtl := by
  refine ⟨T.d_readCtl.r sc_readCtl bi_readCtl (fun vs H Q E h => ?_) (fun cdv A outer s H vs Q E hr h => ?_), T.f_readCtl, T.d_readCtl.kp⟩
  · obtain ⟨a, rfl, _⟩ := h
    rfl
  obtain ⟨c, rfl, q⟩ := h
  obtain ⟨es, n, D⟩ := T.kinds
  have hu := hr.units
  refine ⟨_, pss_cons (ps_if (pt_cmpR (op_in_kd D) (pv 0) (kr T.g_KINDS) (by rfl)) (pss_one (ps_ret (pv 0))) pss_nil)
    (pss_cons (ps_set (i := 1) sc_readCtl.nd rfl (.inl rfl) (pe_callTy call_tuple_of (by rfl) T.b_tuple (by decide +kernel) (pa_cons
        (pe_lc (own := [("part", 2)]) (g := gName 2) (tt := tYes) rfl sc_readCtl.nd (pi_list (pe_split (pv 0) pe_str)) (blkOk_by (N := ["word", "actions", "part"]) (sc := defScope s_readCtl) (by decide +kernel))
          (fun _ _ _ _ _ => pg_name (i := 2) sc_readCtl.nd rfl (Or.inl rfl)) (fun _ _ _ _ _ => pts_nil) (fun _ _ _ _ _ => gd (ok_readAct T) hr (by decide) pass0 (pa_cons (pv 2) pa_nil))) pa_nil)))
    (pss_cons (ps_if (PW.pt (pw_or (pt_cmpR op_ne (pe_callB call_len (by rfl) T.b_len (by decide +kernel) (pa_cons (pv 1) pa_nil)) (pe_callB call_len (by rfl) T.b_len (by decide +kernel) (pa_cons (kr T.g_RESULTS) pa_nil)) (nomark _))
        (pw_or (pt_cmpR op_in_seq pe_non (pv 1) (by rfl)) (pw_or1 (pt_inVals T rfl hu (pv 1) (kr T.g_KINDS))))))
      (pss_one (ps_ret pe_non)) pss_nil)
    (pss_one (ps_ret (pv 1))))), ?_⟩
  by_cases hc : c = .mix
  · subst hc
    refine ⟨_, rfl, _, none, rfl, rfl, T.k_mix, false, rfl, if_ rfl ?_⟩
    refine ⟨_, rfl, ⟨_, rfl⟩, _, _, rfl, rfl, by decide, by decide, ?_⟩
    rw [show Txt.split (ctS .mix) "," = mixA.map acW from split_mix]
    intro l hl
    refine ⟨l, rfl, ⟨_, SqL.of upd_same⟩, fun D hD => ?_⟩
    refine lc_it (walk_list (xs := (mixA.map acW).map V.str)) (fun i H' => H' D = some (.lst ((mixA.take i).map acV)) ∧ (H' l = some (.lst ((mixA.map acW).map V.str))) ∧ ∀ b o, H b = some o → H' b = some o) ⟨upd_same, same_upd hD _ _ upd_same, fun b o e => same_upd hD b o (same_upd hl b o e)⟩ (fun i H' _ p => SqL.of p.2.1) (fun i x H1 H2 hi hp hy => ?_) (fun H1 hp => ?_)
    · obtain ⟨rfl, hx⟩ := hy
      obtain ⟨z, hz, rfl⟩ := List.getElem?_map .. ▸ hx |> fun z => Option.map_eq_some_iff.mp z
      obtain ⟨a, ha, rfl⟩ := List.getElem?_map .. ▸ hz |> fun z => Option.map_eq_some_iff.mp z
      refine ⟨rfl, _, rfl, a, rfl, _, hp.1, ?_, ?_, ?_, fun b o e => ?_⟩
      · rw [List.length_map]
        exact Nat.lt_of_le_of_lt (List.length_take_le _ _) (Nat.lt_of_lt_of_le hi (by decide))
      · rw [upd_same, List.take_succ, ha, List.map_append]
        rfl
      · rw [upd_ne (ne_of_none upd_same hD)]
        exact hp.2.1
      · rw [upd_ne (ne_of_none (same_upd hl b o e) hD)]
        exact hp.2.2 b o e
    · refine ⟨D, _, rfl, .inl ⟨SqL.of hp.1, fun t ht => ?_⟩⟩
      have k1 : Same H (upd H1 t (.tup ((mixA.take mixA.length).map acV))) := fun b o e => same_upd ht b o (hp.2.2 b o e)
      have ht2 : upd H1 t (.tup ((mixA.take mixA.length).map acV)) t = some (.tup (actsV .mix)) := upd_same
      refine ⟨_, rfl, _, 4, rfl, .inr ⟨_, SqT.of upd_same, rfl⟩, _, 4, rfl, .inr ⟨_, T.tRES _, rfl⟩, rfl, _, rfl, ?_⟩
      refine if_ (by rfl) ⟨_, rfl, _, _, rfl, .inr (SqT.of ht2), rfl, rfl, _, rfl, if_ (by rfl) ?_⟩
      refine ⟨_, rfl, rfl, .tuple (actsD .mix), .tup (SqT.of ht2) (actsDp _), by decide +kernel, mix_ne, false, rfl, if_ rfl ?_⟩
      exact ⟨_, rfl, q _ _ k1 (.inr ⟨rfl, t, rfl, ht2⟩)⟩
  · obtain ⟨v, hv⟩ := kinds_in T hc
    exact ⟨_, rfl, _, some v, rfl, rfl, hv, true, rfl, it rfl ⟨_, rfl, q _ H (fun _ _ e => e) (.inl ⟨hc, rfl⟩)⟩⟩
def ixW : List Str := ["0", "1", "2", "3", "99"]
def spIsIx : Sp := fun vs H Q _ => ∃ z, z ∈ ixW ∧ vs = [.str z] ∧ ∀ H', Same H H' → Q (.bl true) H'
theorem ixW_ok {z : Str} (h : z ∈ ixW) : (1 ≤ z.length ∧ z.length ≤ 2) ∧ (z.cps.toList.all fun c => decide (c ∈ ("0123456789" : Str).cps.toList)) = true ∧ (z = "0" ∨ ∃ c, atI z.cps.toList 0 = some c ∧ c ≠ 48) := by
  rcases List.mem_cons.mp h with rfl | h
  · exact ⟨by decide, by decide +kernel, .inl rfl⟩
  rcases List.mem_cons.mp h with rfl | h
  · exact ⟨by decide, by decide +kernel, .inr ⟨49, rfl, by decide⟩⟩
  rcases List.mem_cons.mp h with rfl | h
  · exact ⟨by decide, by decide +kernel, .inr ⟨50, rfl, by decide⟩⟩
  rcases List.mem_cons.mp h with rfl | h
  · exact ⟨by decide, by decide +kernel, .inr ⟨51, rfl, by decide⟩⟩
  rcases List.mem_cons.mp h with rfl | h
  · exact ⟨by decide, by decide +kernel, .inr ⟨57, rfl, by decide⟩⟩
  cases h
theorem ok_isIndex (T : Tx w K mg) : Gd P w K mg base CX0 1 "is_index" spIsIx := by
  refine ⟨T.d_isIndex.r sc_isIndex bi_isIndex (fun vs H Q E h => ?_) (fun cdv A outer s H vs Q E hr h => ?_), T.f_isIndex, T.d_isIndex.kp⟩
  · obtain ⟨a, _, rfl, _⟩ := h
    rfl
  obtain ⟨z, hz, rfl, q⟩ := h
  obtain ⟨⟨l1, l2⟩, hd, hz2⟩ := ixW_ok hz
  refine ⟨_, pss_cons (ps_if (PW.pt (pw_or (pt_not (pt_chain op_le op_le pe_int (pe_callB call_len_str (by rfl) T.b_len (by decide +kernel) (pa_cons (pv 0) pa_nil)) (ki T.i_MOST_DIGITS)))
      (pw_or1 (pt_not (pt_val (pe_callB (cr_all rfl) (by rfl) T.b_all (by decide +kernel) (pa_cons
        (pe_lc (own := [("sign", 1)]) (g := gName 1) (tt := tYes) rfl sc_isIndex.nd (pi_str (pv 0)) (blkOk_by (N := ["word", "sign"]) (sc := defScope s_isIndex) (by decide +kernel))
          (fun _ _ _ _ _ => pg_name (i := 1) sc_isIndex.nd rfl (Or.inl rfl)) (fun _ _ _ _ _ => pts_nil) (fun _ _ _ _ _ => pe_cmpR op_in_sign (pv 1) (ks T.s_DIGITS) (by rfl))) pa_nil)))))))
    (pss_one (ps_ret pe_bl)) pss_nil)
    (pss_one (ps_ret (pe_or (pe_cmpR op_eq (pv 0) pe_str (nomark _)) (pe_one (pe_cmpR op_ne (pe_ix ix_str (pv 0) pe_int (fun _ _ => rfl)) pe_str (nomark _)))))), ?_⟩
  refine ⟨_, rfl, _, rfl, Nat.le_trans l2 (by decide), _, _, rfl, rfl, true, congrArg V.bl (decide_eq_true (by omega)), it rfl ⟨_, _, rfl, rfl, true, congrArg V.bl (decide_eq_true (by omega)), if_ rfl ?_⟩⟩
  refine ⟨_, rfl, _, rfl, fun D hD => ?_⟩
  refine lc_it walk_str (fun i H' => H' D = some (.lst ((List.replicate i true).map V.bl)) ∧ ∀ b o, H b = some o → H' b = some o) ⟨upd_same, same_upd hD⟩ (fun i H' _ _ => trivial) (fun i x H1 H2 hi hp hy => ?_) (fun H1 hp => ?_)
  · obtain ⟨rfl, c, hc, rfl⟩ := hy
    refine ⟨rfl, _, rfl, c, _, rfl, rfl, ?_⟩
    rw [show decide (c ∈ ("0123456789" : Str).cps.toList) = true from List.all_eq_true.mp hd c (Array.mem_toList_iff.mpr (Array.mem_of_getElem? hc))]
    refine ⟨_, hp.1, ?_, ?_, fun b o e => ?_⟩
    · rw [List.length_map, List.length_replicate]
      have : i < 2 := Nat.lt_of_lt_of_le hi l2
      exact Nat.lt_of_lt_of_le this (by decide)
    · rw [upd_same, List.replicate_succ', List.map_append]
      rfl
    · rw [upd_ne (ne_of_none e hD)]
      exact hp.2 b o e
  · refine ⟨D, _, rfl, SqL.of hp.1, ?_⟩
    rw [all_rep]
    refine ⟨true, rfl, if_ rfl ?_⟩
    refine ⟨_, rfl, rfl, _, rfl, ?_⟩
    by_cases c0 : V.str z = V.str "0"
    · exact it (decide_eq_true c0) (q H1 hp.2)
    · refine if_ (decide_eq_false c0) ?_
      obtain ⟨c, hc, hn⟩ := hz2.resolve_left fun e => c0 (by rw [e])
      refine ⟨_, rfl, _, _, c, rfl, rfl, Nat.le_trans l2 (by decide), hc, rfl, ?_⟩
      have c1 : ¬ V.str (⟨#[c]⟩ : Str) = V.str "0" := fun e => hn (by
        have e2 : (⟨#[c]⟩ : Str) = "0" := V.str.inj e
        have e3 := congrArg (fun x : Str => x.cps.toList) e2
        have e4 : [c] = [48] := e3
        exact (List.cons.inj e4).1)
      rw [decide_eq_false c1]
      exact q H1 hp.2
end
end K6
set_option Elab.async false
set_option linter.all false
set_option maxRecDepth 100000
set_option maxHeartbeats 2000000
/-! K68Row: is_control, is_result, is_outcome, is_row -/
namespace K6
open PySem PySem.Spec PyProof.Rows L2
/-- a word that a test lets pass -/
def spW (ok : Str → Prop) : Sp := fun vs H Q _ => ∃ z, ok z ∧ vs = [.str z] ∧ ∀ H', Same H H' → Q (.bl true) H'
section
variable {P : Program} {w : World} {K : PySem.W.Frag} {mg : Str → Option Value} {base : Heap}
def okCtl (z : Str) : Prop := ∃ c, z = ctS c
def okRes (z : Str) : Prop := ∃ r, z = rsS r
def okOut (z : Str) : Prop := z = "in" ∨ z = "out"
def okWd (z : Str) : Prop := ∃ m, z = mdS m
def okIxw (z : Str) : Prop := z ∈ ixW
theorem ok_isCtl (T : Tx w K mg) : Gd P w K mg base CX0 3 "is_control" (spW okCtl) := by
  refine ⟨T.d_isCtl.r sc_isCtl bi_isCtl (fun vs H Q E h => ?_) (fun cdv A outer s H vs Q E hr h => ?_), T.f_isCtl, T.d_isCtl.kp⟩
  · obtain ⟨z, _, rfl, _⟩ := h
    rfl
  obtain ⟨z, ⟨c, rfl⟩, rfl, q⟩ := h
  refine ⟨_, pss_one (ps_ret (pe_cmpR op_notN (gd (ok_readCtl T) hr (by decide) pass0 (pa_cons (pv 0) pa_nil)) pe_non (nomark _))), ?_⟩
  refine ⟨_, rfl, c, rfl, fun v H1 k1 hv => ⟨rfl, ?_⟩⟩
  have nv : v ≠ .non := by
    rcases hv with ⟨_, rfl⟩ | ⟨_, b, rfl, _⟩
    · exact fun z => nomatch z
    · exact fun z => nomatch z
  rw [decide_eq_false nv]
  exact q H1 k1
theorem ok_isRes (T : Tx w K mg) : Gd P w K mg base CX0 1 "is_result" (spW okRes) := by
  refine ⟨T.d_isRes.r sc_isRes bi_isRes (fun vs H Q E h => ?_) (fun cdv A outer s H vs Q E hr h => ?_), T.f_isRes, T.d_isRes.kp⟩
  · obtain ⟨z, _, rfl, _⟩ := h
    rfl
  obtain ⟨z, ⟨c, rfl⟩, rfl, q⟩ := h
  refine ⟨_, pss_one (ps_ret (pe_cmpR op_in_seq (pv 0) (kr T.g_RESULTS) (by rfl))), ?_⟩
  refine ⟨_, rfl, _, _, rfl, .inr (T.tRES _), rfl, rfl, ?_⟩
  have e : (inV (V.str (rsS c)) [.str "yes", .str "no", .str "skip", .str "gone"]) = true := by cases c <;> rfl
  show Q (.bl (inV (V.str (rsS c)) [.str "yes", .str "no", .str "skip", .str "gone"])) H
  rw [e]
  exact q H fun _ _ e => e
theorem ok_isOut (T : Tx w K mg) : Gd P w K mg base CX0 1 "is_outcome" (spW okOut) := by
  refine ⟨T.d_isOut.r sc_isOut bi_isOut (fun vs H Q E h => ?_) (fun cdv A outer s H vs Q E hr h => ?_), T.f_isOut, T.d_isOut.kp⟩
  · obtain ⟨z, _, rfl, _⟩ := h
    rfl
  obtain ⟨z, hz, rfl, q⟩ := h
  refine ⟨_, pss_one (ps_ret (pe_cmpR op_in_seq (pv 0) (pe_tup (pa_cons (ks T.s_IN) (pa_cons (ks T.s_OUT) pa_nil))) (by rfl))), ?_⟩
  refine ⟨_, rfl, by show 2 ≤ sizeLine; decide, fun t ht => ⟨_, _, rfl, .inr (SqT.of upd_same), rfl, rfl, ?_⟩⟩
  have e : (inV (V.str z) [.str "in", .str "out"]) = true := by
    rcases hz with rfl | rfl <;> rfl
  show Q (.bl (inV (V.str z) [.str "in", .str "out"])) _
  rw [e]
  exact q _ (same_upd ht)
theorem ok_isWordW (T : Tx w K mg) : FnR P w K mg base CX0 1 (ga K "is_word") (spW okWd) := (ok_isWord T).fn.imp fun vs H Q E ⟨z, ⟨m, e⟩, ev, q⟩ => ⟨m, by rw [ev, e], q⟩
theorem ok_isIxW (T : Tx w K mg) : FnR P w K mg base CX0 1 (ga K "is_index") (spW okIxw) := (ok_isIndex T).fn.imp fun vs H Q E ⟨z, hz, ev, q⟩ => ⟨z, hz, ev, q⟩
/-- a function that lets z pass -/
def Lets (P : Program) (w : World) (K : PySem.W.Frag) (mg : Str → Option Value) (base : Heap) (f : Addr) (z : Str) : Prop := ∃ ok, FnR P w K mg base CX0 3 f (spW ok) ∧ PySem.W.keepIn K (.ref f) = true ∧ ok z
end
section
variable {X : Cx} {i j : Nat} {x : Str} {e : Expr} {es : List Expr} {t : TA} {p pos : Pos}
/-- a local name that holds such a function, called -/
def tLets (P : Program) (w : World) (K : PySem.W.Frag) (mg : Str → Option Value) (base : Heap) (i : Nat) (t : TA) : TE := fun σ H Q => ∃ f z, σ[i]? = some (some (.ref f)) ∧ Lets P w K mg base f z ∧ t σ H fun vs H1 => vs = [.str z] ∧ ∀ H', Same H1 H' → Q (.bl true) H'
theorem pe_lets (hr : Room j X.A) (hj : 3 ≤ j) (hN : X.N[i]? = some x) (hv : Vis X.env.scope x) (ha : PA X (e :: es) t)
    (hd : (x == ("__debug__" : Str)) = false := by decide) (hcd : (x == ("__classdict__" : Str)) = false := by decide)
    (he : starEach (e :: es) X.env = (false, eval e X.env) :: starEach es X.env := by rfl) (hpl : (backTo pos (starEach es X.env)).any (·.1) = false := by rfl) :
    PE X (.Call (.Name x p) (e :: es) [] pos) (tLets X.prog X.w X.K X.mg X.base i t) := by
  refine ⟨fun pins s σ H Q I h => ?_⟩
  obtain ⟨f, z, hs, ⟨ok, F, kp, hok⟩, ht⟩ := h
  refine wpAny_Call_Name_kw (thn ((pe_var (pos := p) hN hv hd hcd).run pins s σ H (fun v H1 => v = .ref f ∧ H1 = H) I ⟨.ref f, hs, rfl, rfl⟩) fun u s1 ⟨v, H1, I1, r1, q1⟩ => ?_)
  obtain ⟨rfl, rfl⟩ := q1
  cases r1
  refine PySem.W.callWith_K (h₀ := X.base) I.ok.mod.kin kp (thn (ha.run pos pins s1 σ _ _ I1 ht) fun us s2 ⟨vs, H2, I2, r, ev, q⟩ => ⟨I2.kIn, ?_⟩) he hpl
  exact run_at (E := E0) F (hr.mono hj) (fun p H s e s' I c => pass0 p σ H s e s' I c) I2 r ⟨z, hok, ev, q⟩
end
/-- the head of a line -/
inductive Hd where
  | ln (l : K68.Ln) | rep (k : Nat) | whn (o : Bool) | en
def kS : Nat → Str
  | 0 => "0" | 1 => "1" | 2 => "2" | _ => "3"
def ioS (b : Bool) : Str := if b = true then "in" else "out"
/-- the words -/
def lnK : K68.Ln → Str
  | .add _ _ => "add" | .drop => "drop" | .swap => "swap" | .drop99 => "drop" | .tell _ _ => "tell" | .run => "run" | .rules => "rules"
def lnA : K68.Ln → List Str
  | .add c m => [ctS c, mdS m] | .drop => ["0"] | .swap => ["0"] | .drop99 => ["99"] | .tell m r => [mdS m, rsS r] | .run => [] | .rules => []
def hdK : Hd → Str
  | .ln l => lnK l | .rep _ => "repeat" | .whn _ => "when" | .en => "end"
def hdA : Hd → List Str
  | .ln l => lnA l | .rep k => [kS k] | .whn b => [ioS b] | .en => []
def hdW (h : Hd) : List Str := hdK h :: hdA h
/-- the tests -/
def hdF : Hd → List Str
  | .ln (.add _ _) => ["is_control", "is_word"] | .ln .drop => ["is_index"] | .ln .swap => ["is_index"] | .ln .drop99 => ["is_index"] | .ln (.tell _ _) => ["is_word", "is_result"] | .ln .run => [] | .ln .rules => []
  | .rep _ => ["is_index"] | .whn _ => ["is_outcome"] | .en => []
theorem kS_ix (k : Nat) : kS k ∈ ixW := by
  match k with
  | 0 => exact List.mem_cons_self
  | 1 => exact List.mem_cons_of_mem _ List.mem_cons_self
  | 2 => exact List.mem_cons_of_mem _ (List.mem_cons_of_mem _ List.mem_cons_self)
  | k + 3 => exact List.mem_cons_of_mem _ (List.mem_cons_of_mem _ (List.mem_cons_of_mem _ List.mem_cons_self))
section
variable {P : Program} {w : World} {K : PySem.W.Frag} {mg : Str → Option Value} {base : Heap}
theorem form_get (T : Tx w K mg) (h : Hd) (x : V) : ∃ b, GotK K (ga K "FORMS") (hdK h) x (.ref b) ∧ ∀ H, SqT K H b ((hdF h).map fun f => V.ref (ga K f)) := by
  cases h with
  | ln l =>
    cases l with
    | add c m => exact ⟨_, .inl ⟨_, T.o_add.1, rfl⟩, T.o_add.2⟩
    | drop => exact ⟨_, .inl ⟨_, T.o_drop.1, rfl⟩, T.o_drop.2⟩
    | swap => exact ⟨_, .inl ⟨_, T.o_swap.1, rfl⟩, T.o_swap.2⟩
    | drop99 => exact ⟨_, .inl ⟨_, T.o_drop.1, rfl⟩, T.o_drop.2⟩
    | tell m r => exact ⟨_, .inl ⟨_, T.o_tell.1, rfl⟩, T.o_tell.2⟩
    | run => exact ⟨_, .inl ⟨_, T.o_run.1, rfl⟩, T.o_run.2⟩
    | rules => exact ⟨_, .inl ⟨_, T.o_rules.1, rfl⟩, T.o_rules.2⟩
  | rep k => exact ⟨_, .inl ⟨_, T.o_repeat.1, rfl⟩, T.o_repeat.2⟩
  | whn o => exact ⟨_, .inl ⟨_, T.o_when.1, rfl⟩, T.o_when.2⟩
  | en => exact ⟨_, .inl ⟨_, T.o_end.1, rfl⟩, T.o_end.2⟩
theorem lets_ix (T : Tx w K mg) {z : Str} (h : z ∈ ixW) : Lets P w K mg base (ga K "is_index") z := ⟨_, (ok_isIxW T).mono (by decide), T.d_isIndex.kp, h⟩
theorem lets_wd (T : Tx w K mg) (m : K68.Md) : Lets P w K mg base (ga K "is_word") (mdS m) := ⟨_, (ok_isWordW T).mono (by decide), T.d_isWord.kp, m, rfl⟩
theorem hd_lets (T : Tx w K mg) (h : Hd) : (hdF h).length = (hdA h).length ∧ ∀ (i : Nat) f z, (hdF h)[i]? = some f → (hdA h)[i]? = some z → Lets P w K mg base (ga K f) z := by
  have one : ∀ {a b : Str}, Lets P w K mg base (ga K a) b → ([a] : List Str).length = ([b] : List Str).length ∧ ∀ (i : Nat) f z, [a][i]? = some f → [b][i]? = some z → Lets P w K mg base (ga K f) z := fun {a b} l =>
    ⟨rfl, fun i f z e1 e2 => by
      rcases i with _ | i
      · cases e1; cases e2; exact l
      · cases e1⟩
  have two : ∀ {a b a2 b2 : Str}, Lets P w K mg base (ga K a) b → Lets P w K mg base (ga K a2) b2 → ([a, a2] : List Str).length = ([b, b2] : List Str).length ∧ ∀ (i : Nat) f z, [a, a2][i]? = some f → [b, b2][i]? = some z → Lets P w K mg base (ga K f) z := fun {a b a2 b2} l l2 =>
    ⟨rfl, fun i f z e1 e2 => by
      rcases i with _ | _ | i
      · cases e1; cases e2; exact l
      · cases e1; cases e2; exact l2
      · cases e1⟩
  have zero : ([] : List Str).length = ([] : List Str).length ∧ ∀ (i : Nat) f z, ([] : List Str)[i]? = some f → ([] : List Str)[i]? = some z → Lets P w K mg base (ga K f) z := ⟨rfl, fun i f z e1 _ => by cases e1⟩
  cases h with
  | ln l =>
    cases l with
    | add c m => exact two ⟨_, (ok_isCtl T).fn.mono (by decide), T.d_isCtl.kp, c, rfl⟩ (lets_wd T m)
    | drop => exact one (lets_ix T (by decide))
    | swap => exact one (lets_ix T (by decide))
    | drop99 => exact one (lets_ix T (by decide))
    | tell m r => exact two (lets_wd T m) ⟨_, (ok_isRes T).fn.mono (by decide), T.d_isRes.kp, r, rfl⟩
    | run => exact zero
    | rules => exact zero
  | rep k => exact one (lets_ix T (kS_ix k))
  | whn o => exact one ⟨_, (ok_isOut T).fn.mono (by decide), T.d_isOut.kp, by cases o; exact .inr rfl; exact .inl rfl⟩
  | en => exact zero
theorem get_map {α β : Type} {xs : List α} {f : α → β} {i : Nat} {y : β} (h : (xs.map f)[i]? = some y) : ∃ x, xs[i]? = some x ∧ f x = y := by
  rw [List.getElem?_map] at h
  exact Option.map_eq_some_iff.mp h
theorem atI0 {α : Type} (x : α) (xs : List α) : atI (x :: xs) 0 = some x := by
  unfold atI ixN
  rw [if_pos (by decide), if_pos (by show (0 : Int) < ((xs.length + 1 : Nat) : Int); omega)]
  rfl
theorem hdA_few (h : Hd) : (hdA h).length ≤ 2 := by
  cases h with
  | ln l => cases l <;> first | exact Nat.le_refl _ | exact Nat.le_succ _ | exact Nat.zero_le _
  | rep k => exact Nat.le_succ 1
  | whn o => exact Nat.le_succ 1
  | en => exact Nat.zero_le _
def spIsRow (K : PySem.W.Frag) : Sp := fun vs H Q _ => ∃ h a, vs = [.ref a] ∧ SqL K H a ((hdW h).map V.str) ∧ ∀ H', Same H H' → Q (.bl true) H'
theorem ok_isRow (T : Tx w K mg) : Gd P w K mg base CX0 4 "is_row" (spIsRow K) := by
  refine ⟨T.d_isRow.r sc_isRow bi_isRow (fun vs H Q E h => ?_) (fun cdv A outer s H vs Q E hr h => ?_), T.f_isRow, T.d_isRow.kp⟩
  · obtain ⟨h, a, rfl, _⟩ := h
    rfl
  obtain ⟨h, a, rfl, ha, q⟩ := h
  obtain ⟨es, n, D⟩ := T.forms
  obtain ⟨fa, hg, hfa⟩ := form_get T h .non
  obtain ⟨hl, hlets⟩ := hd_lets (P := P) (base := base) T h
  refine ⟨_, pss_cons (ps_set (i := 1) sc_isRow.nd rfl (.inl rfl) (pe_kget2 D (kr T.g_FORMS) (pe_ix ix_list (pv 0) pe_int (fun _ _ => rfl)) pe_non ⟨rfl, rfl, rfl, rfl⟩))
    (pss_cons (ps_if (PW.pt (pw_or (pt_cmpR op_isN (pv 1) pe_non (nomark _)) (pw_or1 (pt_cmpR op_ne (pe_callB call_len (by rfl) T.b_len (by decide +kernel) (pa_cons (pv 0) pa_nil)) (pe_op op_add (pe_callB call_len (by rfl) T.b_len (by decide +kernel) (pa_cons (pv 1) pa_nil)) pe_int) (nomark _)))))
      (pss_one (ps_ret pe_bl)) pss_nil)
    (pss_one (ps_ret (pe_callB (cr_all rfl) (by rfl) T.b_all (by decide +kernel) (pa_cons
      (pe_lc (own := [("is_right", 2), ("word", 3)]) (g := gTup K 2 (gCons (gName 2) (gCons (gName 3) gNil))) (tt := tYes) (te := tLets P w K mg base 2 (tCons (tVar 3) tNil)) rfl sc_isRow.nd (pi_zipM (by rfl) T.b_zip (pa_cons (pv 1) (pa_cons (pe_slice sl_list (pv 0) (po_some pe_int) po_none) pa_nil))) (blkOk_by (N := ["words", "form", "is_right", "word"]) (sc := defScope s_isRow) (by decide +kernel))
        (fun _ _ _ _ _ => pg_tup rfl (pgs_cons (pg_name (i := 2) sc_isRow.nd rfl (.inl rfl)) (pgs_cons (pg_name (i := 3) sc_isRow.nd rfl (.inl rfl)) pgs_nil))) (fun _ _ _ _ _ => pts_nil) (fun _ _ _ _ _ => pe_lets hr (Nat.le_refl 3) rfl (.inl rfl) (pa_cons (pv 3) pa_nil))) pa_nil))))), ?_⟩
  have e0 : (hdW h).map V.str = V.str (hdK h) :: (hdA h).map V.str := rfl
  refine ⟨rfl, _, rfl, a, _, 0, _, rfl, rfl, ha, atI0 _ _, hdK h, .ref fa, rfl, hg, ?_⟩
  refine ⟨_, rfl, rfl, false, rfl, if_ rfl ?_⟩
  refine ⟨_, rfl, _, _, rfl, .inl ⟨_, ha, rfl⟩, _, rfl, _, _, rfl, .inr ⟨_, hfa H, rfl⟩, _, _, rfl, rfl, rfl, ?_⟩
  have hlen : decide (V.int (((hdW h).map V.str).length : Nat) = V.int ((((hdF h).map fun f => V.ref (ga K f)).length : Nat) + 1)) = true := decide_eq_true (congrArg V.int (by
    rw [List.length_map, List.length_map, hl]
    show (((hdA h).length + 1 : Nat) : Int) = ((hdA h).length : Int) + 1
    omega))
  refine ⟨_, rfl, if_ (by rw [hlen]; rfl) ?_⟩
  have ec : cutV ((hdW h).map V.str) (some 1) none = (hdA h).map V.str := by
    unfold cutV
    rw [HT.sIx_none, show (1 : Int) = ((1 : Nat) : Int) from rfl, HT.sIx_nat, List.length_map, Nat.min_eq_left (by show 1 ≤ (hdA h).length + 1; omega)]
    show ((hdA h).map V.str).take ((hdA h).length + 1 - 1) = _
    rw [Nat.add_sub_cancel, List.take_of_length_le (by rw [List.length_map]; exact Nat.le_refl _)]
  refine ⟨_, rfl, _, rfl, 1, rfl, a, _, rfl, ha, fun b hb => ?_⟩
  rw [ec]
  have k1 := same_upd (o := HO.lst ((hdA h).map V.str)) hb
  refine ⟨fa, b, _, _, rfl, hfa _, SqL.of upd_same, fun D hD => ?_⟩
  refine lc_it (walk_zipM (xs := (hdF h).map fun f => V.ref (ga K f)) (ys := (hdA h).map V.str) (by rw [List.length_map, List.length_map, hl])) (fun i H' => H' D = some (.lst ((List.replicate i true).map V.bl)) ∧ H' b = some (.lst ((hdA h).map V.str)) ∧ ∀ c o, H c = some o → H' c = some o)
    ⟨upd_same, same_upd hD _ _ upd_same, fun c o e => same_upd hD c o (k1 c o e)⟩ (fun i H' _ p => ⟨hfa _, SqL.of p.2.1⟩) (fun i x H1 H2 hi hp hy => ?_) (fun H1 hp => ?_)
  · obtain ⟨t, x0, y0, rfl, ht, rfl, hx, hy⟩ := hy
    obtain ⟨f, hf, rfl⟩ := get_map hx
    obtain ⟨z, hz, rfl⟩ := get_map hy
    have lz := hlets i f z hf hz
    have kt := same_upd (o := HO.tup [.ref (ga K f), .str z]) ht
    refine ⟨t, _, rfl, SqT.of upd_same, rfl, _, _, rfl, _, _, rfl, rfl, rfl, _, z, rfl, lz, _, rfl, rfl, fun H3 k3 => ?_⟩
    refine ⟨_, k3 _ _ (kt _ _ hp.1), ?_, ?_, ?_, fun c o e => ?_⟩
    · rw [List.length_map, List.length_replicate]
      have : i < 2 := Nat.lt_of_lt_of_le hi (by rw [List.length_map, hl]; exact hdA_few h)
      exact Nat.lt_of_lt_of_le this (by decide)
    · rw [upd_same, List.replicate_succ', List.map_append]
      rfl
    · rw [upd_ne (ne_of_none upd_same hD)]
      exact k3 _ _ (kt _ _ hp.2.1)
    · rw [upd_ne (ne_of_none (k1 c o e) hD)]
      exact k3 _ _ (kt _ _ (hp.2.2 c o e))
  · refine ⟨D, _, rfl, SqL.of hp.1, ?_⟩
    rw [all_rep]
    exact q H1 hp.2.2
end
end K6
set_option Elab.async false
set_option linter.all false
set_option maxRecDepth 100000
set_option maxHeartbeats 2000000
/-! K68Row2: Row.__init__ -/
namespace K6
open PySem PySem.Spec PyProof.Rows L2
section
variable {P : Program} {w : World} {K : PySem.W.Frag} {mg : Str → Option Value} {base : Heap}
/-- .. its attribute dict named -/
def RowAd (K : PySem.W.Frag) (H : Hp) (r dx wl bl : Addr) : Prop := ∃ vs, ∃ num : Int, H r = some (SlX.SlO r (ga K "Row") dx vs) ∧ H dx = some (.xd []) ∧ vs[1]? = some (some (.int num)) ∧ vs[2]? = some (some (.ref wl)) ∧ vs[0]? = some (some (.ref bl))
def spRowInit (K : PySem.W.Frag) : Sp := fun vs H Q _ => ∃ x dx num wl, vs = [.ref x, .int num, .ref wl] ∧ H x = some (.ins (ga K "Row") dx []) ∧ dx ≠ x ∧ ∀ H' bl, Keep [x, dx] H H' → RowAd K H' x dx wl bl → H' bl = some (.lst []) → H bl = none → Q .non H'
theorem ok_RowInit (T : Tx w K mg) : Ck P w K mg base CX0 1 "Row" (spRowInit K) := by
  refine ⟨T.d_RowInit.r sc_RowInit bi_RowInit (fun vs H Q E h => ?_) (fun cdv A outer s0 H vs Q E hr h => ?_), T.k_Row, T.g_Row⟩
  · obtain ⟨x, dx, num, wl, rfl, _⟩ := h
    rfl
  obtain ⟨x, dx, num, wl, rfl, hx, hne, q⟩ := h
  refine ⟨_, pss_cons (SlX.ps_sl (pv 0) (pv 1)) (pss_cons (SlX.ps_sl (pv 0) (pv 2)) (pss_one (SlX.ps_sl (pv 0) (pe_lst pa_nil)))), ?_⟩
  have kk : ∀ {G : Hp} {vs : List (Option V)}, Keep [x, dx] H G → Keep [x, dx] H (SlX.slH G x (ga K "Row") dx vs) := fun {G vs} k b o e n => by
    unfold SlX.slH
    rw [upd_ne (fun z => n (by rw [z]; exact List.mem_cons_self)), upd_ne (fun z => n (by rw [z]; exact List.mem_cons_of_mem _ List.mem_cons_self))]
    exact k b o e n
  refine ⟨_, rfl, _, rfl, x, _, dx, _, [], 1, rfl, .inl ⟨hx, rfl⟩, T.cRow, T.sNum, ?_⟩
  refine ⟨_, rfl, _, rfl, x, _, dx, _, _, 2, rfl, SlX.slH_slt hne, T.cRow, T.sWor, ?_⟩
  refine ⟨Nat.zero_le _, fun bl hbl => ⟨_, rfl, x, _, dx, _, SlX.putS 2 (.ref wl) (SlX.putS 1 (.int num) []), 0, rfl, .inr ⟨same_upd hbl _ _ upd_same, same_upd hbl _ _ ?_⟩, T.cRow, T.sBlo, ?_⟩⟩
  · unfold SlX.slH
    rw [upd_ne hne, upd_same]
  · have nb : bl ≠ x := fun z => by
      rw [z] at hbl
      unfold SlX.slH at hbl
      rw [upd_same] at hbl
      cases hbl
    have nd : bl ≠ dx := fun z => by
      rw [z] at hbl
      unfold SlX.slH at hbl
      rw [upd_ne hne, upd_same] at hbl
      cases hbl
    have hbl0 : H bl = none := by
      unfold SlX.slH at hbl
      rw [upd_ne nb, upd_ne nd, upd_ne nb, upd_ne nd] at hbl
      exact hbl
    refine q _ bl (kk fun b o e n => ?_) ⟨_, num, upd_same, ?_, rfl, rfl, rfl⟩ ?_ hbl0
    · exact same_upd hbl b o (kk (kk (fun b o e _ => e)) b o e n)
    · unfold SlX.slH
      rw [upd_ne hne, upd_same]
    · unfold SlX.slH
      rw [upd_ne nb, upd_ne nd, upd_same]
end
end K6
set_option Elab.async false
set_option linter.all false
set_option maxRecDepth 100000
set_option maxHeartbeats 2000000
/-! K68Cxu: what execute lets out; the rows as they stand -/
namespace K6
open PySem PySem.Spec PyProof.Rows L2
/-- an exception without a context, or ExecutionFailed -/
def CXU (K : PySem.W.Frag) (P : Program) (w : World) : CXT := fun outer H s E u s' => L2N.CX P w outer H s E u s' ∨ L2.CX P w outer H s (fun c d H' => c = .ref (ga K "ExecutionFailed") ∧ E c d H') u s'
section
variable {X : Cx} {K : PySem.W.Frag} {E : XK} {W W' : WX} {E₁ : Value → Shared → Prop}
theorem takesU1 (hs : X.stack = X.env :: X.outer) (hf : X.env.frame = some X.env.locals) (hex : X.ex = [])
    (hx : X.xe = fun e s' => wpAny (model X.prog X.w) X.A (leaving X.env e) (fun _ s'' => CXU K X.prog X.w X.outer X.H_0 X.s_0 E e s'') E₁ s') : L2N.Takes X (fun cls d _ H => E cls d H) := fun u s' x => by
  rw [hx]
  exact wpAny_mono (L2N.XE.leave (W := fun cls d _ H => E cls d H) (E := E) hs hf hex (fun _ _ _ _ h => h) x) (fun _ _ h => .inl h) fun _ _ h => h
theorem takesU2 (hs : X.stack = X.env :: X.outer) (hf : X.env.frame = some X.env.locals) (hex : X.ex = [])
    (hx : X.xe = fun e s' => wpAny (model X.prog X.w) X.A (leaving X.env e) (fun _ s'' => CXU K X.prog X.w X.outer X.H_0 X.s_0 E e s'') E₁ s') : L2.Takes X (fun cls d _ H => cls = .ref (ga K "ExecutionFailed") ∧ E cls d H) := fun u s' x => by
  rw [hx]
  exact wpAny_mono (L2.XE.leave (W := fun cls d _ H => cls = .ref (ga K "ExecutionFailed") ∧ E cls d H) (E := fun cls d H => cls = .ref (ga K "ExecutionFailed") ∧ E cls d H) hs hf hex (fun _ _ _ _ h => h) x) (fun _ _ h => .inr h) fun _ _ h => h
theorem weakCX {P : Program} {w : World} {outer : List Env} {H : Hp} {s s' : Shared} {u : Value} (x : L2N.CX P w outer H s E u s') : L2.CX P w outer H s E u s' := by
  obtain ⟨a, B, H', cls, d, e, fl, h⟩ := x
  exact ⟨a, B, H', cls, d, e, L2H.flyingZ_imp (fun _ z => z.zc) fl, h⟩
theorem passU (tk1 : L2N.Takes X W) (tk2 : L2.Takes X W') (σ : L2.St) : PassesAt (CXU K X.prog X.w) X σ (fun c d H' => (c = .ref (ga K "ExecutionFailed") ∧ W' c d σ H') ∨ (c ≠ .ref (ga K "ExecutionFailed") ∧ W c d σ H')) := fun pins H s e s' I c => by
  rcases c with ⟨a, B, H', cls, d, e1, fl, h1, h2, h3, h4, h5, ⟨q1, q2⟩ | ⟨q1, q2⟩⟩ | c
  · exact tk2 e s' (L2.XE.of_call (E := fun c d H' => W' c d σ H') I (fun _ _ _ h => h) ⟨a, B, H', cls, d, e1, L2H.flyingZ_imp (fun _ z => z.zc) fl, h1, h2, h3, h4, h5, q2⟩)
  · exact tk1 e s' (L2N.XE.of_call (E := fun c d H' => W c d σ H') I (fun _ _ _ h => h) ⟨a, B, H', cls, d, e1, fl, h1, h2, h3, h4, h5, q2⟩)
  · exact tk2 e s' (L2.XE.of_call (W := W') I (fun cls d H' h => by
      obtain ⟨h1, ⟨_, h2⟩ | ⟨h2, _⟩⟩ := h
      · exact h2
      · exact absurd h1 h2) c)
end
/-- a part of the heap that stays -/
def Fz (S : List Addr) (G H : Hp) : Prop := (∀ b o, G b = some o → H b = some o) ∧ ∀ b ∈ S, G b = none
theorem Fz.keep {S : List Addr} {G H H' : Hp} (f : Fz S G H) (k : Keep S H H') : Fz S G H' := ⟨fun b o e => k b o (f.1 b o e) (fun hb => by
  have z := f.2 b hb
  rw [e] at z
  cases z), f.2⟩
/-- the rows of a script, blocks with theirs -/
def RwL (K : PySem.W.Frag) (G : Hp) : K68.T → List Addr → Prop
  | .nil, xs => xs = []
  | .line l t, xs => ∃ r wl bl ys, xs = r :: ys ∧ RowAt K G r wl bl ∧ G wl = some (.lst ((hdW (.ln l)).map V.str)) ∧ RwL K G t ys
  | .rep k b t, xs => ∃ r wl bl bs ys, xs = r :: ys ∧ RowAt K G r wl bl ∧ G wl = some (.lst ((hdW (.rep k)).map V.str)) ∧ k ≤ 3 ∧ G bl = some (.lst (bs.map V.ref)) ∧ RwL K G b bs ∧ RwL K G t ys
  | .whn o b t, xs => ∃ r wl bl bs ys, xs = r :: ys ∧ RowAt K G r wl bl ∧ G wl = some (.lst ((hdW (.whn o)).map V.str)) ∧ G bl = some (.lst (bs.map V.ref)) ∧ RwL K G b bs ∧ RwL K G t ys
def ht : K68.T → Nat
  | .nil => 0
  | .line _ t => ht t
  | .rep _ b t => max (1 + ht b) (ht t)
  | .whn _ b t => max (1 + ht b) (ht t)
/-- one row -/
inductive One : K68.T → Prop
  | line (l : K68.Ln) : One (.line l .nil)
  | rep (k : Nat) (b : K68.T) : One (.rep k b .nil)
  | whn (o : Bool) (b : K68.T) : One (.whn o b .nil)
/-- the first row, the others -/
theorem RwL.split {K : PySem.W.Frag} {G : Hp} : ∀ {t : K68.T} {xs : List Addr} {r : Addr} {ys : List Addr}, RwL K G t xs → xs = r :: ys →
    ∃ u v, One u ∧ RwL K G u [r] ∧ RwL K G v ys ∧ (∀ c, K68.exC t c = (K68.exC u c).bind (K68.exC v)) ∧ K68.sm t = K68.sm u + K68.sm v ∧ ht u ≤ ht t ∧ ht v ≤ ht t := by
  intro t xs r ys h e
  cases t with
  | nil =>
    have h' : xs = [] := h
    rw [h'] at e
    cases e
  | line l t =>
    obtain ⟨r', wl, bl, zs, e1, h1, h2, h3⟩ := h
    rw [e] at e1
    obtain ⟨rfl, rfl⟩ := List.cons.inj e1
    refine ⟨.line l .nil, t, .line l, ⟨r, wl, bl, [], rfl, h1, h2, rfl⟩, h3, fun c => ?_, ?_, Nat.zero_le _, Nat.le_refl _⟩
    · show (K68.exL l c).bind (K68.exC t) = ((K68.exL l c).bind (K68.exC .nil)).bind (K68.exC t)
      cases K68.exL l c <;> rfl
    · show 1 + K68.sm t = 1 + 0 + K68.sm t
      omega
  | rep k b t =>
    obtain ⟨r', wl, bl, bs, zs, e1, h1, h2, h3, h4, h5, h6⟩ := h
    rw [e] at e1
    obtain ⟨rfl, rfl⟩ := List.cons.inj e1
    refine ⟨.rep k b .nil, t, .rep k b, ⟨r, wl, bl, bs, [], rfl, h1, h2, h3, h4, h5, rfl⟩, h6, fun c => ?_, ?_, ?_, Nat.le_max_right _ _⟩
    · show (K68.iterC (K68.exC b) k c).bind (K68.exC t) = ((K68.iterC (K68.exC b) k c).bind (K68.exC .nil)).bind (K68.exC t)
      cases K68.iterC (K68.exC b) k c <;> rfl
    · show 1 + k * (1 + K68.sm b) + K68.sm t = 1 + k * (1 + K68.sm b) + 0 + K68.sm t
      omega
    · show max (1 + ht b) 0 ≤ max (1 + ht b) (ht t)
      omega
  | whn o b t =>
    obtain ⟨r', wl, bl, bs, zs, e1, h1, h2, h4, h5, h6⟩ := h
    rw [e] at e1
    obtain ⟨rfl, rfl⟩ := List.cons.inj e1
    refine ⟨.whn o b .nil, t, .whn o b, ⟨r, wl, bl, bs, [], rfl, h1, h2, h4, h5, rfl⟩, h6, fun c => ?_, ?_, ?_, Nat.le_max_right _ _⟩
    · show (if c.isIn = o then K68.exC b c else some c).bind (K68.exC t) = ((if c.isIn = o then K68.exC b c else some c).bind (K68.exC .nil)).bind (K68.exC t)
      cases (if c.isIn = o then K68.exC b c else some c) <;> rfl
    · show 1 + K68.sm b + K68.sm t = 1 + K68.sm b + 0 + K68.sm t
      omega
    · show max (1 + ht b) 0 ≤ max (1 + ht b) (ht t)
      omega
/-- what execute does -/
def spEx (K : PySem.W.Frag) (n : Nat) : Sp := fun vs H Q E => ∃ x d o c m G r u, vs = [.ref x, .ref r] ∧ MaAt K H x d o c m ∧ Fz [x, d, o] G H ∧ One u ∧ RwL K G u [r] ∧ ht u ≤ n ∧ m + K68.sm u ≤ 301 ∧ (∃ kvs, H d = some (.dK kvs) ∧ kvs.length + 1 ≤ m) ∧ c.out.length + 1 ≤ m ∧
  (∀ c', K68.exC u c = some c' → ∀ m' H', Keep [x, d, o] H H' → MaAt K H' x d o c' m' → m' + 1 ≤ m + K68.sm u → Q .non H') ∧
  (K68.exC u c = none → ∀ cls dd H', (cls = .ref (ga K "ExecutionFailed") ∨ cls = .ref (ga K "InvalidStack")) → Keep [x, d, o] H H' → E cls (some dd) H')
/-- what execute_all does -/
def spAll (K : PySem.W.Frag) (n : Nat) : Sp := fun vs H Q E => ∃ x d o c m G a rows t, vs = [.ref x, .ref a] ∧ MaAt K H x d o c m ∧ Fz [x, d, o] G H ∧ G a = some (.lst (rows.map V.ref)) ∧ RwL K G t rows ∧ ht t ≤ n ∧ m + K68.sm t ≤ 300 ∧
  (∀ c', K68.exC t c = some c' → ∀ m' H', Keep [x, d, o] H H' → MaAt K H' x d o c' m' → m' ≤ m + K68.sm t → Q .non H') ∧
  (K68.exC t c = none → ∀ dd H', Keep [x, d, o] H H' → E (.ref (ga K "ExecutionFailed")) (some dd) H')
/-- .. none of it at 0 -/
def spAllN (K : PySem.W.Frag) : Nat → Sp
  | 0 => fun _ _ _ _ => False
  | n + 1 => spAll K n
end K6
set_option Elab.async false
set_option linter.all false
set_option maxRecDepth 100000
set_option maxHeartbeats 4000000
/-! K68All: Machine.execute_all -/
namespace K6
open PySem PySem.Spec PyProof.Rows L2
section
variable {P : Program} {w : World} {K : PySem.W.Frag} {mg : Str → Option Value} {base : Heap}
def uES (K : PySem.W.Frag) (W W' : WX) : L2.St → XK := fun σ c d H' => (c = .ref (ga K "ExecutionFailed") ∧ W' c d σ H') ∨ (c ≠ .ref (ga K "ExecutionFailed") ∧ W c d σ H')
def eW (E : XK) : WX := fun cls d _ H => E cls d H
def tbAll (K : PySem.W.Frag) (n : Nat) (E : XK) : WX → TS := fun W => tDrop (tM K "Machine" "execute" (spEx K n) (uES K W (w2 K (.ref (ga K "TooLong")) (.ref (ga K "ExecutionFailed")) (eW E))) (tVar 0) (tCons (tVar 2) tNil))
def tsAll (K : PySem.W.Frag) (E : XK) : Addr → Value → Option Addr → TS := fun a _ _ _ σ H => σ[3]? = some (some (.ref a)) ∧ tMkO (ga K "ExecutionFailed") (spX (ga K "ExecutionFailed") "row" fun _ => True) [] (tCons (SlX.tSl K (tVar 2) "number") tNil) σ H fun cls d H' => eW E cls d (σ.set 3 none) H'
theorem ok_All (T : Tx w K mg) {n k : Nat} (F : Mt P w K mg base (CXU K P w) k "Machine" "execute" (spEx K n)) (hk : 2 ≤ k) : Mt P w K mg base (L2.CX P w) (k + 1) "Machine" "execute_all" (spAll K n) := by
  refine ⟨T.d_MaAll.r sc_MaAll bi_MaAll (fun vs H Q E h => ?_) (fun cdv A outer s0 H vs Q E hr h => ?_), T.m_Machine_execute_all, T.c_Machine⟩
  · obtain ⟨x, d, o, c, m, G, a, rows, t, rfl, _⟩ := h
    rfl
  obtain ⟨x, d, o, c, m, G, a, rows, t, rfl, hm, hG, ha, hrw, hht, hsm, q1, q2⟩ := h
  obtain ⟨fd, FH, BH⟩ := hot_XExe (P := P) (base := base) T
  refine ⟨_, pss_one (ps_for PassesOwn.leaving rfl (pi_list (pv 1)) (pg_name (i := 2) sc_MaAll.nd rfl (.inl rfl))
    (pss_cons (ps_expr (md0 (ok_MaStep T) hr (by omega) pa0 (pv 0)))
    (pss_one (ps_try_exec (tb := tbAll K n E) (ts := tsAll K E) (Wout := eW E) (i := 3) (Pc := (· = .ref (ga K "InvalidStack"))) rfl rfl sc_MaAll.nd rfl rfl ⟨by rfl, by decide, .inl T.g_TooLong⟩ ⟨by rfl, by decide, .inl T.g_ExecutionFailed⟩ ⟨by rfl, by decide, .inl T.g_StackError⟩ (L2H.passesAt_of rfl) (L2.takes_of rfl rfl rfl rfl) ?hb ?hsu)))), ?rd⟩
  case hb => exact fun W pn xe tk1 tk2 ps => pss_one (ps_expr (md F hr (Nat.le_refl k) (passU tk1 tk2) (pv 0) (pa_cons (pv 2) pa_nil)))
  case hsu => exact fun b oe cls dd pn xs hz hc tkS hot => pss_one (ps_raiseF hot List.mem_cons_self (hz.1 ▸ hc ▸ raises_own T.oStk.exC T.oStk.tyC) rfl rfl (by decide) tkS
        (L2H.pmk5_oexH T.oExe T.m_ExecutionFailed___init__.at_ T.tiExe FH (L2H.roomH_mark (hr.mono hk) _) ⟨_, hot, List.mem_cons_self⟩ BH pass0 (by rfl) T.g_ExecutionFailed (pa_cons (SlX.pe_sl (pv 2)) pa_nil)))
  case rd =>
    have hla : H a = some (.lst (rows.map V.ref)) := hG.1 _ _ ha
    have na : a ∉ [x, d, o] := fun z => by
      have y := hG.2 a z
      rw [ha] at y
      cases y
    have nEI : (Value.ref (ga K "InvalidStack")) ≠ .ref (ga K "ExecutionFailed") := fun z => by
      have y := T.x_InvalidStack_ExecutionFailed
      rw [z, T.x_ExecutionFailed_ExecutionFailed] at y
      cases y
    refine ⟨_, rfl, a, rfl, ⟨_, SqL.of hla⟩, ?_⟩
    refine for_list (K := K) (a := a) (xs := rows.map V.ref) (fun i σ H' => ∃ z c2 m2 v, σ = [some (.ref x), some (.ref a), z, none] ∧ Keep [x, d, o] H H' ∧ MaAt K H' x d o c2 m2 ∧ RwL K G v (rows.drop i) ∧ K68.exC t c = K68.exC v c2 ∧ m2 + K68.sm v ≤ m + K68.sm t ∧ ht v ≤ n)
      ⟨none, c, m, t, rfl, fun _ _ e _ => e, hm, hrw, rfl, Nat.le_refl _, hht⟩ (fun i σ H' _ ⟨z, c2, m2, v, _, k, _⟩ => SqL.of (k _ _ hla na)) (fun i y σ H1 hi ⟨z, c2, m2, v, hσ, k1, hm1, hv, hex, hs, hh⟩ => ?_) (fun σ H1 ⟨z, c2, m2, v, hσ, k1, hm1, hv, hex, hs, hh⟩ => ?_)
    · subst hσ
      obtain ⟨r, hr1, rfl⟩ := get_map hi
      obtain ⟨hlt, hr2⟩ := List.getElem?_eq_some_iff.mp hr1
      obtain ⟨u, v2, one, ru, rv, e2, sm2, h1, h2⟩ := RwL.split (r := r) (ys := rows.drop (i + 1)) hv (by rw [← hr2]; exact List.drop_eq_getElem_cons hlt)
      have su : 1 ≤ K68.sm u := by
        cases one with
        | line l => exact Nat.le_refl _
        | rep k b => show 1 ≤ 1 + k * (1 + K68.sm b) + 0; omega
        | whn o b => show 1 ≤ 1 + K68.sm b + 0; omega
      have ⟨dx, s, kvs, m1, m2', _, _, _, m6, m7⟩ := hm1
      have ndx : d ∉ [x] := fun z => by
        rw [List.mem_singleton.mp z, m1] at m2'
        cases m2'
      refine ⟨_, rfl, x, dx, _, rfl, m1, rfl, x, d, o, c2, m2, rfl, hm1, by omega, fun H3 k3 hm3 => ?_⟩
      have k13 : Keep [x, d, o] H H3 := fun b ob e nb => k3 b ob (k1 b ob e nb) fun hb => nb (by rw [List.mem_singleton.mp hb]; exact List.mem_cons_self)
      have ⟨dx3, s3, kvs3, m3, _⟩ := hm3
      have f3 := hG.keep k13
      refine ⟨_, rfl, x, dx3, _, rfl, m3, rfl, _, rfl, x, d, o, c2, m2 + 1, G, r, u, rfl, hm3, f3, one, ru, Nat.le_trans h1 hh, by omega, ⟨kvs, k3 _ _ m2' ndx, Nat.succ_le_succ m6⟩, Nat.succ_le_succ m7, fun c' hc' m' H4 k4 hm4 hle => ?_, fun hc' cls dd H4 hcl k4 => ?_⟩
      · refine ⟨_, c', m', v2, rfl, fun b ob e nb => k4 b ob (k13 b ob e nb) nb, hm4, rv, ?_, by omega, Nat.le_trans h2 hh⟩
        rw [hex, e2, hc']
        rfl
      · have k14 : Keep [x, d, o] H H4 := fun b ob e nb => k4 b ob (k13 b ob e nb) nb
        have hn : K68.exC t c = none := by rw [hex, e2, hc']; rfl
        rcases hcl with rfl | rfl
        · exact .inl ⟨rfl, T.x_ExecutionFailed_TooLong, T.x_ExecutionFailed_ExecutionFailed, q2 hn dd H4 k14⟩
        · refine .inr ⟨nEI, rfl, T.x_InvalidStack_TooLong, T.x_InvalidStack_ExecutionFailed, T.x_InvalidStack_StackError, fun b hb => ?_⟩
          have hrow : ∃ wl bl, RowAt K G r wl bl := by
            cases one with
            | line l => obtain ⟨r', wl, bl, ys, e, h, _⟩ := ru; cases e; exact ⟨wl, bl, h⟩
            | rep k b => obtain ⟨r', wl, bl, bs, ys, e, h, _⟩ := ru; cases e; exact ⟨wl, bl, h⟩
            | whn o b => obtain ⟨r', wl, bl, bs, ys, e, h, _⟩ := ru; cases e; exact ⟨wl, bl, h⟩
          obtain ⟨wl, bl, dr, vs, num, r1, r2, r3, r4, r5⟩ := hrow
          have f4 := f3.keep k4
          refine ⟨rfl, ?_⟩
          exact ⟨_, rfl, r, _, dr, _, vs, 1, _, rfl, .inr ⟨f4.1 _ _ r1, f4.1 _ _ r2⟩, T.cRow, T.sNum, r3, by show 1 ≤ 1000; decide, mk_read trivial fun dd2 H5 k5 => q2 hn dd2 H5 fun b ob e nb => k5 b ob (k14 b ob e nb)⟩
    · rw [List.length_map, List.drop_length] at hv
      have hv0 : v = .nil := by
        cases v with
        | nil => rfl
        | line l t => obtain ⟨_, _, _, _, e, _⟩ := hv; cases e
        | rep k b t => obtain ⟨_, _, _, _, _, e, _⟩ := hv; cases e
        | whn o b t => obtain ⟨_, _, _, _, _, e, _⟩ := hv; cases e
      subst hv0
      exact q1 c2 hex m2 H1 k1 hm1 (by omega)
end
end K6
set_option Elab.async false
set_option linter.all false
set_option maxRecDepth 100000
set_option maxHeartbeats 2000000
/-! K68Nil: a list beside the empty list -/
namespace K6
open PySem PySem.Spec PyProof.Rows L2
section
variable {X : Cx}
def rNil (K : PySem.W.Frag) (neg : Bool) : R2 := fun x y H Q => ∃ p q xs, x = .ref p ∧ y = .ref q ∧ SqL K H p xs ∧ SqL K H q [] ∧ Q (.bl (if neg then !xs.isEmpty else xs.isEmpty)) H
theorem nil_sizes {pins : List (Addr × Obj)} {σ : L2.St} {H : Hp} {s : Shared} (I : Inv X pins σ H s) {p q : Addr} {xs : List V} (hp : SqL X.K H p xs) (hq : SqL X.K H q []) :
    ∃ a b : Array Value, s.heap.IsList p a ∧ s.heap.IsList q b ∧ a.size = xs.length ∧ b.size = 0 := by
  obtain ⟨its, r, pl, _⟩ := I.list hp
  obtain ⟨its2, r2, pl2, _⟩ := I.list hq
  exact ⟨_, _, pl.isList, pl2.isList, by rw [List.size_toArray]; exact r.length.symm, by rw [List.size_toArray]; exact r2.length.symm⟩
theorem op_eqNil (hu : X.A.units < cLine) : OpR X (compareOp .Eq) (rNil X.K false) := by
  intro pins s σ H x y v u Q I rx ry h
  obtain ⟨p, q, xs, rfl, rfl, hp, hq, q'⟩ := h
  cases rx
  cases ry
  obtain ⟨a, b, ha, hb, sa, sb⟩ := nil_sizes I hp hq
  cases xs with
  | nil =>
    refine SeqAt.eq_listAt (e := fun _ => true) ha hb (by rw [sa, sb]; rfl) hu (fun j h1 h2 => absurd h2 (by omega)) ⟨.bl true, H, I, ?_, q'⟩
    rw [sa]
    rfl
  | cons x xs => exact SeqAt.eq_list_lengthsAt ha hb (by rw [sa, sb]; exact bne_iff_ne.mpr (Nat.succ_ne_zero _)) hu ⟨.bl false, H, I, rfl, q'⟩
theorem op_neNil (hu : X.A.units < cLine) : OpR X (compareOp .NotEq) (rNil X.K true) := by
  intro pins s σ H x y v u Q I rx ry h
  obtain ⟨p, q, xs, rfl, rfl, hp, hq, q'⟩ := h
  cases rx
  cases ry
  obtain ⟨a, b, ha, hb, sa, sb⟩ := nil_sizes I hp hq
  cases xs with
  | nil =>
    refine SeqAt.RcNeAt.lists (e := fun _ => true) ha hb (by rw [sa, sb]; rfl) hu (fun j h1 h2 => absurd h2 (by omega)) X.prog X.w X.xe _ ⟨.bl false, H, I, ?_, q'⟩
    rw [sa]
    rfl
  | cons x xs => exact SeqAt.RcNeAt.lists_lengths ha hb (by rw [sa, sb]; exact bne_iff_ne.mpr (Nat.succ_ne_zero _)) hu X.prog X.w X.xe _ ⟨.bl true, H, I, rfl, q'⟩
end
end K6
set_option Elab.async false
set_option linter.all false
set_option maxRecDepth 100000
set_option maxHeartbeats 4000000
/-! K68Say: a machine told, a machine's output; what a run asks -/
namespace K6
open PySem PySem.Spec PyProof.Rows L2
theorem MaAt.tell {K : PySem.W.Frag} {H : Hp} {x d o : Addr} {c : K68.Co} {m : Nat} {kvs : List (Key × V)} (h : MaAt K H x d o c m) (hd : H d = some (.dK kvs)) (hl : kvs.length + 1 ≤ m) (md : K68.Md) (r : K68.Rs) :
    MaAt K (upd H d (.dK (putK kvs (.inr (mdS md)) (.str (rsS r))))) x d o { c with told := fun y => if y = md then some r else c.told y } m := by
  obtain ⟨dx, s, kvs0, h1, h2, h3, h4, h5, h6, h7⟩ := h
  rw [hd] at h2
  cases h2
  have nx : x ≠ d := fun z => by rw [z, hd] at h1; cases h1
  have no : o ≠ d := fun z => by rw [z, hd] at h3; cases h3
  refine ⟨dx, s, _, ?_, upd_same, ?_, StAt.keepS h4 (off1 hd (notT_dK _)) (keep_upd (List.mem_singleton.mpr rfl)), fun y => ?_, Nat.le_trans (putK_le _ _ _) hl, h7⟩
  · rw [upd_ne nx]; exact h1
  · rw [upd_ne no]; exact h3
  · rw [valV_put, h5]
    by_cases e : y = md
    · rw [if_pos (by rw [e])]
      show _ = Option.map _ (if y = md then some r else c.told y)
      rw [if_pos e]
      rfl
    · rw [if_neg fun z => e (mdS_inj (Sum.inr.inj z))]
      show _ = Option.map _ (if y = md then some r else c.told y)
      rw [if_neg e]
theorem MaAt.say {K : PySem.W.Frag} {H : Hp} {x d o : Addr} {c : K68.Co} {m : Nat} (h : MaAt K H x d o c m) (hl : c.out.length + 1 ≤ m) (ln : K68.OutLn) :
    MaAt K (upd H o (.lst (c.out.map outV1 ++ [outV1 ln]))) x d o { c with out := c.out ++ [ln] } m := by
  obtain ⟨dx, s, kvs0, h1, h2, h3, h4, h5, h6, h7⟩ := h
  have nx : x ≠ o := fun z => by rw [z, h3] at h1; cases h1
  have nd : d ≠ o := fun z => by rw [z, h3] at h2; cases h2
  refine ⟨dx, s, kvs0, ?_, ?_, ?_, StAt.keepS h4 (off1 h3 (notT_lst _)) (keep_upd (List.mem_singleton.mpr rfl)), h5, h6, ?_⟩
  · rw [upd_ne nx]; exact h1
  · rw [upd_ne nd]; exact h2
  · rw [upd_same]
    show some (HO.lst (c.out.map outV1 ++ [outV1 ln])) = some (.lst ((c.out ++ [ln]).map outV1))
    rw [List.map_append]
    rfl
  · show (c.out ++ [ln]).length ≤ m
    rw [List.length_append]
    exact hl
/-- what a run asks is few and low -/
theorem runI_few (rs : List K68.Ru) (tl : K68.Md → K68.Rs) : ∀ (k i : Nat) (m : K68.Mk) (as : List Nat), rs.length - i ≤ k → (∀ a ∈ as, a < rs.length) →
    (∀ a ∈ (K68.runI rs tl i m as).2, a < rs.length) ∧ (K68.runI rs tl i m as).2.length ≤ as.length + (rs.length - i) := by
  intro k
  induction k with
  | zero =>
    intro i m as hk ha
    rw [K68.runI_end (by omega)]
    exact ⟨ha, Nat.le_add_right _ _⟩
  | succ k ih =>
    intro i m as hk ha
    by_cases hi : i < rs.length
    case neg =>
      rw [K68.runI_end hi]
      exact ⟨ha, Nat.le_add_right _ _⟩
    obtain ⟨u, hu⟩ : ∃ u, rs[i]? = some u := ⟨_, List.getElem?_eq_getElem hi⟩
    have ha2 : ∀ a ∈ as ++ [i], a < rs.length := fun a h => by
      rcases List.mem_append.mp h with h | h
      · exact ha a h
      · rw [List.mem_singleton.mp h]; exact hi
    cases e : (u.2.act (tl u.1)).ends (K68.marked (u.2.act (tl u.1)) m i) with
    | true =>
      rw [K68.runI_stop hu e]
      refine ⟨ha2, ?_⟩
      show (as ++ [i]).length ≤ _
      rw [List.length_append]
      show as.length + 1 ≤ _
      omega
    | false =>
      rw [K68.runI_go hu e]
      obtain ⟨b1, b2⟩ := ih (i + 1 + (u.2.act (tl u.1)).skips) (K68.marked (u.2.act (tl u.1)) m i) (as ++ [i]) (by omega) ha2
      refine ⟨b1, Nat.le_trans b2 ?_⟩
      rw [List.length_append]
      show as.length + 1 + _ ≤ _
      omega
theorem run_few {c : K68.Co} (h : c.rs.length ≤ 12) : (∀ a ∈ c.run.2, a < 12) ∧ c.run.2.length ≤ 12 := by
  obtain ⟨h1, h2⟩ := runI_few c.rs (K68.tellF c.told) c.rs.length 0 .non [] (Nat.le_refl _) (fun a h => nomatch h)
  exact ⟨fun a ha => Nat.lt_of_lt_of_le (h1 a ha) h, Nat.le_trans h2 (by show 0 + (c.rs.length - 0) ≤ 12; omega)⟩
theorem inS (c : K68.Co) : V.str (if c.run.1 = .good then "in" else "out") = outV1 (K68.outW c.isIn) := by
  unfold K68.Co.isIn K68.outW
  by_cases e : c.run.1 = .good
  · rw [if_pos e, decide_eq_true e]
    rfl
  · rw [if_neg e, decide_eq_false e]
    rfl
end K6
set_option Elab.async false
set_option linter.all false
set_option maxRecDepth 100000
set_option maxHeartbeats 4000000
set_option pp.deepTerms false
set_option pp.deepTerms.threshold 6
set_option pp.maxSteps 400
/-! K68Exe: Machine.execute -/
namespace K6
open PySem PySem.Spec PyProof.Rows L2
theorem Keep.one {x d o : Addr} {H H' : Hp} (k : Keep [x] H H') : Keep [x, d, o] H H' := fun b ob e n => k b ob e fun z => n (by rw [List.mem_singleton.mp z]; exact List.mem_cons_self)
theorem num_len : ∀ j, j < 12 → (Str.ofString (toString ((j : Nat) : Int))).length ≤ 2 := by decide +kernel
theorem num_sum {l : List Nat} (h : ∀ a ∈ l, a < 12) (hl : l.length ≤ 12) : ((l.map fun (j : Nat) => Str.ofString (toString (j : Int))).map (·.length)).sum + (l.map fun (j : Nat) => Str.ofString (toString (j : Int))).length * (" " : Str).length ≤ 16777216 := by
  have e : ∀ l : List Nat, (∀ a ∈ l, a < 12) → ((l.map fun (j : Nat) => Str.ofString (toString (j : Int))).map (·.length)).sum ≤ 2 * l.length := by
    intro l
    induction l with
    | nil => exact fun _ => Nat.le_refl _
    | cons a l ih =>
      intro h
      have z1 := num_len a (h a List.mem_cons_self)
      have z2 := ih fun b hb => h b (List.mem_cons_of_mem _ hb)
      rw [List.map_cons, List.map_cons, List.sum_cons, List.length_cons]
      omega
  have z := e l h
  have z1 : (" " : Str).length = 1 := by decide +kernel
  rw [List.length_map, z1]
  omega
/-- a row's block -/
def BlkOf (K : PySem.W.Frag) (G : Hp) (u : K68.T) (bl : Addr) : Prop := match u with
  | .rep k b _ => k ≤ 3 ∧ ∃ bs, G bl = some (.lst (bs.map V.ref)) ∧ RwL K G b bs
  | .whn _ b _ => ∃ bs, G bl = some (.lst (bs.map V.ref)) ∧ RwL K G b bs
  | _ => True
theorem kS_int {k : Nat} (h : k ≤ 3) : PySem.intText? (kS k) = some (k : Int) ∧ (kS k).length ≤ 640 := by
  match k, h with
  | 0, _ => exact ⟨by decide +kernel, by decide +kernel⟩
  | 1, _ => exact ⟨by decide +kernel, by decide +kernel⟩
  | 2, _ => exact ⟨by decide +kernel, by decide +kernel⟩
  | 3, _ => exact ⟨by decide +kernel, by decide +kernel⟩
/-- the head of a row -/
def hdT : K68.T → Hd
  | .line l _ => .ln l | .rep k _ _ => .rep k | .whn o _ _ => .whn o | .nil => .en
theorem cut1 {x : V} {xs : List V} : cutV (x :: xs) (some 1) none = xs := by
  unfold cutV
  rw [HT.sIx_none, show (1 : Int) = ((1 : Nat) : Int) from rfl, HT.sIx_nat, Nat.min_eq_left (by show 1 ≤ xs.length + 1; omega)]
  show xs.take (xs.length + 1 - 1) = _
  rw [Nat.add_sub_cancel, List.take_of_length_le (Nat.le_refl _)]
section
variable {P : Program} {w : World} {K : PySem.W.Frag} {mg : Str → Option Value} {base : Heap}
theorem ok_Exe (T : Tx w K mg) {n k : Nat} (F : Mt P w K mg base (L2.CX P w) k "Machine" "execute_all" (spAllN K n)) (hk : 7 ≤ k) : Mt P w K mg base (CXU K P w) (k + 1) "Machine" "execute" (spEx K n) := by
  refine ⟨T.d_MaExe.r sc_MaExe bi_MaExe (fun vs H Q E h => ?_) (fun cdv A outer s0 H vs Q E hr h => ?_), T.m_Machine_execute, T.c_Machine⟩
  · obtain ⟨x, d, o, c, m, G, r, u, rfl, _⟩ := h
    rfl
  obtain ⟨x, d, o, c, m, G, r, u, rfl, hm, hG, one, hrw, hht, hsm, ⟨kvs9, hkv, hkl⟩, hol, q1, q2⟩ := h
  have hu := hr.units
  refine ⟨_, pss_cons (ps_par (i := 2) (j := 3) rfl sc_MaExe.nd rfl rfl (by decide) rfl rfl (pa_cons (pe_ix ix_list (SlX.pe_sl (pv 1)) pe_int (fun _ _ => rfl)) (pa_cons (pe_slice sl_list (SlX.pe_sl (pv 1)) (po_some pe_int) po_none) pa_nil)) (by rfl))
    (pss_one (ps_if (pt_cmpR op_eq (pv 2) (ks T.s_ADD) (nomark _))
      (pss_one (ps_fld (pv 0) (pe_op (op_addI (ok_StAdd T) (hr.mono (by omega)) T.m_Stack___add__ T.selfF (fun σ => L2N.passAt (takesU1 rfl rfl rfl rfl) σ)) (pe_fld (pv 0) rfl) (ck (ok_StInit T) hr (by omega) paN (pa_cons (ck (ok_RuleInit T) hr (by omega) pa0
        (pa_cons (pe_ix ix_list (pv 3) pe_int (fun _ _ => rfl)) (pa_cons (gd (ok_readCtl T) hr (by omega) pass0 (pa_cons (pe_ix ix_list (pv 3) pe_int (fun _ _ => rfl)) pa_nil)) pa_nil))) pa_nil))) rfl))
    (pss_one (ps_if (pt_cmpR op_eq (pv 2) (ks T.s_DROP) (nomark _))
      (pss_one (ps_expr (md (ok_MaSpl T) hr (by omega) (fun σ => L2.passAt (takesU2 rfl rfl rfl rfl) σ) (pv 0) (pa_cons (pv 1) (pa_cons (pe_callTy call_int_str (by rfl) T.b_int (by decide +kernel) (pa_cons (pe_ix ix_list (pv 3) pe_int (fun _ _ => rfl)) pa_nil)) (pa_cons pe_int pa_nil))))))
    (pss_one (ps_if (pt_cmpR op_eq (pv 2) (ks T.s_SWAP) (nomark _))
      (pss_one (ps_expr (md (ok_MaSpl T) hr (by omega) (fun σ => L2.passAt (takesU2 rfl rfl rfl rfl) σ) (pv 0) (pa_cons (pv 1) (pa_cons (pe_callTy call_int_str (by rfl) T.b_int (by decide +kernel) (pa_cons (pe_ix ix_list (pv 3) pe_int (fun _ _ => rfl)) pa_nil)) (pa_cons pe_int pa_nil))))))
    (pss_one (ps_if (pt_cmpR op_eq (pv 2) (ks T.s_TELL) (nomark _))
      (pss_one (ps_dput (hu_of hr) (pe_fld (pv 0) rfl) (pe_ix ix_list (pv 3) pe_int (fun _ _ => rfl)) (pe_ix ix_list (pv 3) pe_int (fun _ _ => rfl)) rfl))
    (pss_one (ps_if (pt_cmpR op_eq (pv 2) (ks T.s_RUN) (nomark _))
      (pss_one (ps_expr (pe_bm PySem.F.plainAttrs_list PySem.F.slot_list_append PySem.F.type_list_append mt_append (pe_fld (pv 0) rfl) (pa_cons (md0 (ok_RunOut T) hr (by omega) pa0 (md0 (ok_MaRun T) hr (by omega) pa0 (pv 0))) pa_nil))))
    (pss_one (ps_if (pt_cmpR op_eq (pv 2) (ks T.s_RULES) (nomark _))
      (pss_cons (ps_setLc (i := 4) (own := [("number", 6)]) (g := gName 6) (tt := tYes) rfl sc_MaExe.nd rfl rfl (sw_true rfl rfl rfl rfl) (pi_list (pe_fld (md0 (ok_MaRun T) hr (by omega) pa0 (pv 0)) rfl)) (blkOk_by (N := ["self", "row", "word", "rest", "numbers", "turn", "number"]) (sc := defScope s_MaExe) (by decide +kernel))
          (fun _ _ _ _ _ => pg_name (i := 6) sc_MaExe.nd rfl (Or.inl rfl)) (fun _ _ _ _ _ => pts_nil) (fun _ _ _ _ _ => pe_callTy call_str_int (by rfl) T.b_str (by decide +kernel) (pa_cons (pv 6) pa_nil)))
      (pss_one (ps_expr (pe_bm PySem.F.plainAttrs_list PySem.F.slot_list_append PySem.F.type_list_append mt_append (pe_fld (pv 0) rfl) (pa_cons (pe_ifExp (pt_cmpR (op_neNil (Nat.lt_of_le_of_lt (Nat.le_add_right _ _) hu)) (pv 4) (pe_lst pa_nil) (nomark _)) (pe_join pe_str (pv 4)) pe_str) pa_nil)))))
    (pss_one (ps_if (pt_cmpR op_eq (pv 2) (ks T.s_REPEAT) (nomark _))
      (pss_one (ps_for PassesOwn.leaving rfl (pi_range1 (by rfl) T.b_range (pa_cons (pe_callTy call_int_str (by rfl) T.b_int (by decide +kernel) (pa_cons (pe_ix ix_list (pv 3) pe_int (fun _ _ => rfl)) pa_nil)) pa_nil)) (pg_name (i := 5) sc_MaExe.nd rfl (.inl rfl))
        (pss_cons (ps_expr (md0 (ok_MaStep T) hr (by omega) pa0 (pv 0))) (pss_one (ps_expr (md F hr (Nat.le_refl k) (fun σ => L2.passAt (takesU2 rfl rfl rfl rfl) σ) (pv 0) (pa_cons (SlX.pe_sl (pv 1)) pa_nil)))))))
    (pss_one (ps_if (pt_cmpR op_eq (md0 (ok_RunOut T) hr (by omega) pa0 (md0 (ok_MaRun T) hr (by omega) pa0 (pv 0))) (pe_ix ix_list (pv 3) pe_int (fun _ _ => rfl)) (nomark _))
      (pss_one (ps_expr (md F hr (Nat.le_refl k) (fun σ => L2.passAt (takesU2 rfl rfl rfl rfl) σ) (pv 0) (pa_cons (SlX.pe_sl (pv 1)) pa_nil)))) pss_nil)))))))))))))))), ?_⟩
  have hrow : ∃ wl bl hd, RowAt K G r wl bl ∧ H wl = some (.lst ((hdW hd).map V.str)) ∧ hd = hdT u ∧ BlkOf K G u bl := by
    cases one with
    | line l => obtain ⟨r', wl, bl, ys, e, h, hw, _⟩ := hrw; cases e; exact ⟨wl, bl, _, h, hG.1 _ _ hw, rfl, trivial⟩
    | rep k b => obtain ⟨r', wl, bl, bs, ys, e, h, hw, hk, hbl, hb, _⟩ := hrw; cases e; exact ⟨wl, bl, _, h, hG.1 _ _ hw, rfl, hk, bs, hbl, hb⟩
    | whn o b => obtain ⟨r', wl, bl, bs, ys, e, h, hw, hbl, hb, _⟩ := hrw; cases e; exact ⟨wl, bl, _, h, hG.1 _ _ hw, rfl, bs, hbl, hb⟩
  obtain ⟨wl, bl, hd, ⟨dr, vs, num, g1, g2, r3, r4, r5⟩, hwl, hhd, hblk⟩ := hrow
  have r1 := hG.1 _ _ g1
  have r2 := hG.1 _ _ g2
  refine ⟨_, rfl, r, _, dr, _, vs, 2, _, rfl, .inr ⟨r1, r2⟩, T.cRow, T.sWor, r4, wl, _, 0, _, rfl, rfl, SqL.of hwl, atI0 _ _, ?_⟩
  refine ⟨_, rfl, r, _, dr, _, vs, 2, _, rfl, .inr ⟨r1, r2⟩, T.cRow, T.sWor, r4, 1, rfl, wl, _, rfl, SqL.of hwl, fun wr hwr => ?_⟩
  rw [show cutV ((hdW hd).map V.str) (some 1) none = (hdA hd).map V.str from cut1]
  have k1 := same_upd (o := HO.lst ((hdA hd).map V.str)) hwr
  have hm1 := hm.mono k1
  have hwr1 : upd H wr (HO.lst ((hdA hd).map V.str)) wr = some (.lst ((hdA hd).map V.str)) := upd_same
  generalize upd H wr (HO.lst ((hdA hd).map V.str)) = H1 at k1 hm1 hwr1
  have hG1 : Fz [x, d, o] G H1 := hG.keep fun b ob e _ => k1 b ob e
  have same_k : ∀ {H' : Hp}, Same H1 H' → Keep [x, d, o] H H' := fun {H'} k b ob e _ => k b ob (k1 b ob e)
  subst hhd
  refine ⟨_, _, rfl, ?_⟩
  have ⟨dx, s, kvs, m1, m2, m3, m4, m5, m6, m7⟩ := hm1
  have hkv1 := k1 _ _ hkv
  have hro1 : RowAt K H1 r wl bl := ⟨dr, vs, num, k1 _ _ r1, k1 _ _ r2, r3, r4, r5⟩
  cases one with
  | line l =>
    have hc0 : K68.exC (.line l .nil) c = K68.exL l c := by
      show (K68.exL l c).bind (K68.exC .nil) = _
      cases K68.exL l c <;> rfl
    rw [hc0] at q1 q2
    have hs1 : K68.sm (.line l .nil) = 1 := rfl
    rw [hs1] at q1 hsm
    cases l with
    | add c0 md =>
      refine ⟨_, rfl, rfl, true, rfl, it rfl ?_⟩
      refine ⟨_, rfl, x, _, dx, _, _, rfl, m1, T.c_Machine, T.n_Machine_present, rfl, ?_⟩
      refine ⟨_, rfl, wr, _, 1, _, rfl, rfl, SqL.of hwr1, rfl, _, rfl, wr, _, 0, _, rfl, rfl, SqL.of hwr1, rfl, c0, rfl, fun v H2 k2 hv => ?_⟩
      intro xr dxr hxr hdxr hne
      refine ⟨xr, dxr, md, c0, v, rfl, upd_same, hv.mono (same_make hxr hdxr), fun H3 k3 hr3 => ⟨rfl, ?_⟩⟩
      have k13 : Same H1 H3 := fun b ob e => Keep.single k3 (same_make hxr hdxr) hxr b ob (k2 b ob e)
      intro xs dxs hxs hdxs hne2
      show spSt K (V.ref xs :: ([xr] : List Addr).map V.ref) _ _ _
      refine make_stackQ (es := [xr]) (rs := [(md, c0)]) hxs hdxs (.cons hr3 .nil) (show 1 ≤ 13 by decide) (fun _ H4 k4 st4 => ⟨rfl, ?_⟩) fun z => absurd (show 12 < 1 from z) (by decide)
      have k14 : Same H1 H4 := fun b ob e => k4 b ob (k13 b ob e)
      have ⟨ds, p, q0, nn, es, ss, s1, s2, s3, s4, s5, s6, s7⟩ := StAt.mono m4 k14
      have ⟨ds', p', q0', nn', es', ss', s1', _⟩ := st4
      have hlen : c.rs.length + [(md, c0)].length = c.rs.length + 1 := rfl
      refine ⟨s, xs, _, _, _, _, rfl, rfl, s1, s1', s, xs, c.rs, [(md, c0)], rfl, StAt.mono m4 k14, st4, by rw [hlen]; omega, fun hle c' H5 k5 st5 => ⟨⟨_, rfl⟩, ?_⟩, fun hlt dd H5 k5 => ?_⟩
      · have k15 : Same H1 H5 := fun b ob e => k5 b ob (k14 b ob e)
        refine ⟨_, rfl, x, _, dx, _, rfl, k15 _ _ m1, T.c_Machine, T.n_Machine_present, by show 4 < 1000; decide, ?_⟩
        have e1 : K68.exL (.add c0 md) c = some { c with rs := c.rs ++ [(md, c0)] } := if_pos (by rw [hlen] at hle; omega)
        exact q1 _ e1 m _ ((Keep.trans (same_k k15) (keep_upd List.mem_cons_self))) (MaAt.set (c' := { c with rs := c.rs ++ [(md, c0)] }) hm1 k15 ⟨s, m, k15 _ _ m1⟩ st5 rfl rfl (Nat.le_refl m)) (Nat.le_refl _)
      · have e1 : K68.exL (.add c0 md) c = none := if_neg (by rw [hlen] at hlt; omega)
        exact q2 e1 _ dd H5 (.inr rfl) (same_k fun b ob e => k5 b ob (k14 b ob e))
    | drop =>
      refine ⟨_, rfl, rfl, false, rfl, if_ rfl ⟨_, rfl, rfl, true, rfl, it rfl ?_⟩⟩
      refine ⟨_, rfl, x, dx, _, rfl, m1, rfl, _, rfl, _, rfl, wr, _, 0, _, rfl, rfl, SqL.of hwr1, rfl, _, 0, rfl, by decide +kernel, by decide +kernel, ?_⟩
      exact ⟨x, d, o, c, m, r, wl, bl, .drop, rfl, .inl rfl, hm1, hro1, fun c' hc H2 k2 hm2 => q1 c' hc m H2 (Keep.trans (same_k fun _ _ e => e) (Keep.one k2)) hm2 (Nat.le_refl _), fun hc dd H2 k2 => ⟨rfl, q2 hc _ dd H2 (.inl rfl) (same_k k2)⟩⟩
    | drop99 =>
      refine ⟨_, rfl, rfl, false, rfl, if_ rfl ⟨_, rfl, rfl, true, rfl, it rfl ?_⟩⟩
      refine ⟨_, rfl, x, dx, _, rfl, m1, rfl, _, rfl, _, rfl, wr, _, 0, _, rfl, rfl, SqL.of hwr1, rfl, _, 99, rfl, by decide +kernel, by decide +kernel, ?_⟩
      exact ⟨x, d, o, c, m, r, wl, bl, .drop99, rfl, .inr (.inr rfl), hm1, hro1, fun c' hc H2 k2 hm2 => q1 c' hc m H2 (Keep.trans (same_k fun _ _ e => e) (Keep.one k2)) hm2 (Nat.le_refl _), fun hc dd H2 k2 => ⟨rfl, q2 hc _ dd H2 (.inl rfl) (same_k k2)⟩⟩
    | swap =>
      refine ⟨_, rfl, rfl, false, rfl, if_ rfl ⟨_, rfl, rfl, false, rfl, if_ rfl ⟨_, rfl, rfl, true, rfl, it rfl ?_⟩⟩⟩
      refine ⟨_, rfl, x, dx, _, rfl, m1, rfl, _, rfl, _, rfl, wr, _, 0, _, rfl, rfl, SqL.of hwr1, rfl, _, 0, rfl, by decide +kernel, by decide +kernel, ?_⟩
      exact ⟨x, d, o, c, m, r, wl, bl, .swap, rfl, .inr (.inl rfl), hm1, hro1, fun c' hc H2 k2 hm2 => q1 c' hc m H2 (Keep.trans (same_k fun _ _ e => e) (Keep.one k2)) hm2 (Nat.le_refl _), fun hc dd H2 k2 => ⟨rfl, q2 hc _ dd H2 (.inl rfl) (same_k k2)⟩⟩
    | tell md rr =>
      refine ⟨_, rfl, rfl, false, rfl, if_ rfl ⟨_, rfl, rfl, false, rfl, if_ rfl ⟨_, rfl, rfl, false, rfl, if_ rfl ⟨_, rfl, rfl, true, rfl, it rfl ?_⟩⟩⟩⟩
      refine ⟨_, rfl, wr, _, 1, _, rfl, rfl, SqL.of hwr1, rfl, ?_⟩
      refine ⟨_, rfl, x, _, dx, _, _, rfl, m1, T.c_Machine, T.n_Machine_told, rfl, _, rfl, wr, _, 0, _, rfl, rfl, SqL.of hwr1, rfl, ?_⟩
      refine ⟨d, _, rfl, DPut.k (k := .inr (mdS md)) hkv1 (Nat.lt_of_lt_of_le (show kvs9.length < 301 by omega) (by decide)), ?_⟩
      exact q1 _ rfl m _ (Keep.trans (same_k fun _ _ e => e) (keep_upd (List.mem_cons_of_mem _ List.mem_cons_self))) (MaAt.tell hm1 hkv1 hkl md rr) (Nat.le_refl _)
    | run =>
      refine ⟨_, rfl, rfl, false, rfl, if_ rfl ⟨_, rfl, rfl, false, rfl, if_ rfl ⟨_, rfl, rfl, false, rfl, if_ rfl ⟨_, rfl, rfl, false, rfl, if_ rfl ⟨_, rfl, rfl, true, rfl, it rfl ?_⟩⟩⟩⟩⟩
      refine ⟨_, rfl, x, _, dx, _, _, rfl, m1, T.c_Machine, T.n_Machine_output, rfl, .inl ⟨rfl, _, SqL.of m3⟩, ?_⟩
      refine ⟨_, rfl, x, dx, _, rfl, m1, rfl, x, d, o, c, m, rfl, hm1, fun H2 rn k2 hrun => ?_⟩
      have ⟨dxr, dd, ll, pp, hx, hl, hmk⟩ := hrun.ex
      refine ⟨rn, dxr, _, rfl, hx, rfl, rn, _, rfl, hrun, o, _, _, rfl, rfl, k2 _ _ m3, ?_, ?_⟩
      · rw [List.length_map]
        exact Nat.lt_of_lt_of_le (show c.out.length < 301 by omega) (by decide)
      · rw [inS]
        exact q1 _ rfl m _ (Keep.trans (same_k k2) (keep_upd (List.mem_cons_of_mem _ (List.mem_cons_of_mem _ List.mem_cons_self)))) (MaAt.say (hm1.mono k2) hol _) (Nat.le_refl _)
    | rules =>
      refine ⟨_, rfl, rfl, false, rfl, if_ rfl ⟨_, rfl, rfl, false, rfl, if_ rfl ⟨_, rfl, rfl, false, rfl, if_ rfl ⟨_, rfl, rfl, false, rfl, if_ rfl ⟨_, rfl, rfl, false, rfl, if_ rfl ⟨_, rfl, rfl, true, rfl, it rfl ?_⟩⟩⟩⟩⟩⟩
      refine ⟨_, rfl, x, dx, _, rfl, m1, rfl, x, d, o, c, m, rfl, hm1, fun H2 rn k2 hrun => ?_⟩
      have ⟨dxr, dd, ll, pp, hx, hl, hmk⟩ := hrun.ex
      obtain ⟨few1, few2⟩ := run_few (c := c) (by obtain ⟨_, _, _, _, _, _, _, _, _, _, _, _, z⟩ := m4; exact z)
      refine ⟨rn, _, dxr, _, _, rfl, hx, T.c_Run, T.n_Run_asked_rules, rfl, ll, rfl, ⟨_, SqL.of hl⟩, fun D hD => ?_⟩
      refine lc_it (walk_list (xs := natV c.run.2)) (fun i H' => H' D = some (.lst (((c.run.2.take i).map fun (j : Nat) => Str.ofString (toString (j : Int))).map V.str)) ∧ ∀ b ob, H2 b = some ob → H' b = some ob) ⟨upd_same, same_upd hD⟩ (fun i H' _ p => SqL.of (p.2 _ _ hl)) (fun i y H3 H4 hi hp hy => ?_) (fun H3 hp => ?_)
      · obtain ⟨rfl, hx2⟩ := hy
        obtain ⟨j, hj, rfl⟩ := get_map hx2
        have hj12 := few1 j (List.mem_of_getElem? hj)
        refine ⟨rfl, _, rfl, j, rfl, ?_, _, hp.1, ?_, ?_, fun b ob e => ?_⟩
        · exact Nat.lt_of_le_of_lt (Nat.log2_le_self _) (by rw [Int.natAbs_natCast]; omega)
        · rw [List.length_map, List.length_map]
          exact Nat.lt_of_le_of_lt (List.length_take_le' _ _) (Nat.lt_of_le_of_lt few2 (by decide))
        · rw [upd_same, List.take_succ, hj, List.map_append, List.map_append]
          rfl
        · rw [upd_ne (ne_of_none e hD)]
          exact hp.2 b ob e
      · have hpD := hp.1
        rw [show (natV c.run.2).length = c.run.2.length by unfold natV; rw [List.length_map], List.take_length] at hpD
        have k3 : Same H1 H3 := fun b ob e => hp.2 b ob (k2 b ob e)
        refine ⟨_, rfl, x, _, dx, _, _, rfl, k3 _ _ m1, T.c_Machine, T.n_Machine_output, rfl, .inl ⟨rfl, _, SqL.of (k3 _ _ m3)⟩, ?_⟩
        refine ⟨_, rfl, Nat.zero_le _, fun q hq => ?_⟩
        have k4 : Same H1 (upd H3 q (.lst [])) := fun b ob e => same_upd hq b ob (k3 b ob e)
        refine ⟨D, q, _, rfl, rfl, SqL.of (same_upd hq _ _ hpD), SqL.of upd_same, _, rfl, ?_⟩
        have fin : ∀ z : Str, z = numS c.run.2 → Q .non (upd (upd H3 q (.lst [])) o (.lst (c.out.map outV1 ++ [V.str z]))) := fun z hz => by
          rw [hz]
          exact q1 _ rfl m _ (Keep.trans (same_k k4) (keep_upd (List.mem_cons_of_mem _ (List.mem_cons_of_mem _ List.mem_cons_self)))) (MaAt.say (hm1.mono k4) hol (.asked c.run.2)) (Nat.le_refl _)
        have lo : (c.out.map outV1).length < sizeLine := by
          rw [List.length_map]
          exact Nat.lt_of_lt_of_le (show c.out.length < 301 by omega) (by decide)
        by_cases ez : c.run.2 = []
        · refine if_ (by rw [ez]; rfl) ?_
          exact ⟨o, _, _, rfl, rfl, k4 _ _ m3, lo, fin _ (by unfold numS; rw [if_pos ez])⟩
        · refine it (by cases e : c.run.2 with | nil => exact absurd e ez | cons a l => rfl) ?_
          refine ⟨⟨_, rfl⟩, _, rfl, _, D, _, rfl, rfl, .inl (SqL.of (same_upd hq _ _ hpD)), ?_, o, _, _, rfl, rfl, k4 _ _ m3, lo, fin _ (by unfold numS; rw [if_neg ez])⟩
          exact num_sum few1 few2
  | rep kk b =>
    obtain ⟨hkk, bs, hbl, hb⟩ := hblk
    have hc0 : K68.exC (.rep kk b .nil) c = K68.iterC (K68.exC b) kk c := by
      show (K68.iterC (K68.exC b) kk c).bind (K68.exC .nil) = _
      cases K68.iterC (K68.exC b) kk c <;> rfl
    rw [hc0] at q1 q2
    have hs1 : K68.sm (.rep kk b .nil) = 1 + kk * (1 + K68.sm b) := Nat.add_zero _
    rw [hs1] at q1 hsm
    obtain ⟨ki1, ki2⟩ := kS_int hkk
    refine ⟨_, rfl, rfl, false, rfl, if_ rfl ⟨_, rfl, rfl, false, rfl, if_ rfl ⟨_, rfl, rfl, false, rfl, if_ rfl ⟨_, rfl, rfl, false, rfl, if_ rfl ⟨_, rfl, rfl, false, rfl, if_ rfl ⟨_, rfl, rfl, false, rfl, if_ rfl ⟨_, rfl, rfl, true, rfl, it rfl ?_⟩⟩⟩⟩⟩⟩⟩
    refine ⟨_, rfl, wr, _, 0, _, rfl, rfl, SqL.of hwr1, rfl, _, (kk : Int), rfl, ki1, ki2, (kk : Int), rfl, by omega, by omega, ?_⟩
    have hn : ∃ n', n = n' + 1 := by
      cases n with
      | zero =>
        have z : max (1 + ht b) 0 ≤ 0 := hht
        omega
      | succ n' => exact ⟨n', rfl⟩
    obtain ⟨n', rfl⟩ := hn
    have hht' : ht b ≤ n' := by
      have z : max (1 + ht b) 0 ≤ n' + 1 := hht
      omega
    refine for_range (n := kk) (fun i σ H' => ∃ z c2 m2, σ = [some (.ref x), some (.ref r), some (.str "repeat"), some (.ref wr), none, z, none] ∧ Keep [x, d, o] H H' ∧ MaAt K H' x d o c2 m2 ∧ K68.iterC (K68.exC b) kk c = K68.iterC (K68.exC b) (kk - i) c2 ∧ m2 + (kk - i) * (1 + K68.sm b) ≤ m + kk * (1 + K68.sm b))
      ⟨none, c, m, rfl, same_k fun _ _ e => e, hm1, rfl, Nat.le_refl _⟩ (fun i σ H2 hi ⟨z, c2, m2, hσ, k2, hm2, hex, hs⟩ => ?_) (fun σ H2 ⟨z, c2, m2, hσ, k2, hm2, hex, hs⟩ => ?_)
    · subst hσ
      have hki : kk - i = (kk - (i + 1)) + 1 := by omega
      rw [hki] at hex hs
      rw [Nat.succ_mul] at hs
      have ⟨dx2, s2, kvs2, x2, _⟩ := hm2
      refine ⟨_, rfl, x, dx2, _, rfl, x2, rfl, x, d, o, c2, m2, rfl, hm2, by omega, fun H3 k3 hm3 => ?_⟩
      have k13 : Keep [x, d, o] H H3 := Keep.trans k2 (Keep.one k3)
      have f3 := hG.keep k13
      have ⟨dx3, s3, kvs3, x3, _⟩ := hm3
      refine ⟨_, rfl, x, dx3, _, rfl, x3, rfl, _, rfl, r, _, dr, _, vs, 0, _, rfl, .inr ⟨f3.1 _ _ g1, f3.1 _ _ g2⟩, T.cRow, T.sBlo, r5, x, d, o, c2, m2 + 1, G, bl, bs, b, rfl, hm3, f3, hbl, hb, hht', by omega, fun c' hc' m' H4 k4 hm4 hle => ?_, fun hc' dd H4 k4 => ?_⟩
      · refine ⟨_, c', m', rfl, Keep.trans k13 k4, hm4, ?_, by omega⟩
        rw [hex]
        show (K68.exC b c2).bind _ = _
        rw [hc']
        rfl
      · refine ⟨rfl, q2 ?_ _ dd H4 (.inl rfl) (Keep.trans k13 k4)⟩
        rw [hex]
        show (K68.exC b c2).bind _ = _
        rw [hc']
        rfl
    · rw [Nat.sub_self] at hex hs
      rw [Nat.zero_mul] at hs
      exact q1 c2 hex m2 H2 k2 hm2 (by omega)
  | whn oo b =>
    obtain ⟨bs, hbl, hb⟩ := hblk
    have hc0 : K68.exC (.whn oo b .nil) c = if c.isIn = oo then K68.exC b c else some c := by
      show (if c.isIn = oo then K68.exC b c else some c).bind (K68.exC .nil) = _
      cases (if c.isIn = oo then K68.exC b c else some c) <;> rfl
    rw [hc0] at q1 q2
    have hs1 : K68.sm (.whn oo b .nil) = 1 + K68.sm b := Nat.add_zero _
    rw [hs1] at q1 hsm
    have hn : ∃ n', n = n' + 1 := by
      cases n with
      | zero =>
        have z : max (1 + ht b) 0 ≤ 0 := hht
        omega
      | succ n' => exact ⟨n', rfl⟩
    obtain ⟨n', rfl⟩ := hn
    have hht' : ht b ≤ n' := by
      have z : max (1 + ht b) 0 ≤ n' + 1 := hht
      omega
    refine ⟨_, rfl, rfl, false, rfl, if_ rfl ⟨_, rfl, rfl, false, rfl, if_ rfl ⟨_, rfl, rfl, false, rfl, if_ rfl ⟨_, rfl, rfl, false, rfl, if_ rfl ⟨_, rfl, rfl, false, rfl, if_ rfl ⟨_, rfl, rfl, false, rfl, if_ rfl ⟨_, rfl, rfl, false, rfl, if_ rfl ?_⟩⟩⟩⟩⟩⟩⟩
    refine ⟨_, rfl, x, dx, _, rfl, m1, rfl, x, d, o, c, m, rfl, hm1, fun H2 rn k2 hrun => ?_⟩
    have ⟨dxr, dd, ll, pp, hx, hl, hmk⟩ := hrun.ex
    refine ⟨rn, dxr, _, rfl, hx, rfl, rn, _, rfl, hrun, _, rfl, wr, _, 0, _, rfl, rfl, SqL.of (k2 _ _ hwr1), rfl, rfl, _, rfl, ?_⟩
    have eo : decide (V.str (if c.run.1 = .good then "in" else "out") = V.str (ioS oo)) = decide (c.isIn = oo) := by
      unfold K68.Co.isIn
      by_cases e : c.run.1 = .good
      · rw [if_pos e, decide_eq_true e]
        cases oo <;> decide
      · rw [if_neg e, decide_eq_false e]
        cases oo <;> decide
    have f2 := hG1.keep (S := [x, d, o]) (H' := H2) (fun b ob e _ => k2 b ob e)
    by_cases hin : c.isIn = oo
    · rw [if_pos hin] at q1 q2
      refine it (eo.trans (decide_eq_true hin)) ?_
      refine ⟨_, rfl, x, dx, _, rfl, k2 _ _ m1, rfl, _, rfl, r, _, dr, _, vs, 0, _, rfl, .inr ⟨f2.1 _ _ g1, f2.1 _ _ g2⟩, T.cRow, T.sBlo, r5, x, d, o, c, m, G, bl, bs, b, rfl, hm1.mono k2, f2, hbl, hb, hht', by omega, fun c' hc' m' H4 k4 hm4 hle => ?_, fun hc' dd H4 k4 => ?_⟩
      · exact q1 c' hc' m' H4 (Keep.trans (same_k k2) k4) hm4 (by omega)
      · exact ⟨rfl, q2 hc' _ dd H4 (.inl rfl) (Keep.trans (same_k k2) k4)⟩
    · rw [if_neg hin] at q1 q2
      refine if_ (eo.trans (decide_eq_false hin)) ?_
      exact q1 c rfl m H2 (same_k k2) (hm1.mono k2) (by omega)
end
end K6
namespace K6
open PySem PySem.Spec PyProof.Rows L2
theorem ok_AllN {P : Program} {w : World} {K : PySem.W.Frag} {mg : Str → Option Value} {base : Heap} (T : Tx w K mg) : ∀ n : Nat, Mt P w K mg base (L2.CX P w) (7 + 2 * n) "Machine" "execute_all" (spAllN K n)
  | 0 => ⟨fun A outer s H us vs Q E hr e0 r h => h.elim, T.m_Machine_execute_all, T.c_Machine⟩
  | n + 1 => ok_All T (k := 7 + 2 * n + 1) (ok_Exe T (ok_AllN T n) (Nat.le_add_right 7 _)) (Nat.le_trans (by decide) (Nat.le_trans (Nat.le_add_right 7 (2 * n)) (Nat.le_succ _)))
/-- execute_all, blocks three deep -/
theorem ok_Ex3 {P : Program} {w : World} {K : PySem.W.Frag} {mg : Str → Option Value} {base : Heap} (T : Tx w K mg) : Mt P w K mg base (L2.CX P w) 15 "Machine" "execute_all" (spAll K 3) := ok_AllN T 4
end K6
set_option Elab.async false
set_option linter.all false
set_option maxRecDepth 100000
set_option maxHeartbeats 2000000
/-! K68Scr1: the rows' texts, and how they are read -/
namespace K6
open PySem PySem.Spec PyProof.Rows L2
def linesT : K68.T → List Hd
  | .nil => []
  | .line l t => .ln l :: linesT t
  | .rep k b t => .rep k :: (linesT b ++ .en :: linesT t)
  | .whn o b t => .whn o :: (linesT b ++ .en :: linesT t)
theorem linesT_len : ∀ t, (linesT t).length = K68.nl t
  | .nil => rfl
  | .line l t => by
    show (linesT t).length + 1 = 1 + K68.nl t
    rw [linesT_len t, Nat.add_comm]
  | .rep k b t => by
    show (linesT b ++ Hd.en :: linesT t).length + 1 = 2 + K68.nl b + K68.nl t
    rw [List.length_append, List.length_cons, linesT_len b, linesT_len t]
    omega
  | .whn k b t => by
    show (linesT b ++ Hd.en :: linesT t).length + 1 = 2 + K68.nl b + K68.nl t
    rw [List.length_append, List.length_cons, linesT_len b, linesT_len t]
    omega
/-- what is read: the open blocks, the innermost first, with what stands before them; the rows of the innermost -/
abbrev PS := List (K68.T × Hd) × K68.T
/-- a block's row behind its end -/
def closed (h : Hd) (b : K68.T) : K68.T := match h with
  | .rep k => .rep k b .nil
  | .whn o => .whn o b .nil
  | _ => .nil
def stepP (s : PS) (h : Hd) : Option PS := match h with
  | .ln l => some (s.1, K68.app s.2 (.line l .nil))
  | .rep k => if s.1.length < 4 ∧ k ≤ 3 then some ((s.2, .rep k) :: s.1, .nil) else none
  | .whn o => if s.1.length < 4 then some ((s.2, .whn o) :: s.1, .nil) else none
  | .en => match s.1 with
    | [] => none
    | (p, h) :: fr => some (fr, K68.app p (closed h s.2))
def runP : PS → List Hd → Option PS
  | s, [] => some s
  | s, h :: l => (stepP s h).bind fun s' => runP s' l
/-- repeats are at most three times -/
def low : K68.T → Prop
  | .nil => True
  | .line _ t => low t
  | .rep k b t => k ≤ 3 ∧ low b ∧ low t
  | .whn _ b t => low b ∧ low t
theorem app_assoc : ∀ a b c : K68.T, K68.app (K68.app a b) c = K68.app a (K68.app b c)
  | .nil, b, c => rfl
  | .line l t, b, c => congrArg (K68.T.line l) (app_assoc t b c)
  | .rep k u t, b, c => congrArg (K68.T.rep k u) (app_assoc t b c)
  | .whn o u t, b, c => congrArg (K68.T.whn o u) (app_assoc t b c)
theorem app_nil : ∀ a : K68.T, K68.app a .nil = a
  | .nil => rfl
  | .line l t => congrArg (K68.T.line l) (app_nil t)
  | .rep k u t => congrArg (K68.T.rep k u) (app_nil t)
  | .whn o u t => congrArg (K68.T.whn o u) (app_nil t)
theorem runP_lines : ∀ (t : K68.T) (fr : List (K68.T × Hd)) (p : K68.T) (rest : List Hd), low t → fr.length + ht t ≤ 4 → runP (fr, p) (linesT t ++ rest) = runP (fr, K68.app p t) rest
  | .nil, fr, p, rest, _, _ => by rw [app_nil]; rfl
  | .line l t, fr, p, rest, hl, hh => by
    show runP (fr, K68.app p (.line l .nil)) (linesT t ++ rest) = _
    rw [runP_lines t fr _ rest hl hh, app_assoc]
    rfl
  | .rep k b t, fr, p, rest, hl, hh => by
    obtain ⟨h1, h2, h3⟩ := hl
    have e1 : max (1 + ht b) (ht t) = ht (.rep k b t) := rfl
    have lt : fr.length < 4 := by omega
    have s1 : stepP (fr, p) (.rep k) = some ((p, .rep k) :: fr, .nil) := if_pos ⟨lt, h1⟩
    show (stepP (fr, p) (.rep k)).bind (fun s' => runP s' ((linesT b ++ .en :: linesT t) ++ rest)) = _
    rw [s1, List.append_assoc]
    show runP ((p, .rep k) :: fr, .nil) (linesT b ++ (.en :: linesT t ++ rest)) = _
    rw [runP_lines b _ _ _ h2 (by show fr.length + 1 + ht b ≤ 4; omega)]
    show runP (fr, K68.app p (.rep k b .nil)) (linesT t ++ rest) = _
    rw [runP_lines t fr _ rest h3 (by omega), app_assoc]
    rfl
  | .whn o b t, fr, p, rest, hl, hh => by
    obtain ⟨h2, h3⟩ := hl
    have e1 : max (1 + ht b) (ht t) = ht (.whn o b t) := rfl
    have lt : fr.length < 4 := by omega
    have s1 : stepP (fr, p) (.whn o) = some ((p, .whn o) :: fr, .nil) := if_pos lt
    show (stepP (fr, p) (.whn o)).bind (fun s' => runP s' ((linesT b ++ .en :: linesT t) ++ rest)) = _
    rw [s1, List.append_assoc]
    show runP ((p, .whn o) :: fr, .nil) (linesT b ++ (.en :: linesT t ++ rest)) = _
    rw [runP_lines b _ _ _ h2 (by show fr.length + 1 + ht b ≤ 4; omega)]
    show runP (fr, K68.app p (.whn o b .nil)) (linesT t ++ rest) = _
    rw [runP_lines t fr _ rest h3 (by omega), app_assoc]
    rfl
theorem runP_all {t : K68.T} (hl : low t) (hh : ht t ≤ 4) : runP ([], .nil) (linesT t) = some ([], t) := by
  have z := runP_lines t [] .nil [] hl (by show 0 + ht t ≤ 4; omega)
  rw [List.append_nil] at z
  exact z
/-! ### texts -/
def txH (h : Hd) : Str := Txt.join " " (hdW h)
/-- all heads there are -/
def okHd : Hd → Prop
  | .rep k => k ≤ 3
  | _ => True
theorem split_hd (h : Hd) (hk : okHd h) : Txt.split (txH h) " " = hdW h := by
  cases h with
  | ln l =>
    cases l with
    | add c m => cases c <;> cases m <;> decide +kernel
    | drop => decide +kernel
    | swap => decide +kernel
    | drop99 => decide +kernel
    | tell m r => cases m <;> cases r <;> decide +kernel
    | run => decide +kernel
    | rules => decide +kernel
  | rep k =>
    match k, hk with
    | 0, _ => decide +kernel
    | 1, _ => decide +kernel
    | 2, _ => decide +kernel
    | 3, _ => decide +kernel
  | whn o => cases o <;> decide +kernel
  | en => decide +kernel
def plainT (z : Str) : Bool := !z.cps.toList.contains 10 && decide (z.length ≤ 40) && decide (1 ≤ z.length)
theorem plain_hd (h : Hd) (hk : okHd h) : plainT (txH h) = true := by
  cases h with
  | ln l =>
    cases l with
    | add c m => cases c <;> cases m <;> decide +kernel
    | drop => decide +kernel
    | swap => decide +kernel
    | drop99 => decide +kernel
    | tell m r => cases m <;> cases r <;> decide +kernel
    | run => decide +kernel
    | rules => decide +kernel
  | rep k =>
    match k, hk with
    | 0, _ => decide +kernel
    | 1, _ => decide +kernel
    | 2, _ => decide +kernel
    | 3, _ => decide +kernel
  | whn o => cases o <;> decide +kernel
  | en => decide +kernel
end K6
set_option Elab.async false
set_option linter.all false
set_option maxRecDepth 100000
set_option maxHeartbeats 2000000
/-! K68Scr2: a script's text, split -/
namespace K6
open PySem PySem.Spec PyProof.Rows L2
theorem joinL_len (sep : List Nat) : ∀ l : List (List Nat), (TL.joinL sep l).length ≤ (l.map (·.length)).sum + l.length * sep.length
  | [] => Nat.zero_le _
  | [p] => by
    show p.length ≤ (p.length + 0) + 1 * sep.length
    omega
  | p :: q :: r => by
    have z := joinL_len sep (q :: r)
    show (p ++ (sep ++ TL.joinL sep (q :: r))).length ≤ _
    rw [List.length_append, List.length_append, List.map_cons, List.sum_cons, List.length_cons (a := p), Nat.succ_mul]
    omega
theorem join_S' (ys : List Str) : Txt.join "\n" ys = SX.S (TL.joinL [10] (ys.map fun y => y.cps.toList)) := by
  have e : ys = (ys.map fun y => y.cps.toList).map SX.S := by
    rw [List.map_map]
    have : (SX.S ∘ fun y : Str => y.cps.toList) = id := funext fun y => SX.S_tl y
    rw [this, List.map_id]
  have z := SX.join_S [10] (ys.map fun y => y.cps.toList)
  rw [← e] at z
  exact z
theorem split_join {ys : List Str} (hne : ys ≠ []) (h : ∀ y ∈ ys, 10 ∉ y.cps.toList) : Txt.split (Txt.join "\n" ys) "\n" = ys := by
  rw [join_S']
  have z : Txt.split (SX.S (TL.joinL [10] (ys.map fun y => y.cps.toList))) (SX.S [10]) = _ := SX.split_S (by decide) (by decide)
  rw [SX.spl_join (by intro e; exact hne (List.map_eq_nil_iff.mp e)) (fun p hp => by
    obtain ⟨y, hy, rfl⟩ := List.mem_map.mp hp
    exact h y hy), List.map_map] at z
  have e : (SX.S ∘ fun y : Str => y.cps.toList) = id := funext fun y => SX.S_tl y
  rw [e, List.map_id] at z
  exact z
def linesS (t : K68.T) : List Str := (linesT t).map txH
def scrT (t : K68.T) : Str := Txt.join "\n" (linesS t)
theorem low_ok : ∀ {t : K68.T}, low t → ∀ h ∈ linesT t, okHd h
  | .nil, _, h, hm => nomatch hm
  | .line l t, hl, h, hm => by
    rcases List.mem_cons.mp hm with rfl | hm
    · exact trivial
    · exact low_ok (t := t) hl h hm
  | .rep k b t, hl, h, hm => by
    rcases List.mem_cons.mp hm with rfl | hm
    · exact hl.1
    rcases List.mem_append.mp hm with hm | hm
    · exact low_ok (t := b) hl.2.1 h hm
    rcases List.mem_cons.mp hm with rfl | hm
    · exact trivial
    · exact low_ok (t := t) hl.2.2 h hm
  | .whn k b t, hl, h, hm => by
    rcases List.mem_cons.mp hm with rfl | hm
    · exact trivial
    rcases List.mem_append.mp hm with hm | hm
    · exact low_ok (t := b) hl.1 h hm
    rcases List.mem_cons.mp hm with rfl | hm
    · exact trivial
    · exact low_ok (t := t) hl.2 h hm
theorem plain_parts {z : Str} (h : plainT z = true) : 10 ∉ z.cps.toList ∧ z.length ≤ 40 ∧ 1 ≤ z.length := by
  unfold plainT at h
  simp only [Bool.and_eq_true, decide_eq_true_eq, Bool.not_eq_true', List.contains_eq_mem, decide_eq_false_iff_not] at h
  exact ⟨h.1.1, h.1.2, h.2⟩
theorem linesS_plain {t : K68.T} (hl : low t) : ∀ z ∈ linesS t, 10 ∉ z.cps.toList ∧ z.length ≤ 40 ∧ 1 ≤ z.length := fun z hz => by
  obtain ⟨h, hm, rfl⟩ := List.mem_map.mp hz
  exact plain_parts (plain_hd h (low_ok hl h hm))
theorem sum_le : ∀ {l : List Str} {k : Nat}, (∀ z ∈ l, z.length ≤ k) → ((l.map (·.length)).sum) ≤ k * l.length
  | [], _, _ => Nat.le_refl _
  | z :: l, k, h => by
    have a := h z List.mem_cons_self
    have b := sum_le (l := l) (k := k) fun y hy => h y (List.mem_cons_of_mem _ hy)
    rw [List.map_cons, List.sum_cons, List.length_cons, Nat.mul_succ]
    omega
theorem scrT_split {t : K68.T} (hl : low t) (hne : linesT t ≠ []) : Txt.split (scrT t) "\n" = linesS t :=
  split_join (fun e => hne (List.map_eq_nil_iff.mp e)) fun y hy => (linesS_plain hl y hy).1
theorem scrT_len {t : K68.T} (hl : low t) : (scrT t).length ≤ 41 * K68.nl t := by
  have e : scrT t = SX.S (TL.joinL [10] ((linesS t).map fun y => y.cps.toList)) := join_S' _
  rw [e, SX.S_len]
  refine Nat.le_trans (joinL_len _ _) ?_
  rw [List.map_map, List.length_map]
  have z := sum_le (l := linesS t) (k := 40) fun z hz => (linesS_plain hl z hz).2.1
  have z1 : (linesS t).length = K68.nl t := by unfold linesS; rw [List.length_map, linesT_len]
  have z2 : ((linesS t).map ((fun x : List Nat => x.length) ∘ fun y : Str => y.cps.toList)).sum = ((linesS t).map (·.length)).sum := rfl
  rw [z2, z1]
  rw [z1] at z
  show _ + K68.nl t * 1 ≤ _
  omega
theorem scrT_ne {t : K68.T} (hl : low t) (hne : linesT t ≠ []) : scrT t ≠ "" := fun e => by
  have z := scrT_split hl hne
  rw [e] at z
  have z2 : Txt.split ("" : Str) "\n" = ([""] : List Str) := by decide +kernel
  rw [z2] at z
  have z3 := linesS_plain hl "" (by rw [← z]; exact List.mem_cons_self)
  exact absurd z3.2.2 (by decide)
end K6
set_option Elab.async false
set_option linter.all false
set_option maxRecDepth 100000
set_option maxHeartbeats 2000000
/-! K68Rep: the rows read so far, the blocks that are open -/
namespace K6
open PySem PySem.Spec PyProof.Rows L2
theorem RwL.mono {K : PySem.W.Frag} {G G' : Hp} (k : Same G G') : ∀ {t : K68.T} {xs : List Addr}, RwL K G t xs → RwL K G' t xs
  | .nil, _, h => h
  | .line l t, xs, ⟨r, wl, bl, ys, e, h1, h2, h3⟩ => ⟨r, wl, bl, ys, e, h1.mono k, k _ _ h2, RwL.mono k h3⟩
  | .rep n b t, xs, ⟨r, wl, bl, bs, ys, e, h1, h2, h3, h4, h5, h6⟩ => ⟨r, wl, bl, bs, ys, e, h1.mono k, k _ _ h2, h3, k _ _ h4, RwL.mono k h5, RwL.mono k h6⟩
  | .whn o b t, xs, ⟨r, wl, bl, bs, ys, e, h1, h2, h4, h5, h6⟩ => ⟨r, wl, bl, bs, ys, e, h1.mono k, k _ _ h2, k _ _ h4, RwL.mono k h5, RwL.mono k h6⟩
theorem RwL.app {K : PySem.W.Frag} {G : Hp} {u : K68.T} {ys : List Addr} (hu : RwL K G u ys) : ∀ {t : K68.T} {xs : List Addr}, RwL K G t xs → RwL K G (K68.app t u) (xs ++ ys)
  | .nil, xs, h => by
    have e : xs = [] := h
    rw [e]
    exact hu
  | .line l t, xs, ⟨r, wl, bl, zs, e, h1, h2, h3⟩ => ⟨r, wl, bl, zs ++ ys, by rw [e]; rfl, h1, h2, RwL.app hu h3⟩
  | .rep n b t, xs, ⟨r, wl, bl, bs, zs, e, h1, h2, h3, h4, h5, h6⟩ => ⟨r, wl, bl, bs, zs ++ ys, by rw [e]; rfl, h1, h2, h3, h4, h5, RwL.app hu h6⟩
  | .whn o b t, xs, ⟨r, wl, bl, bs, zs, e, h1, h2, h4, h5, h6⟩ => ⟨r, wl, bl, bs, zs ++ ys, by rw [e]; rfl, h1, h2, h4, h5, RwL.app hu h6⟩
/-- the heap without what was there and what still changes -/
def nwh (H0 : Hp) (S : List Addr) (H : Hp) : Hp := fun b => if (H0 b).isSome = true ∨ b ∈ S then none else H b
theorem nwh_of {H0 H : Hp} {S : List Addr} {b : Addr} {o : HO} (h0 : H0 b = none) (hs : b ∉ S) (e : H b = some o) : nwh H0 S H b = some o := by
  unfold nwh
  rw [if_neg (fun z => z.elim (fun y => by rw [h0] at y; cases y) hs)]
  exact e
theorem nwh_to {H0 H : Hp} {S : List Addr} {b : Addr} {o : HO} (e : nwh H0 S H b = some o) : H0 b = none ∧ b ∉ S ∧ H b = some o := by
  unfold nwh at e
  by_cases c : (H0 b).isSome = true ∨ b ∈ S
  · rw [if_pos c] at e
    cases e
  · rw [if_neg c] at e
    refine ⟨?_, fun z => c (.inr z), e⟩
    cases y : H0 b with
    | none => rfl
    | some u => exact absurd (.inl (by rw [y]; rfl)) c
theorem nwh_step {H0 H H' : Hp} {S S' : List Addr} (k : Keep S H H') (hs : ∀ b, b ∈ S' → b ∈ S ∨ H b = none) : Same (nwh H0 S H) (nwh H0 S' H') := fun b o e => by
  obtain ⟨h1, h2, h3⟩ := nwh_to e
  exact nwh_of h1 (fun z => (hs b z).elim h2 fun y => by rw [y] at h3; cases h3) (k b o h3 h2)
/-- a head of a block -/
def isB : Hd → Prop
  | .rep k => k ≤ 3
  | .whn _ => True
  | _ => False
/-- the open blocks, the innermost first: a is the list of the innermost, as the lists around it, rs the open rows -/
def Rp (K : PySem.W.Frag) (G H : Hp) (f : Addr) (n : Nat) : List (K68.T × Hd) → List Addr → Addr → List Addr → Prop
  | [], [], a, [] => a = f
  | (p, h) :: fr, r :: rs, a, a' :: as => (∃ wl rows, RowAt K G r wl a ∧ G wl = some (.lst ((hdW h).map V.str)) ∧ isB h ∧ H a' = some (.lst ((rows ++ [r]).map V.ref)) ∧ rows.length + 1 ≤ n ∧ RwL K G p rows) ∧ Rp K G H f n fr rs a' as
  | _, _, _, _ => False
theorem Rp.mono {K : PySem.W.Frag} {G G' H H' : Hp} {f : Addr} {n n' : Nat} (k : Same G G') (hn : n ≤ n') : ∀ {fr : List (K68.T × Hd)} {rs : List Addr} {a : Addr} {as : List Addr}, (∀ b o, b ∈ as → H b = some o → H' b = some o) → Rp K G H f n fr rs a as → Rp K G' H' f n' fr rs a as
  | [], [], _, [], _, h => h
  | [], [], _, _ :: _, _, h => h.elim
  | [], _ :: _, _, _, _, h => h.elim
  | _ :: _, [], _, _, _, h => h.elim
  | _ :: _, _ :: _, _, [], _, h => h.elim
  | (p, h) :: fr, r :: rs, a, a' :: as, hk, ⟨⟨wl, rows, h1, h2, h3, h4, h5, h6⟩, h7⟩ => ⟨⟨wl, rows, h1.mono k, k _ _ h2, h3, hk _ _ List.mem_cons_self h4, Nat.le_trans h5 hn, RwL.mono k h6⟩, Rp.mono k hn (fun b o hb => hk b o (List.mem_cons_of_mem _ hb)) h7⟩
theorem Rp.len {K : PySem.W.Frag} {G H : Hp} {f : Addr} {n : Nat} : ∀ {fr : List (K68.T × Hd)} {rs : List Addr} {a : Addr} {as : List Addr}, Rp K G H f n fr rs a as → rs.length = fr.length
  | [], [], _, [], _ => rfl
  | [], [], _, _ :: _, h => h.elim
  | [], _ :: _, _, _, h => h.elim
  | _ :: _, [], _, _, h => h.elim
  | _ :: _, _ :: _, _, [], h => h.elim
  | (p, h) :: fr, r :: rs, a, a' :: as, ⟨_, h7⟩ => congrArg Nat.succ (Rp.len h7)
/-- what is read so far: found at f, opened at op -/
def Rd0 (K : PySem.W.Frag) (H0 H : Hp) (f op : Addr) (n : Nat) (st : PS) : Prop := ∃ rs a as rows, Rp K (nwh H0 (op :: a :: as) H) H f n st.1 rs a as ∧ H a = some (.lst (rows.map V.ref)) ∧ rows.length ≤ n ∧ RwL K (nwh H0 (op :: a :: as) H) st.2 rows ∧
  H op = some (.lst (rs.reverse.map V.ref)) ∧ (op :: a :: as).Nodup ∧ ∀ b ∈ op :: a :: as, H0 b = none
theorem Rd0.mono {K : PySem.W.Frag} {H0 H H' : Hp} {f op : Addr} {n : Nat} {st : PS} (h : Rd0 K H0 H f op n st) (k : Same H H') : Rd0 K H0 H' f op n st := by
  obtain ⟨rs, a, as, rows, h1, h2, h3, h4, h5, h6, h7⟩ := h
  have s := nwh_step (H0 := H0) (S := op :: a :: as) (S' := op :: a :: as) (fun b o e _ => k b o e) fun b hb => .inl hb
  exact ⟨rs, a, as, rows, Rp.mono s (Nat.le_refl n) (fun b o _ e => k b o e) h1, k _ _ h2, h3, RwL.mono s h4, k _ _ h5, h6, h7⟩
end K6
namespace K6
open PySem PySem.Spec PyProof.Rows L2
section
variable {K : PySem.W.Frag} {H0 Hb H : Hp} {f op a r dr wl bl : Addr} {n : Nat} {fr : List (K68.T × Hd)} {p : K68.T} {rs as : List Addr} {rows : List Addr} {hd : Hd}
/-- a new row stands in the part that stays -/
theorem row_in {S S' : List Addr} (k0 : Same H0 Hb) (hS : ∀ b ∈ S, Hb b ≠ none) (hS' : ∀ b ∈ S', b ∈ S ∨ b = bl) (hr : RowAd K H r dr wl bl) (n1 : Hb r = none) (n2 : Hb dr = none) (n3 : Hb wl = none) (e1 : r ≠ bl) (e2 : dr ≠ bl) (e3 : wl ≠ bl) (hw : H wl = some (.lst ((hdW hd).map V.str))) :
    RowAt K (nwh H0 S' H) r wl bl ∧ nwh H0 S' H wl = some (.lst ((hdW hd).map V.str)) := by
  have z : ∀ {b : Addr}, Hb b = none → H0 b = none := fun {b} e => by
    cases y : H0 b with
    | none => rfl
    | some o =>
      rw [k0 b o y] at e
      cases e
  have ns : ∀ {b : Addr}, Hb b = none → b ≠ bl → b ∉ S' := fun {b} e ne hb => (hS' b hb).elim (fun y => hS b y e) ne
  obtain ⟨vs, num, h1, h2, h3⟩ := hr
  exact ⟨⟨dr, vs, num, nwh_of (z n1) (ns n1 e1) h1, nwh_of (z n2) (ns n2 e2) h2, h3⟩, nwh_of (z n3) (ns n3 e3) hw⟩
/-- a line's row is put at the end of the innermost block -/
theorem rd_line {l : K68.Ln} (k0 : Same H0 Hb) (k : Same Hb H) (h1 : Rp K (nwh H0 (op :: a :: as) Hb) Hb f n fr rs a as) (h2 : Hb a = some (.lst (rows.map V.ref))) (h3 : rows.length ≤ n) (h4 : RwL K (nwh H0 (op :: a :: as) Hb) p rows) (h5 : Hb op = some (.lst (rs.reverse.map V.ref)))
    (h6 : (op :: a :: as).Nodup) (h7 : ∀ b ∈ op :: a :: as, H0 b = none) (has : ∀ b ∈ as, Hb b ≠ none) (hr : RowAd K H r dr wl bl) (n1 : Hb r = none) (n2 : Hb dr = none) (n3 : Hb wl = none) (e1 : r ≠ bl) (e2 : dr ≠ bl) (e3 : wl ≠ bl) (hw : H wl = some (.lst ((hdW (.ln l)).map V.str))) :
    Rd0 K H0 (upd H a (.lst (rows.map V.ref ++ [V.ref r]))) f op (n + 1) (fr, K68.app p (.line l .nil)) := by
  have hS : ∀ b ∈ op :: a :: as, Hb b ≠ none := fun b hb => by
    rcases List.mem_cons.mp hb with rfl | hb
    · rw [h5]; exact fun z => nomatch z
    rcases List.mem_cons.mp hb with rfl | hb
    · rw [h2]; exact fun z => nomatch z
    · exact has b hb
  obtain ⟨r1, r2⟩ := row_in (S := op :: a :: as) (S' := op :: a :: as) k0 hS (fun b hb => .inl hb) hr n1 n2 n3 e1 e2 e3 hw
  have ma : a ∈ op :: a :: as := List.mem_cons_of_mem _ List.mem_cons_self
  have g1 : Same (nwh H0 (op :: a :: as) H) (nwh H0 (op :: a :: as) (upd H a (.lst (rows.map V.ref ++ [V.ref r])))) := nwh_step (fun b o e nb => by rw [upd_ne (fun z => nb (by rw [z]; exact ma))]; exact e) fun b hb => .inl hb
  have g0 : Same (nwh H0 (op :: a :: as) Hb) (nwh H0 (op :: a :: as) H) := nwh_step (fun b o e _ => k b o e) fun b hb => .inl hb
  have g2 : Same (nwh H0 (op :: a :: as) Hb) (nwh H0 (op :: a :: as) (upd H a (.lst (rows.map V.ref ++ [V.ref r])))) := fun b o e => g1 b o (g0 b o e)
  obtain ⟨nop, nd⟩ := List.nodup_cons.mp h6
  obtain ⟨na, nas⟩ := List.nodup_cons.mp nd
  have neo : op ≠ a := fun z => nop (by rw [z]; exact List.mem_cons_self)
  refine ⟨rs, a, as, rows ++ [r], Rp.mono g2 (Nat.le_succ n) (fun b o hb e => ?_) h1, ?_, ?_, RwL.app (u := .line l .nil) (ys := [r]) ⟨r, wl, bl, [], rfl, r1.mono g1, g1 _ _ r2, rfl⟩ (RwL.mono g2 h4), ?_, h6, h7⟩
  · rw [upd_ne (fun z => na (by rw [← z]; exact hb))]
    exact k b o e
  · rw [upd_same, List.map_append]
    rfl
  · rw [List.length_append]
    exact Nat.succ_le_succ h3
  · rw [upd_ne neo]
    exact k _ _ h5
/-- a block's row is put there, and it is open -/
theorem rd_open (hB : isB hd) (k0 : Same H0 Hb) (k : Same Hb H) (h1 : Rp K (nwh H0 (op :: a :: as) Hb) Hb f n fr rs a as) (h2 : Hb a = some (.lst (rows.map V.ref))) (h3 : rows.length ≤ n) (h4 : RwL K (nwh H0 (op :: a :: as) Hb) p rows) (h5 : Hb op = some (.lst (rs.reverse.map V.ref)))
    (h6 : (op :: a :: as).Nodup) (h7 : ∀ b ∈ op :: a :: as, H0 b = none) (has : ∀ b ∈ as, Hb b ≠ none) (hr : RowAd K H r dr wl bl) (n1 : Hb r = none) (n2 : Hb dr = none) (n3 : Hb wl = none) (n4 : Hb bl = none) (e1 : r ≠ bl) (e2 : dr ≠ bl) (e3 : wl ≠ bl) (hw : H wl = some (.lst ((hdW hd).map V.str))) (hbl : H bl = some (.lst [])) :
    Rd0 K H0 (upd (upd H a (.lst (rows.map V.ref ++ [V.ref r]))) op (.lst (rs.reverse.map V.ref ++ [V.ref r]))) f op (n + 1) ((p, hd) :: fr, .nil) := by
  have hS : ∀ b ∈ op :: a :: as, Hb b ≠ none := fun b hb => by
    rcases List.mem_cons.mp hb with rfl | hb
    · rw [h5]; exact fun z => nomatch z
    rcases List.mem_cons.mp hb with rfl | hb
    · rw [h2]; exact fun z => nomatch z
    · exact has b hb
  have nbl : bl ∉ op :: a :: as := fun hb => hS bl hb n4
  have sub : ∀ b, b ∈ op :: bl :: a :: as → b ∈ op :: a :: as ∨ b = bl := fun b hb => by
    rcases List.mem_cons.mp hb with rfl | hb
    · exact .inl List.mem_cons_self
    rcases List.mem_cons.mp hb with rfl | hb
    · exact .inr rfl
    · exact .inl (List.mem_cons_of_mem _ hb)
  obtain ⟨r1, r2⟩ := row_in (S := op :: a :: as) (S' := op :: bl :: a :: as) k0 hS sub hr n1 n2 n3 e1 e2 e3 hw
  obtain ⟨nop, nd⟩ := List.nodup_cons.mp h6
  obtain ⟨na, nas⟩ := List.nodup_cons.mp nd
  have neo : op ≠ a := fun z => nop (by rw [z]; exact List.mem_cons_self)
  have out : ∀ b, b ≠ a → b ≠ op → upd (upd H a (.lst (rows.map V.ref ++ [V.ref r]))) op (.lst (rs.reverse.map V.ref ++ [V.ref r])) b = H b := fun b x y => by rw [upd_ne y, upd_ne x]
  have g1 : Same (nwh H0 (op :: bl :: a :: as) H) (nwh H0 (op :: bl :: a :: as) (upd (upd H a (.lst (rows.map V.ref ++ [V.ref r]))) op (.lst (rs.reverse.map V.ref ++ [V.ref r])))) :=
    nwh_step (fun b o e nb => by rw [out b (fun z => nb (by rw [z]; exact List.mem_cons_of_mem _ (List.mem_cons_of_mem _ List.mem_cons_self))) (fun z => nb (by rw [z]; exact List.mem_cons_self))]; exact e) fun b hb => .inl hb
  have g0 : Same (nwh H0 (op :: a :: as) Hb) (nwh H0 (op :: bl :: a :: as) H) := nwh_step (fun b o e _ => k b o e) fun b hb => (sub b hb).imp id fun z => by rw [z]; exact n4
  have g2 := fun b o e => g1 b o (g0 b o e)
  have nba : bl ≠ a := fun z => nbl (by rw [z]; exact List.mem_cons_of_mem _ List.mem_cons_self)
  have nbo : bl ≠ op := fun z => nbl (by rw [z]; exact List.mem_cons_self)
  refine ⟨r :: rs, bl, a :: as, [], ⟨⟨wl, rows, r1.mono g1, g1 _ _ r2, hB, ?_, Nat.succ_le_succ h3, RwL.mono g2 h4⟩, Rp.mono g2 (Nat.le_succ n) (fun b o hb e => ?_) h1⟩, ?_, Nat.zero_le _, rfl, ?_, ?_, fun b hb => ?_⟩
  · rw [upd_ne (Ne.symm neo), upd_same, List.map_append]
    rfl
  · rw [out b (fun z => na (by rw [← z]; exact hb)) (fun z => nop (by rw [← z]; exact List.mem_cons_of_mem _ hb))]
    exact k b o e
  · rw [out bl nba nbo]
    exact hbl
  · rw [upd_same, List.reverse_cons, List.map_append]
    rfl
  · refine List.nodup_cons.mpr ⟨fun z => ?_, List.nodup_cons.mpr ⟨fun z => nbl (List.mem_cons_of_mem _ z), nd⟩⟩
    rcases List.mem_cons.mp z with z | z
    · exact nbo z.symm
    · exact nop z
  · rcases sub b hb with z | rfl
    · exact h7 b z
    · cases y : H0 b with
      | none => rfl
      | some o =>
        rw [k0 b o y] at n4
        cases n4
/-- a block ends -/
theorem rd_end (k : Same Hb H) {q : K68.T} (h1 : Rp K (nwh H0 (op :: a :: as) Hb) Hb f n ((q, hd) :: fr) rs a as) (h2 : Hb a = some (.lst (rows.map V.ref))) (h4 : RwL K (nwh H0 (op :: a :: as) Hb) p rows) (h5 : Hb op = some (.lst (rs.reverse.map V.ref)))
    (h6 : (op :: a :: as).Nodup) (h7 : ∀ b ∈ op :: a :: as, H0 b = none) :
    Rd0 K H0 (upd H op (.lst (rs.reverse.map V.ref).dropLast)) f op (n + 1) (fr, K68.app q (closed hd p)) := by
  cases rs with
  | nil => exact h1.elim
  | cons r rs =>
    cases as with
    | nil => exact h1.elim
    | cons a' as =>
      obtain ⟨⟨wl, rows', r1, r2, hB, r3, r4, r5⟩, h1⟩ := h1
      obtain ⟨nop, nd⟩ := List.nodup_cons.mp h6
      obtain ⟨na, nas⟩ := List.nodup_cons.mp nd
      have gS : Same (nwh H0 (op :: a :: a' :: as) Hb) (nwh H0 (op :: a' :: as) (upd H op (.lst ((r :: rs).reverse.map V.ref).dropLast))) := nwh_step (fun b o e nb => by rw [upd_ne (fun z => nb (by rw [z]; exact List.mem_cons_self))]; exact k b o e) fun b hb => .inl (by
        rcases List.mem_cons.mp hb with rfl | hb
        · exact List.mem_cons_self
        · exact List.mem_cons_of_mem _ (List.mem_cons_of_mem _ hb))
      have hOut : ∀ b, b ∈ a' :: as → b ≠ op := fun b hb z => nop (by rw [← z]; exact List.mem_cons_of_mem _ hb)
      have ha : nwh H0 (op :: a' :: as) (upd H op (.lst ((r :: rs).reverse.map V.ref).dropLast)) a = some (.lst (rows.map V.ref)) := by
        have neo : a ≠ op := fun z => nop (by rw [← z]; exact List.mem_cons_self)
        refine nwh_of (h7 a (List.mem_cons_of_mem _ List.mem_cons_self)) (fun hb => ?_) (by rw [upd_ne neo]; exact k _ _ h2)
        rcases List.mem_cons.mp hb with z | z
        · exact neo z
        · exact na z
      have cl : RwL K (nwh H0 (op :: a' :: as) (upd H op (.lst ((r :: rs).reverse.map V.ref).dropLast))) (closed hd p) [r] := by
        cases hd with
        | ln l => exact hB.elim
        | en => exact hB.elim
        | rep kk => exact ⟨r, wl, a, rows, [], rfl, r1.mono gS, gS _ _ r2, hB, ha, RwL.mono gS h4, rfl⟩
        | whn o => exact ⟨r, wl, a, rows, [], rfl, r1.mono gS, gS _ _ r2, ha, RwL.mono gS h4, rfl⟩
      refine ⟨rs, a', as, rows' ++ [r], Rp.mono gS (Nat.le_succ n) (fun b o hb e => ?_) h1, ?_, ?_, RwL.app cl (RwL.mono gS r5), ?_, ?_, fun b hb => ?_⟩
      · rw [upd_ne (hOut b (List.mem_cons_of_mem _ hb))]
        exact k b o e
      · rw [upd_ne (hOut a' List.mem_cons_self)]
        exact k _ _ r3
      · rw [List.length_append]
        exact Nat.le_succ_of_le r4
      · rw [upd_same, List.reverse_cons, List.map_append]
        show some (HO.lst (rs.reverse.map V.ref ++ [V.ref r]).dropLast) = _
        rw [List.dropLast_concat]
      · exact List.nodup_cons.mpr ⟨fun z => nop (List.mem_cons_of_mem _ z), nas⟩
      · refine h7 b ?_
        rcases List.mem_cons.mp hb with rfl | hb
        · exact List.mem_cons_self
        · exact List.mem_cons_of_mem _ (List.mem_cons_of_mem _ hb)
end
end K6
set_option Elab.async false
set_option linter.all false
set_option maxRecDepth 100000
set_option maxHeartbeats 4000000
set_option pp.deepTerms false
set_option pp.deepTerms.threshold 6
set_option pp.maxSteps 400
/-! K68Scr3: read_script -/
namespace K6
open PySem PySem.Spec PyProof.Rows L2
theorem Rp.some {K : PySem.W.Frag} {G H : Hp} {f : Addr} {n : Nat} : ∀ {fr : List (K68.T × Hd)} {rs : List Addr} {a : Addr} {as : List Addr}, Rp K G H f n fr rs a as → ∀ b ∈ as, H b ≠ none
  | [], [], _, [], _ => fun b hb => nomatch hb
  | [], [], _, _ :: _, h => h.elim
  | [], _ :: _, _, _, h => h.elim
  | _ :: _, [], _, _, h => h.elim
  | _ :: _, _ :: _, _, [], h => h.elim
  | (p, h) :: fr, r :: rs, a, a' :: as, ⟨⟨wl, rows, _, _, _, h4, _⟩, h7⟩ => fun b hb => by
    rcases List.mem_cons.mp hb with rfl | hb
    · rw [h4]
      exact fun z => nomatch z
    · exact Rp.some h7 b hb
theorem atI_last {α : Type} (l : List α) (x : α) : atI (l ++ [x]) (-1) = some x := by
  have hn : (l ++ [x]).length = l.length + 1 := by rw [List.length_append]; rfl
  have e : ixN (l ++ [x]).length (-1) = some l.length := by
    rw [hn]
    unfold ixN
    rw [if_neg (by decide)]
    first
    | (rw [if_pos (by omega)]; congr 1; omega)
    | (split <;> first | (congr 1; omega) | omega)
  unfold atI
  rw [e]
  show (l ++ [x])[l.length]? = some x
  rw [List.getElem?_append_right (Nat.le_refl _), Nat.sub_self]
  rfl
theorem hdK_ne {h : Hd} (e : h ≠ .en) : decide (V.str (hdK h) = V.str "end") = false := by
  cases h with
  | ln l =>
    cases l with
    | add c m => exact (show decide (V.str "add" = V.str "end") = false by decide)
    | drop => decide
    | swap => decide
    | drop99 => decide
    | tell m r => exact (show decide (V.str "tell" = V.str "end") = false by decide)
    | run => decide
    | rules => decide
  | rep k => exact (show decide (V.str "repeat" = V.str "end") = false by decide)
  | whn o => exact (show decide (V.str "when" = V.str "end") = false by decide)
  | en => exact absurd rfl e
/-- the loop's state before the line i -/
def ScrAt (K : PySem.W.Frag) (H1 : Hp) (t : K68.T) (L f op : Addr) (i : Nat) (σ : L2.St) (H' : Hp) : Prop := ∃ y4 y5 y6 y7 y8 st, σ = [some (.str (scrT t)), some (.ref L), some (.ref f), some (.ref op), y4, y5, y6, y7, y8] ∧ Same H1 H' ∧ Rd0 K H1 H' f op i st ∧ runP st ((linesT t).drop i) = some ([], t)
section
variable {P : Program} {w : World} {K : PySem.W.Frag} {mg : Str → Option Value} {base : Heap}
def spReadScr (K : PySem.W.Frag) : Sp := fun vs H Q _ => ∃ t, vs = [.str (scrT t)] ∧ low t ∧ ht t ≤ 3 ∧ K68.nl t < 60 ∧
  ∀ f rows G H', Same H H' → Same G H' → (∀ b o, H b = some o → G b = none) → G f = some (.lst (rows.map V.ref)) → RwL K G t rows → Q (.ref f) H'
theorem ok_readScr (T : Tx w K mg) : Gd P w K mg base CX0 5 "read_script" (spReadScr K) := by
  refine ⟨T.d_readScr.r sc_readScr bi_readScr (fun vs H Q E h => ?_) (fun cdv A outer s H vs Q E hr h => ?_), T.f_readScr, T.d_readScr.kp⟩
  · obtain ⟨t, rfl, _⟩ := h
    rfl
  obtain ⟨t, rfl, hlow, hht, hnl, q⟩ := h
  have hu := hr.units
  have hu' := Nat.lt_of_le_of_lt (Nat.le_add_right _ _) hu
  refine ⟨_, pss_cons (ps_set (i := 1) sc_readScr.nd rfl (.inl rfl) (pe_ifExp (pt_cmpR op_ne (pv 0) pe_str (nomark _)) (pe_split (pv 0) pe_str) (pe_lst pa_nil)))
    (pss_cons (ps_par (i := 2) (j := 3) rfl sc_readScr.nd rfl rfl (by decide) rfl rfl (pa_cons (pe_lst pa_nil) (pa_cons (pe_lst pa_nil) pa_nil)) (by rfl))
    (pss_cons (ps_for PassesOwn.leaving rfl (pi_enum (by rfl) T.b_enumerate (pa_cons (pv 1) pa_nil)) (pg_tup rfl (pgs_cons (pg_name (i := 4) sc_readScr.nd rfl (.inl rfl)) (pgs_cons (pg_name (i := 5) sc_readScr.nd rfl (.inl rfl)) pgs_nil)))
      (pss_cons (ps_set (i := 6) sc_readScr.nd rfl (.inl rfl) (pe_split (pv 5) pe_str))
      (pss_cons (ps_if (PW.pt (pw_or (pt_cmpR op_eq (pv 4) (ki T.i_MOST_ROWS) (nomark _)) (pw_or (pt_not (pt_val (gd (ok_isRow T) hr (by decide) pass0 (pa_cons (pv 6) pa_nil))))
          (pw_or1 (PW.pt (pw_and (pt_cmpR op_eq (pe_ix ix_list (pv 6) pe_int (fun _ _ => rfl)) (ks T.s_END) (nomark _)) (pw_and1 (pt_cmpR (op_eqNil hu') (pv 3) (pe_lst pa_nil) (nomark _)))))))))
        (pss_one ps_never) pss_nil)
      (pss_cons (ps_if (pt_cmpR op_eq (pe_ix ix_list (pv 6) pe_int (fun _ _ => rfl)) (ks T.s_END) (nomark _))
        (pss_cons (ps_expr (pe_bm0 PySem.F.plainAttrs_list PySem.F.slot_list_pop PySem.F.type_list_pop mt_pop (pv 3))) (pss_one ps_continue)) pss_nil)
      (pss_cons (ps_set (i := 7) sc_readScr.nd rfl (.inl rfl) (ck (ok_RowInit T) hr (by decide) pa0 (pa_cons (pv 4) (pa_cons (pv 6) pa_nil))))
      (pss_cons (ps_set (i := 8) sc_readScr.nd rfl (.inl rfl) (pe_ifExp (pt_cmpR (op_neNil hu') (pv 3) (pe_lst pa_nil) (nomark _)) (SlX.pe_sl (pe_ix ix_list (pv 3) (pe_un un_neg pe_int) (fun _ _ => rfl))) (pv 2)))
      (pss_cons (ps_expr (pe_bm PySem.F.plainAttrs_list PySem.F.slot_list_append PySem.F.type_list_append mt_append (pv 8) (pa_cons (pv 7) pa_nil)))
      (pss_one (ps_if (pt_cmpR op_in_seq (pe_ix ix_list (pv 6) pe_int (fun _ _ => rfl)) (kr T.g_BLOCKS) (by rfl))
        (pss_cons (ps_if (pt_cmpR op_eq (pe_callB call_len (by rfl) T.b_len (by decide +kernel) (pa_cons (pv 3) pa_nil)) (ki T.i_MOST_DEPTH_scripts) (nomark _)) (pss_one ps_never) pss_nil)
        (pss_one (ps_expr (pe_bm PySem.F.plainAttrs_list PySem.F.slot_list_append PySem.F.type_list_append mt_append (pv 3) (pa_cons (pv 7) pa_nil))))) pss_nil)))))))))
    (pss_cons (ps_if (pt_cmpR (op_neNil hu') (pv 3) (pe_lst pa_nil) (nomark _)) (pss_one ps_never) pss_nil)
    (pss_one (ps_ret (pv 2)))))), ?_⟩
  have lines : ∀ D : V → Hp → Prop, (∀ L H1, Same H H1 → H1 L = some (.lst ((linesS t).map V.str)) → D (.ref L) H1) → (tIf (tTest (tOp rNe (tVar 0) (tC (.str "")))) (tM1 (fun x xs H Q => ∃ a b, x = .str a ∧ xs = [.str b] ∧ (b.length == 0) = false ∧ a.length + 2 ≤ sizeLine ∧ rNewStrs (Txt.split a b) H Q) (tVar 0) (tC (.str "\n"))) (tLst tNil)) (L2.start ["text", "lines", "found", "opened", "number", "line", "words", "row", "block"] [.str (scrT t)]) H D := fun D hD => by
    by_cases e : linesT t = []
    · have e1 : linesS t = [] := by unfold linesS; rw [e]; rfl
      have e2 : scrT t = "" := by unfold scrT; rw [e1]; rfl
      refine ⟨_, rfl, rfl, _, rfl, if_ (by rw [e2]; decide) ?_⟩
      exact ⟨Nat.zero_le _, fun p hp => hD p _ (same_upd hp) (by rw [upd_same, e1]; rfl)⟩
    · have hlen := scrT_len hlow
      refine ⟨_, rfl, rfl, _, rfl, it (by rw [decide_eq_false (fun z => scrT_ne hlow e (V.str.inj z))]; rfl) ?_⟩
      refine ⟨_, rfl, ⟨_, rfl⟩, scrT t, "\n", rfl, rfl, by decide, Nat.le_trans (show (scrT t).length + 2 ≤ 2462 by omega) (by decide), ?_⟩
      rw [scrT_split hlow e]
      exact fun p hp => hD p _ (same_upd hp) upd_same
  refine lines _ fun L H1 k1 hL => ?_
  refine ⟨Nat.zero_le _, fun f hf => ⟨Nat.zero_le _, fun op hop => ⟨_, _, rfl, ?_⟩⟩⟩
  have hfo : f ≠ op := fun z => by rw [← z, upd_same] at hop; cases hop
  have hop1 : H1 op = none := by rw [upd_ne (Ne.symm hfo)] at hop; exact hop
  have k2 : Same H1 (upd (upd H1 f (.lst [])) op (.lst [])) := fun b o e => same_upd hop b o (same_upd hf b o e)
  have rd0 : Rd0 K H1 (upd (upd H1 f (.lst [])) op (.lst [])) f op 0 ([], .nil) := ⟨[], f, [], [], rfl, by rw [upd_ne hfo, upd_same]; rfl, Nat.le_refl 0, rfl, upd_same, List.nodup_cons.mpr ⟨fun z => hfo (List.mem_singleton.mp z).symm, List.nodup_cons.mpr ⟨(fun z => nomatch z), List.nodup_nil⟩⟩, fun b hb => by
    rcases List.mem_cons.mp hb with rfl | hb
    · exact hop1
    · rw [List.mem_singleton.mp hb]
      exact hf⟩
  refine ⟨_, rfl, L, _, rfl, SqL.of (k2 _ _ hL), for_it (walk_enum (xs := (linesS t).map V.str)) (fun i σ H' => ScrAt K H1 t L f op i σ H') ?_ (fun i σ H' _ ⟨_, _, _, _, _, st, _, k, _⟩ => SqL.of (k _ _ hL)) (fun i v σ H2 H3 hi hst hy => ?_) fun σ H2 hst => ?_⟩
  · exact ⟨none, none, none, none, none, _, rfl, k2, rd0, runP_all hlow (Nat.le_succ_of_le hht)⟩
  · obtain ⟨T0, x0, y0, rfl, hT0, rfl, hx, hy⟩ := hy
    cases hx
    obtain ⟨z, hz, rfl⟩ := get_map hy
    obtain ⟨h, hh, rfl⟩ := get_map (show ((linesT t).map txH)[i]? = some z from hz)
    obtain ⟨y4, y5, y6, y7, y8, st, rfl, k3, hrd, hrun⟩ := hst
    have hok := low_ok hlow h (List.mem_of_getElem? hh)
    obtain ⟨hlt, hget⟩ := List.getElem?_eq_some_iff.mp hh
    have hi60 : i < 60 := by rw [linesT_len] at hlt; omega
    rw [List.drop_eq_getElem_cons hlt, hget] at hrun
    have hst : ∃ st', stepP st h = some st' ∧ runP st' ((linesT t).drop (i + 1)) = some ([], t) := by
      have z : (stepP st h).bind (fun s' => runP s' ((linesT t).drop (i + 1))) = some ([], t) := hrun
      cases e : stepP st h with
      | none => rw [e] at z; cases z
      | some st' => rw [e] at z; exact ⟨st', rfl, z⟩
    obtain ⟨st', hstep, hrun'⟩ := hst
    have hpl := plain_parts (plain_hd h hok)
    have kT := same_upd (o := HO.tup [.int (i : Nat), .str (txH h)]) hT0
    refine ⟨T0, _, rfl, SqT.of upd_same, rfl, _, _, rfl, _, _, rfl, rfl, ?_⟩
    refine ⟨_, rfl, ⟨_, rfl⟩, txH h, " ", rfl, rfl, by decide, Nat.le_trans (show (txH h).length + 2 ≤ 42 by omega) (by decide), ?_⟩
    rw [split_hd h hok]
    intro wl hwl
    have kW := same_upd (o := HO.lst ((hdW h).map V.str)) hwl
    refine ⟨_, rfl, rfl, _, rfl, if_ (decide_eq_false fun z => by have := V.int.inj z; omega) ?_⟩
    refine ⟨_, rfl, h, wl, rfl, SqL.of upd_same, fun H4 k4 => ⟨true, rfl, if_ rfl ?_⟩⟩
    have k24 : Same H2 H4 := fun b o e => k4 b o (kW b o (kT b o e))
    have hw4 := k4 _ _ (upd_same (H := upd H2 T0 (.tup [.int (i : Nat), .str (txH h)])) (a := wl) (o := HO.lst ((hdW h).map V.str)))
    refine ⟨_, rfl, wl, _, 0, _, rfl, rfl, SqL.of hw4, atI0 _ _, rfl, _, rfl, ?_⟩
    obtain ⟨rs, a, as, rows, h1, h2, h3, h4, h5, h6, h7⟩ := hrd
    have hn0 : ∀ b ∈ op :: a :: as, H1 b = none := h7
    by_cases hen : h = .en
    · subst hen
      obtain ⟨fr, p⟩ := st
      cases fr with
      | nil => cases hstep
      | cons ph fr =>
        obtain ⟨q0, hd⟩ := ph
        have est : st' = (fr, K68.app q0 (closed hd p)) := (Option.some.inj hstep).symm
        subst est
        cases rs with
        | nil => exact h1.elim
        | cons r rs =>
          refine it rfl ⟨_, rfl, Nat.zero_le _, fun z hz => ⟨op, z, _, rfl, rfl, SqL.of (same_upd hz _ _ (k24 _ _ h5)), SqL.of upd_same, false, congrArg V.bl (by simp), if_ rfl ?_⟩⟩
          have kz := same_upd (o := HO.lst []) hz
          have k2z : Same H2 (upd H4 z (.lst [])) := fun b o e => kz b o (k24 b o e)
          refine ⟨_, rfl, wl, _, 0, _, rfl, rfl, SqL.of (kz _ _ hw4), atI0 _ _, rfl, _, rfl, it rfl ?_⟩
          refine ⟨_, rfl, .inl ⟨rfl, _, SqL.of (k2z _ _ h5)⟩, op, _, .ref r, rfl, rfl, k2z _ _ h5, ?_, ?_⟩
          · rw [List.reverse_cons, List.map_append]
            show (rs.reverse.map V.ref ++ [V.ref r])[(rs.reverse.map V.ref ++ [V.ref r]).length - 1]? = some (V.ref r)
            rw [List.length_append]
            show (rs.reverse.map V.ref ++ [V.ref r])[(rs.reverse.map V.ref).length + 1 - 1]? = _
            rw [Nat.add_sub_cancel, List.getElem?_append_right (Nat.le_refl _), Nat.sub_self]
            rfl
          · exact ⟨_, _, _, _, _, _, rfl, fun b o e => by
              rw [upd_ne (fun y => by rw [y, hop1] at e; cases e)]
              exact k2z b o (k3 b o e), rd_end k2z h1 h2 h4 h5 h6 h7, hrun'⟩
    · have hnd := hdK_ne hen
      obtain ⟨fr, p⟩ := st
      refine if_ hnd (if_ rfl ?_)
      refine ⟨_, rfl, wl, _, 0, _, rfl, rfl, SqL.of hw4, atI0 _ _, rfl, _, rfl, if_ hnd ?_⟩
      refine ⟨_, rfl, _, rfl, ?_⟩
      intro r dr hr0 hdr0 hne
      refine ⟨r, dr, (i : Nat), wl, rfl, upd_same, hne, fun H5 bl k5 hrow hbl hbl0 => ⟨rfl, ?_⟩⟩
      have bn : bl ≠ r ∧ bl ≠ dr ∧ H4 bl = none := by
        have y1 : bl ≠ r := fun y => by rw [y, upd_same] at hbl0; cases hbl0
        have y2 : bl ≠ dr := fun y => by rw [y, upd_ne hne, upd_same] at hbl0; cases hbl0
        rw [upd_ne y1, upd_ne y2] at hbl0
        exact ⟨y1, y2, hbl0⟩
      obtain ⟨bn1, bn2, hbl4⟩ := bn
      have k45 : Same H4 H5 := fun b ob e => k5 b ob (same_make hr0 hdr0 b ob e) fun hb => by
        rcases List.mem_cons.mp hb with y | y
        · rw [y, hr0] at e; cases e
        · rw [List.mem_singleton.mp y, hdr0] at e; cases e
      have k25 : Same H2 H5 := fun b ob e => k45 b ob (k24 b ob e)
      have back : ∀ {b : Addr}, H4 b = none → H2 b = none := fun {b} e => by
        cases y : H2 b with
        | none => rfl
        | some ob => rw [k24 b ob y] at e; cases e
      refine ⟨_, rfl, Nat.zero_le _, fun z hz => ⟨op, z, _, rfl, rfl, SqL.of (same_upd hz _ _ (k25 _ _ h5)), SqL.of upd_same, _, rfl, ?_⟩⟩
      have kz := same_upd (o := HO.lst []) hz
      have k2z : Same H2 (upd H5 z (.lst [])) := fun b ob e => kz b ob (k25 b ob e)
      have key : ∀ (Q8 : VK) (σ : L2.St), σ[2]? = some (some (.ref f)) → σ[3]? = some (some (.ref op)) → Q8 (.ref a) (upd H5 z (.lst [])) →
          (if (if true = true then !(rs.reverse.map V.ref).isEmpty else (rs.reverse.map V.ref).isEmpty) = true then SlX.tSl K (tOp (rIxL K) (tVar 3) (tUn (rU fun i => .int (-i)) (tC (.int 1)))) "block" σ (upd H5 z (.lst [])) Q8 else tVar 2 σ (upd H5 z (.lst [])) Q8) := fun Q8 σ e2 e3 hq => by
        have h1' : Rp K (nwh H1 (op :: a :: as) H2) H2 f i fr rs a as := h1
        clear hstep h1 h4
        cases fr with
        | nil =>
          cases rs with
          | cons r1 rs1 => exact h1'.elim
          | nil =>
            cases as with
            | cons a' as => exact h1'.elim
            | nil =>
              have ea : a = f := h1'
              refine if_ rfl ⟨_, e2, ?_⟩
              rw [← ea]
              exact hq
        | cons ph fr =>
          obtain ⟨p1, hd1⟩ := ph
          cases rs with
          | nil => exact h1'.elim
          | cons r1 rs1 =>
            cases as with
            | nil => exact h1'.elim
            | cons a' as =>
              obtain ⟨⟨wl1, rows1, ⟨dr1, vs1, num1, g1, g2, v1, v2, v0⟩, _⟩, _⟩ := h1'
              refine it (by simp) ⟨_, e3, 1, rfl, op, _, -1, .ref r1, rfl, rfl, SqL.of (k2z _ _ h5), ?_, r1, _, dr1, _, vs1, 0, _, rfl, .inr ⟨k2z _ _ (nwh_to g1).2.2, k2z _ _ (nwh_to g2).2.2⟩, T.cRow, T.sBlo, v0, hq⟩
              rw [List.reverse_cons, List.map_append]
              exact atI_last _ _
      refine key _ _ rfl rfl ?_
      have lrow : (rows.map V.ref).length < sizeLine := by
        rw [List.length_map]
        exact Nat.lt_of_le_of_lt h3 (Nat.lt_of_lt_of_le hi60 (by decide))
      refine ⟨_, rfl, .inl ⟨rfl, _, SqL.of (k2z _ _ h2)⟩, _, rfl, a, _, _, rfl, rfl, k2z _ _ h2, lrow, ?_⟩
      have hwa : wl ≠ a := fun y => by
        have y2 := kT a _ h2
        rw [← y, hwl] at y2
        cases y2
      have hw5 : upd (upd H5 z (.lst [])) a (.lst (rows.map V.ref ++ [V.ref r])) wl = some (.lst ((hdW h).map V.str)) := by
        rw [upd_ne hwa]
        exact kz _ _ (k45 _ _ hw4)
      refine ⟨_, rfl, wl, _, 0, _, rfl, rfl, SqL.of hw5, atI0 _ _, _, _, rfl, .inr (T.tBLO _), rfl, rfl, _, rfl, ?_⟩
      have hrz : RowAd K (upd H5 z (.lst [])) r dr wl bl := by
        obtain ⟨vs, num, a1, a2, a3⟩ := hrow
        exact ⟨vs, num, kz _ _ a1, kz _ _ a2, a3⟩
      have n3 : H2 wl = none := by
        cases y : H2 wl with
        | none => rfl
        | some ob =>
          rw [kT _ _ y] at hwl
          cases hwl
      have e3 : wl ≠ bl := fun y => by rw [← y, hw4] at hbl4; cases hbl4
      have hw6 : upd H5 z (.lst []) wl = some (.lst ((hdW h).map V.str)) := kz _ _ (k45 _ _ hw4)
      have sm : ∀ G : Hp, (∀ b ob, H1 b = some ob → G b = some ob) → Same H1 G := fun G k => k
      have h1a : H1 a = none := h7 a (List.mem_cons_of_mem _ List.mem_cons_self)
      cases h with
      | en => exact absurd rfl hen
      | ln l =>
        have est : st' = (fr, K68.app p (.line l .nil)) := (Option.some.inj hstep).symm
        subst est
        refine if_ (by cases l <;> rfl) ?_
        exact ⟨_, _, _, _, _, _, rfl, fun b o e => by
          rw [upd_ne (fun y => by rw [y, h1a] at e; cases e)]
          exact k2z b o (k3 b o e), rd_line k3 k2z h1 h2 h3 h4 h5 h6 h7 (Rp.some h1) hrz (back hr0) (back hdr0) n3 (Ne.symm bn1) (Ne.symm bn2) e3 hw6, hrun'⟩
      | rep kk =>
        have hc : fr.length < 4 ∧ kk ≤ 3 := by
          by_cases c : fr.length < 4 ∧ kk ≤ 3
          · exact c
          · have y : stepP (fr, p) (.rep kk) = none := if_neg c
            rw [y] at hstep
            cases hstep
        have hfr : fr.length < 4 := hc.1
        have neo : op ≠ a := fun y => (List.nodup_cons.mp h6).1 (by rw [y]; exact List.mem_cons_self)
        have hop6 : upd (upd H5 z (.lst [])) a (.lst (rows.map V.ref ++ [V.ref r])) op = some (.lst (rs.reverse.map V.ref)) := by
          rw [upd_ne neo]
          exact k2z _ _ h5
        have hrl : (rs.reverse.map V.ref).length = fr.length := by rw [List.length_map, List.length_reverse, Rp.len h1]
        refine it rfl ⟨_, rfl, _, _, rfl, .inl ⟨_, SqL.of hop6, rfl⟩, rfl, _, rfl, if_ (decide_eq_false fun y => by have := V.int.inj y; omega) ?_⟩
        refine ⟨_, rfl, .inl ⟨rfl, _, SqL.of hop6⟩, _, rfl, op, _, _, rfl, rfl, hop6, Nat.lt_of_lt_of_le (show (rs.reverse.map V.ref).length < 4 by omega) (by decide), ?_⟩
        have est : st' = ((p, .rep kk) :: fr, .nil) := by
          have y : some ((p, .rep kk) :: fr, K68.T.nil) = some st' := by rw [← hstep]; exact (if_pos hc).symm
          exact (Option.some.inj y).symm
        subst est
        have h1o : H1 op = none := hop1
        exact ⟨_, _, _, _, _, _, rfl, fun b o e => by
          rw [upd_ne (fun y => by rw [y, h1o] at e; cases e), upd_ne (fun y => by rw [y, h1a] at e; cases e)]
          exact k2z b o (k3 b o e), rd_open (hd := .rep kk) hc.2 k3 k2z h1 h2 h3 h4 h5 h6 h7 (Rp.some h1) hrz (back hr0) (back hdr0) n3 (back hbl4) (Ne.symm bn1) (Ne.symm bn2) e3 hw6 (kz _ _ hbl), hrun'⟩
      | whn o =>
        have hc : fr.length < 4 := by
          by_cases c : fr.length < 4
          · exact c
          · have y : stepP (fr, p) (.whn o) = none := if_neg c
            rw [y] at hstep
            cases hstep
        have hfr : fr.length < 4 := hc
        have neo : op ≠ a := fun y => (List.nodup_cons.mp h6).1 (by rw [y]; exact List.mem_cons_self)
        have hop6 : upd (upd H5 z (.lst [])) a (.lst (rows.map V.ref ++ [V.ref r])) op = some (.lst (rs.reverse.map V.ref)) := by
          rw [upd_ne neo]
          exact k2z _ _ h5
        have hrl : (rs.reverse.map V.ref).length = fr.length := by rw [List.length_map, List.length_reverse, Rp.len h1]
        refine it rfl ⟨_, rfl, _, _, rfl, .inl ⟨_, SqL.of hop6, rfl⟩, rfl, _, rfl, if_ (decide_eq_false fun y => by have := V.int.inj y; omega) ?_⟩
        refine ⟨_, rfl, .inl ⟨rfl, _, SqL.of hop6⟩, _, rfl, op, _, _, rfl, rfl, hop6, Nat.lt_of_lt_of_le (show (rs.reverse.map V.ref).length < 4 by omega) (by decide), ?_⟩
        have est : st' = ((p, .whn o) :: fr, .nil) := by
          have y : some ((p, .whn o) :: fr, K68.T.nil) = some st' := by rw [← hstep]; exact (if_pos hc).symm
          exact (Option.some.inj y).symm
        subst est
        have h1o : H1 op = none := hop1
        exact ⟨_, _, _, _, _, _, rfl, fun b o e => by
          rw [upd_ne (fun y => by rw [y, h1o] at e; cases e), upd_ne (fun y => by rw [y, h1a] at e; cases e)]
          exact k2z b o (k3 b o e), rd_open (hd := .whn o) trivial k3 k2z h1 h2 h3 h4 h5 h6 h7 (Rp.some h1) hrz (back hr0) (back hdr0) n3 (back hbl4) (Ne.symm bn1) (Ne.symm bn2) e3 hw6 (kz _ _ hbl), hrun'⟩
  · obtain ⟨y4, y5, y6, y7, y8, st, rfl, k3, hrd, hrun⟩ := hst
    have hl : ((linesS t).map V.str).length = (linesT t).length := by unfold linesS; rw [List.length_map, List.length_map]
    rw [hl, List.drop_length] at hrun
    have est : st = ([], t) := Option.some.inj hrun
    subst est
    obtain ⟨rs, a, as, rows, h1, h2, h3, h4, h5, h6, h7⟩ := hrd
    cases rs with
    | cons r rs => exact h1.elim
    | nil =>
      cases as with
      | cons a' as => exact h1.elim
      | nil =>
        have ea : a = f := h1
        subst ea
        refine ⟨_, rfl, Nat.zero_le _, fun z hz => ⟨op, z, _, rfl, rfl, SqL.of (same_upd hz _ _ h5), SqL.of upd_same, _, rfl, if_ rfl ?_⟩⟩
        have kz := same_upd (o := HO.lst []) hz
        refine ⟨_, rfl, q a rows (nwh H1 [op] (upd H2 z (.lst []))) _ (fun b o e => kz b o (k3 b o (k1 b o e))) (fun b o e => (nwh_to e).2.2) (fun b o e => ?_) (nwh_of hf (fun hb => hfo (List.mem_singleton.mp hb)) (kz _ _ h2)) (RwL.mono (nwh_step (fun b o e _ => kz b o e) fun b hb => .inl (by rw [List.mem_singleton.mp hb]; exact List.mem_cons_self)) h4)⟩
        unfold nwh
        rw [if_pos (.inl (by rw [k1 b o e]; rfl))]
end
end K6
set_option Elab.async false
set_option linter.all false
set_option maxRecDepth 100000
set_option maxHeartbeats 4000000
set_option pp.deepTerms false
set_option pp.deepTerms.threshold 6
set_option pp.maxSteps 400
/-! K68Scr4: run_script -/
namespace K6
open PySem PySem.Spec PyProof.Rows L2
section
variable {P : Program} {w : World} {K : PySem.W.Frag} {mg : Str → Option Value} {base : Heap}
def spRunScr (K : PySem.W.Frag) : Sp := fun vs H Q E => ∃ t, vs = [.str (scrT t)] ∧ low t ∧ ht t ≤ 3 ∧ K68.nl t < 60 ∧ K68.sm t ≤ 300 ∧
  (∀ rs out, K68.res t = some (rs, out) → ∀ p s o H', Same H H' → H' p = some (.tup [.ref s, .ref o]) → StAt K H' s rs → H' o = some (.lst (out.map outV1)) → Q (.ref p) H') ∧
  (K68.res t = none → ∀ dd H', Same H H' → E (.ref (ga K "ExecutionFailed")) (some dd) H')
theorem ok_runScr (T : Tx w K mg) : Gd P w K mg base (L2.CX P w) 16 "run_script" (spRunScr K) := by
  refine ⟨T.d_runScr.r sc_runScr bi_runScr (fun vs H Q E h => ?_) (fun cdv A outer s H vs Q E hr h => ?_), T.f_runScr, T.d_runScr.kp⟩
  · obtain ⟨t, rfl, _⟩ := h
    rfl
  obtain ⟨t, rfl, hlow, hht, hnl, hsm, q1, q2⟩ := h
  rw [K68.res_co hsm] at q1 q2
  refine ⟨_, pss_cons (ps_set (i := 1) sc_runScr.nd rfl (.inl rfl) (ck0 (ok_MaInit T) hr (by decide) pa0))
    (pss_cons (ps_expr (md (ok_Ex3 T) hr (Nat.le_refl _) (fun σ => L2.passAt (L2.takes_of rfl rfl rfl rfl) σ) (pv 1) (pa_cons (gd (ok_readScr T) hr (by decide) pass0 (pa_cons (pv 0) pa_nil)) pa_nil)))
    (pss_one (ps_ret (pe_tup (pa_cons (pe_fld (pv 1) rfl) (pa_cons (pe_fld (pv 1) rfl) pa_nil)))))), ?_⟩
  intro x dx hx hdx hne
  refine ⟨x, dx, rfl, upd_same, fun H1 d o k1 hm hd ho => ⟨rfl, ?_⟩⟩
  have s0 := same_make (C := ga K "Machine") hx hdx
  have ed : H d = none := free_of s0 hd
  have eo : H o = none := free_of s0 ho
  have h01 : Same H H1 := Keep.of k1 s0 fun b hb => by
    rw [List.mem_singleton.mp hb]
    exact hx
  obtain ⟨dx', st, kvs, hx1, hd1, ho1, hst, _⟩ := id hm
  refine ⟨_, rfl, x, dx', _, rfl, hx1, rfl, _, rfl, t, rfl, hlow, hht, hnl, fun f rows G H2 k2 gG gN gf hrw => ?_⟩
  have nxs : ∀ b ∈ [x, d, o], G b = none := fun b hb => by
    rcases List.mem_cons.mp hb with rfl | hb
    · exact gN _ _ hx1
    rcases List.mem_cons.mp hb with rfl | hb
    · exact gN _ _ hd1
    · rw [List.mem_singleton.mp hb]
      exact gN _ _ ho1
  have off : ∀ b ∈ [x, d, o], H b = none := fun b hb => by
    rcases List.mem_cons.mp hb with rfl | hb
    · exact hx
    rcases List.mem_cons.mp hb with rfl | hb
    · exact ed
    · rw [List.mem_singleton.mp hb]
      exact eo
  have h02 : Same H H2 := fun b ob e => k2 b ob (h01 b ob e)
  refine ⟨x, d, o, K68.co0, 0, G, f, rows, t, rfl, hm.mono k2, ⟨gG, nxs⟩, gf, hrw, hht, by omega, fun c' hc m' H3 k3 hm3 _ => ?_, fun hn dd H3 k3 => ?_⟩
  · obtain ⟨dx3, st3, kvs3, hx3, hd3, ho3, hst3, _⟩ := hm3
    have h03 : Same H H3 := Keep.of k3 h02 off
    refine ⟨_, rfl, x, _, dx3, _, _, rfl, hx3, T.c_Machine, T.n_Machine_present, rfl, _, rfl, x, _, dx3, _, _, rfl, hx3, T.c_Machine, T.n_Machine_output, rfl, by show 2 ≤ sizeLine; decide, fun p hp => ?_⟩
    exact q1 c'.rs c'.out (by rw [hc]; rfl) p st3 o _ (fun b ob e => same_upd hp b ob (h03 b ob e)) upd_same (hst3.mono (same_upd hp)) (same_upd hp _ _ ho3)
  · exact q2 (by rw [hn]; rfl) dd H3 (Keep.of k3 h02 off)
end
end K6
set_option Elab.async false
set_option linter.all false
set_option maxRecDepth 100000
set_option maxHeartbeats 2000000
/-! K68Ne: != of tuples whose items are seen to be equal, != of instances by their own == -/
namespace K6N
open PySem PySem.Spec PyProof.Rows PySem.SeqAt GQ
section
variable {prog : Program} {w : World} {A : Around} {R : Result → Shared → Prop}
/-- the body of tuple's !=, the items seen to be equal one by one -/
theorem body_neT (p q : Addr) (us vs : Array Value) (np nq : Nat) (dp dq : Option Addr) (lp lq : Array (Option Value)) (hn : us.size = vs.size) (I : Nat → Shared → Prop)
    (one : ∀ k (g1 : k < us.size) (g2 : k < vs.size) s, I k s → wpAny (model prog w) A.in1 (eqBool us[k] vs[k]) (fun b s' => b = true ∧ I (k + 1) s') (fun e s' => R (.error e) s') s)
    (last : ∀ s, I us.size s → R (.ok (.ret (.bool false))) s) {s : Shared} (hp1 : s.heap.get? p = some { cls := .type "tuple", dict := dp, data := .seq us np, slots := lp }) (hq1 : s.heap.get? q = some { cls := .type "tuple", dict := dq, data := .seq vs nq, slots := lq }) (h : I 0 s) :
    wpAny (model prog w) A.in1 (Builtin.«tuple.__ne__» ⟨[.ref p, .ref q], []⟩) (FinOf prog w A R) (fun e s' => R (.error e) s') s := by
  have kind := AutoSeq1.sub_tuple_tuple
  have hlen : (us.toList.zip vs.toList).length = us.size := by simp [hn]
  have hbegin := h
  obtain ⟨hh, gg, dd, tt, oo⟩ := s
  wp_walk using wpAny_loadPart' hp1, wpAny_loadPart' hq1, wpAny_forIn_list _ (fun left b s' => b.1 = none ∧ ∃ k, left = (us.toList.zip vs.toList).drop k ∧ k ≤ us.size ∧ I k s') _
  case turn =>
    rintro ⟨y, x⟩ left b s' ⟨eb, k, el, hk, hI⟩
    have lt0 : k < (us.toList.zip vs.toList).length := by
      by_cases c : k < (us.toList.zip vs.toList).length
      · exact c
      · rw [List.drop_of_length_le (Nat.le_of_not_lt c)] at el
        cases el
    have g1 : k < us.size := hlen ▸ lt0
    have g2 : k < vs.size := hn ▸ g1
    rw [List.drop_eq_getElem_cons lt0] at el
    injection el with e1 e2
    have ey : y = us[k] := by have z := congrArg Prod.fst e1; simpa using z
    have ex : x = vs[k] := by have z := congrArg Prod.snd e1; simpa using z
    subst ey ex
    refine wpAny_bind (wpAny_mono (one k g1 g2 s' hI) (fun b2 s2 z => ?_) fun _ _ z => z)
    obtain ⟨eb2, z⟩ := z
    subst eb2
    wp_walk
    exact ⟨rfl, k + 1, e2, g1, z⟩
  case fin =>
    rintro ⟨b1, b2⟩ s' ⟨eb, k, el, hk, hI⟩
    simp only at eb
    subst eb
    have ge0 : us.size ≤ k := by
      by_cases c : k < (us.toList.zip vs.toList).length
      · rw [List.drop_eq_getElem_cons c] at el
        cases el
      · exact Nat.le_of_not_lt (hlen ▸ c)
    have ek : k = us.size := Nat.le_antisymm hk ge0
    have hR : R (.ok (.ret (.bool false))) s' := last s' (ek ▸ hI)
    wp_walk
    simpa [Builtin.Tuple.tupleCompareSizes, hn, bne] using hR
  case h =>
    exact ⟨rfl, 0, rfl, Nat.zero_le _, hbegin⟩
end
section
variable {prog : Program} {w : World} {A : Around} {E : Value → Shared → Prop} {s : Shared} {K : PySem.W.Frag} {x C f : Addr} {ox : Obj} {od : Option Obj}
theorem rc_neT {p q : Addr} {us vs : Array Value} {Q : Value → Shared → Prop} (hn : us.size = vs.size) (hu : A.units < cLine) (I : Nat → Shared → Prop)
    (hp : s.heap.IsTuple p us) (hq : s.heap.IsTuple q vs)
    (one : ∀ k (g1 : k < us.size) (g2 : k < vs.size) s, I k s → wpAny (model prog w) A.in1 (eqBool us[k] vs[k]) (fun b s' => b = true ∧ I (k + 1) s') E s)
    (last : ∀ s, I us.size s → Q (.bool false) s) (h : I 0 s) : wpAny (model prog w) A (richCompare .NotEq (.ref p) (.ref q)) Q E s := by
  obtain ⟨⟨c1, d1, t1, l1⟩, o1, e1, n1, f1⟩ := id hp
  obtain ⟨⟨c2, d2, t2, l2⟩, o2, e2, n2, f2⟩ := id hq
  simp only at e1 f1 e2 f2
  subst e1 f1 e2 f2
  refine wpAny_richCompare_same_room (op := .NotEq) ⟨_, o1, rfl⟩ ⟨_, o2, rfl⟩ F.slot_tuple_ne (call_here F.slot_tuple_ne ⟨_, o1, rfl⟩ F.entry_tuple_ne (F.args_tuple_ne_2 _ _) ?_) hu
  exact body_neT (R := wants (fun v s' => v ≠ .notImplemented ∧ Q v s') E) p q us vs n1 n2 d1 d2 l1 l2 hn I one (fun s' z => ⟨(fun y => nomatch y), last s' z⟩) o1 o2 h
/-- object's != asks the own == -/
theorem entry_neO {y : Value} {Q : Fin → Shared → Prop} (X : K.In s.heap) (I : PySem.W.InstAt s.heap x ox C od) (he : PySem.W.findIn K (.ref C) "__eq__" = some (some (.ref f))) (hf : PySem.W.isFn K (.ref f) = true) (hu : A.units < cLine)
    (h : wpAny (model prog w) A (call (.ref f) [.ref x, y]) (fun v s' => v = .bool true ∧ Q (.done (.ret (.bool false))) s') E s) : wpAny (model prog w) A (Builtin.«object.__ne__» ⟨[.ref x, y], []⟩) Q E s := by
  unfold Builtin.«object.__ne__»
  repeat (first
    | with_reducible refine wpAny_cRoomFor hu ?_
    | (refine wpAny_bind (m := callSpecialIfBound? (.ref x) (Str.ofString "__eq__") [y]) (PySem.W.ifBound_K X I he hf (wpAny_mono h (fun v s' hv => by
          obtain ⟨ev, hq⟩ := hv
          subst ev
          repeat (first | exact hq | exact wpAny_pure hq | exact wpAny_truthy_bool hq | (refine wpAny_bind (m := truthy (.bool _)) (wpAny_truthy_bool ?_)) | wp_step)) fun _ _ e => e)))
    | wp_step)
theorem call_neO {y : Value} {Q : Value → Shared → Prop} (X : K.In s.heap) (I : PySem.W.InstAt s.heap x ox C od) (hm : PySem.W.mroIn K C (.type "object") = some true) (he : PySem.W.findIn K (.ref C) "__eq__" = some (some (.ref f))) (hf : PySem.W.isFn K (.ref f) = true) (hu : A.units + 1 < cLine)
    (h : wpAny (model prog w) A.in1 (call (.ref f) [.ref x, y]) (fun v s' => v = .bool true ∧ Q (.bool false) s') E s) : wpAny (model prog w) A (call (.builtin "object.__ne__") [.ref x, y]) Q E s :=
  wpAny_call (codeAny_call_builtin F.cmp_object.ne.plain F.cmpEntry_ne (PySem.W.check_slot F.cmpKind_ne F.cmpSplit_ne (I.type.andThen (PySem.W.looks_mroIn X hm)) (F.cmpArgs_ne _ _) (entry_neO (A := A.in1) X I he hf hu h)))
theorem ifBound_neO {M : Model} {us : List Value} {Q : Option Value → Shared → Prop} (X : K.In s.heap) (I : PySem.W.InstAt s.heap x ox C od) (hs : PySem.W.findIn K (.ref C) "__ne__" = some (some (.builtin "object.__ne__")))
    (h : wpAny M A (call (.builtin "object.__ne__") (.ref x :: us)) (fun v => Q (some v)) E s) : wpAny M A (callSpecialIfBound? (.ref x) "__ne__" us) Q E s := by
  simp only [callSpecialIfBound?, bindSpecialIfBound?]
  refine wpAny_holding (wpAny_bind (wpAny_bind (wpAny_bind (I.type.here ((PySem.W.looks_findIn X hs).here ?_)))))
  refine wpAny_bind (wpAny_askSetting (wpAny_ite ?_))
  have told : wpAny M A (call (.builtin "object.__ne__") ([.ref x] ++ us) >>= fun v => pure (some v)) Q E s := wpAny_bind (wpAny_mono h (fun v s' z => wpAny_pure z) fun _ _ z => z)
  split
  · exact wpAny_bind (wpAny_of_eq (F.cmp_object.ne.bind _) (wpAny_pure (by exact told)))
  · exact wpAny_tryCatch (wpAny_bind (wpAny_of_eq (F.cmp_object.ne.bind _) (wpAny_pure (by exact told))))
theorem rc_neO {y : Addr} {oy : Obj} {od2 : Option Obj} {Q : Value → Shared → Prop} (X : K.In s.heap) (I : PySem.W.InstAt s.heap x ox C od) (J : PySem.W.InstAt s.heap y oy C od2) (hs : PySem.W.findIn K (.ref C) "__ne__" = some (some (.builtin "object.__ne__")))
    (hm : PySem.W.mroIn K C (.type "object") = some true) (he : PySem.W.findIn K (.ref C) "__eq__" = some (some (.ref f))) (hf : PySem.W.isFn K (.ref f) = true) (hu : A.units + 1 < cLine)
    (h : wpAny (model prog w) A.in1 (call (.ref f) [.ref x, .ref y]) (fun v s' => v = .bool true ∧ Q (.bool false) s') E s) : wpAny (model prog w) A (richCompare .NotEq (.ref x) (.ref y)) Q E s := by
  have one : wpAny (model prog w) A (tryCompare (.ref x) "__ne__" (.ref y)) (fun r s' => r = some (.bool false) ∧ Q (.bool false) s') E s := by
    unfold tryCompare
    exact wpAny_bind (ifBound_neO X I hs (call_neO X I hm he hf hu (wpAny_mono h (fun v s' z => ⟨z.1, wpAny_pure ⟨rfl, z.2⟩⟩) fun _ _ z => z)))
  simp only [richCompare, cmpInfo_NotEq, oneThing_ref]
  refine wpAny_holding (wpAny_bind (wpAny_cRoomFor (Nat.lt_of_succ_lt hu) ?_))
  refine wpAny_bind (I.type.here (wpAny_bind (J.type.here ?_)))
  split
  · rename_i q
    exact absurd q (by simp)
  · refine wpAny_bind (wpAny_pure ?_)
    simp only [Bool.false_eq_true, if_false]
    refine wpAny_bind (m := tryCompare (.ref x) _ (.ref y)) (wpAny_mono one (fun r s' z => ?_) fun _ _ z => z)
    obtain ⟨er, z⟩ := z
    subst er
    exact wpAny_pure z
end
end K6N
namespace K6
open PySem PySem.Spec PyProof.Rows L2
section
variable {X : Cx} {n : Nat} {D : Eqv} {f C : Addr}
def rNeQ (D : Eqv) : R2 := fun x y H Q => D x y H ∧ ∀ H', Ext H H' → Q (.bl false) H'
/-- != of tuples, all the items equal -/
theorem op_neT (hD : Mon D) (h : EqG X n D) (hr : Room (n + 1) X.A) : OpR X (compareOp .NotEq) (rNeQ (DTup X.K D)) := by
  intro pins s σ H x y v u Q I rx ry hq
  obtain ⟨⟨a, b, xs, ys, rfl, rfl, ha, hb, p⟩, q⟩ := hq
  cases rx
  cases ry
  obtain ⟨its, r, e, z⟩ := I.tuple ha
  obtain ⟨its2, r2, e2, z2⟩ := I.tuple hb
  have hsz : its.toArray.size = its2.toArray.size := by rw [List.size_toArray, List.size_toArray, ← r.length, ← r2.length]; exact p.1
  refine PySem.W.cmp_ofNotEq (K6N.rc_neT hsz hr.units0 (fun _ s' => LoopI X pins σ H s') e e2 (fun i h1 h2 s' q => turnG hD h ⟨hr, rfl⟩ p r r2 i h1 h2 s' q) (fun s' z => ?_) ⟨H, I, Ext.rfl'⟩)
  obtain ⟨H', I', k⟩ := z
  exact ⟨.bl false, H', I', rfl, q H' k⟩
/-- != of instances whose own == says True -/
theorem op_neS {R : Addr → Addr → Hp → Prop} (F : FnR X.prog X.w X.K X.mg X.base CX0 n f (spEq R)) (hm : Meth X.K C "__eq__" f) (hs : PySem.W.findIn X.K (.ref C) "__ne__" = some (some (.builtin "object.__ne__")))
    (ho : PySem.W.mroIn X.K C (.type "object") = some true) (hr : Room (n + 1) X.A) : OpR X (compareOp .NotEq) (rNeQ (DIns C R)) := by
  intro pins s σ H x y v u Q I rx ry hq
  obtain ⟨⟨a, b, dx, dy, fs, gs, rfl, rfl, ha, hb, hR⟩, q⟩ := hq
  cases rx
  cases ry
  obtain ⟨od, J⟩ := inst_at I ha
  obtain ⟨od', J'⟩ := inst_at I hb
  have hu : X.A.units + 1 < cLine := by
    have z := hr.in1.units0
    exact z
  refine PySem.W.cmp_ofNotEq (K6N.rc_neO I.kIn J J' hs ho hm.at_ hm.fn hu ?_)
  refine run_own (us := [.ref a, .ref b]) (vs := [.ref a, .ref b]) (Q := fun v H' => v = .bl true ∧ L2.Ext H H') F hr.in1 (env0_in1 I) I (.cons rfl (.cons rfl .nil)) ⟨a, b, rfl, hR, fun H' z => ⟨rfl, z⟩⟩ fun u s' ⟨v, H', I', rv, ev, ex⟩ => ?_
  subst ev
  cases rv
  exact ⟨rfl, .bl false, H', I', rfl, q H' ex⟩
/-- != of lists of flat values, equal one by one -/
def rNeL : R2 := fun x y H Q => ∃ a b xs ys, x = .ref a ∧ y = .ref b ∧ H a = some (.lst xs) ∧ H b = some (.lst ys) ∧ Prs DFlat xs ys H ∧ Q (.bl false) H
theorem op_neL (hu : X.A.units < cLine) : OpR X (compareOp .NotEq) rNeL := by
  intro pins s σ H x y v u Q I rx ry h
  obtain ⟨a, b, xs, ys, rfl, rfl, ha, hb, p, q⟩ := h
  cases rx
  cases ry
  obtain ⟨z, its, k, r, e⟩ := I.hok a _ ha
  obtain ⟨z2, its2, k2, r2, e2⟩ := I.hok b _ hb
  have hsz : its.toArray.size = its2.toArray.size := by rw [List.size_toArray, List.size_toArray, ← r.length, ← r2.length]; exact p.1
  refine PySem.W.cmp_ofNotEq (SeqAt.RcNeAt.lists (e := fun _ => true) ⟨_, e, rfl, k, rfl⟩ ⟨_, e2, rfl, k2, rfl⟩ hsz hu (fun j h1 h2 => ?_) X.prog X.w X.xe _ ?_)
  · have m1 : j < its.length := by simpa using h1
    have m2 : j < its2.length := by simpa using h2
    have k1 : j < xs.length := by rw [r.length]; exact m1
    have k3 : j < ys.length := by rw [r2.length]; exact m2
    obtain ⟨u1, hu1, ru⟩ := r.get (List.getElem?_eq_getElem k1)
    obtain ⟨v1, hv1, rv⟩ := r2.get (List.getElem?_eq_getElem k3)
    rw [List.getElem?_eq_getElem m1] at hu1
    rw [List.getElem?_eq_getElem m2] at hv1
    obtain ⟨fx, fy, ee⟩ := p.2 j _ _ (List.getElem?_eq_getElem k1) (List.getElem?_eq_getElem k3)
    have q1 := eqAt_V (A := X.A.in1) (s := s) ru rv fx fy
    rw [ee, ← Option.some.inj hu1, ← Option.some.inj hv1] at q1
    exact q1
  · have e0 : (!(List.range its.toArray.size).all fun _ => true) = false := by simp
    rw [e0]
    exact ⟨.bl false, H, I, rfl, q⟩
end
end K6
set_option Elab.async false
set_option linter.all false
set_option maxRecDepth 100000
set_option maxHeartbeats 4000000
set_option pp.deepTerms false
set_option pp.deepTerms.threshold 6
set_option pp.maxSteps 400
/-! K68LTk: _law_taken: a number below many out of the script -/
namespace K6
open PySem PySem.Spec PyProof.Rows L2
/-- the list that tells how far the script is read -/
def RowS (K : PySem.W.Frag) (G H : Hp) (r : Addr) : Prop := ∃ s, ∃ ns : List Int, ∃ a : Nat, ∃ b c : Int, H r = some (.lst [.ref s, .int (a : Nat), .int b, .int c]) ∧ SqL K G s (ns.map V.int)
theorem modP {x : Int} {m : Nat} (h : 0 < m) : (x % (m : Int)).toNat < m ∧ (((x % (m : Int)).toNat : Nat) : Int) = x % (m : Int) := by
  have a := Int.emod_nonneg x (b := (m : Int)) (by omega)
  have b := Int.emod_lt_of_pos x (b := (m : Int)) (by omega)
  exact ⟨by omega, by omega⟩
def spTaken (K : PySem.W.Frag) : Sp := fun vs H Q _ => ∃ r, ∃ m : Nat, ∃ G, vs = [.ref r, .int (m : Nat)] ∧ 0 < m ∧ m < 100 ∧ Same G H ∧ G r = none ∧ RowS K G H r ∧
  ∀ (k : Nat) H', k < m → Keep [r] H H' → RowS K G H' r → Q (.int (k : Nat)) H'
section
variable {P : Program} {w : World} {K : PySem.W.Frag} {mg : Str → Option Value} {base : Heap}
theorem ok_lTaken (T : Tx w K mg) : Gd P w K mg base CX0 1 "_law_taken" (spTaken K) := by
  refine ⟨T.d_lTaken.r sc_lTaken bi_lTaken (fun vs H Q E h => ?_) (fun cdv A outer s H vs Q E hr h => ?_), T.f_lTaken, T.d_lTaken.kp⟩
  · obtain ⟨r, m, G, rfl, _⟩ := h
    rfl
  obtain ⟨r, m, G, rfl, hm, hm2, hG, gr, ⟨sc, ns, a, b, c, hr0, hs⟩, q⟩ := h
  refine ⟨_, pss_cons (ps_if (pt_cmp (pc_gt (pe_ix ix_list (pv 0) pe_int (fun _ _ => rfl)) pe_int))
      (pss_cons (ps_set (i := 2) sc_lTaken.nd rfl (.inl rfl) (pe_op op_mod (pe_callTy call_int1 (by rfl) T.b_int (by decide +kernel) (pa_cons (pe_ix ix_list (pv 0) pe_int (fun _ _ => rfl)) pa_nil)) (pv 1)))
      (pss_cons (ps_asg (pe_op op_fdiv (pe_ix ix_list (pv 0) pe_int (fun _ _ => rfl)) (pv 1)) (pg_sub (pv 0) pe_int set_list))
      (pss_one (ps_ret (pv 2))))) pss_nil)
    (pss_cons (ps_asg (pe_op op_add (pe_ix ix_list (pv 0) pe_int (fun _ _ => rfl)) pe_int) (pg_sub (pv 0) pe_int set_list))
    (pss_cons (ps_if (pt_cmp (pc_gt (pe_ix ix_list (pv 0) pe_int (fun _ _ => rfl)) (pe_callB call_len (by rfl) T.b_len (by decide +kernel) (pa_cons (pe_ix ix_list (pv 0) pe_int (fun _ _ => rfl)) pa_nil))))
      (pss_cons (ps_asg (pe_op op_mod (pe_callTy call_int1 (by rfl) T.b_int (by decide +kernel) (pa_cons (pe_op op_add (pe_op op_mul (pe_ix ix_list (pv 0) pe_int (fun _ _ => rfl)) pe_int) pe_int) pa_nil)) pe_int) (pg_sub (pv 0) pe_int set_list))
      (pss_one (ps_ret (pe_op op_mod (pe_callTy call_int1 (by rfl) T.b_int (by decide +kernel) (pa_cons (pe_op op_fdiv (pe_ix ix_list (pv 0) pe_int (fun _ _ => rfl)) pe_int) pa_nil)) (pv 1))))) pss_nil)
    (pss_cons (ps_set (i := 3) sc_lTaken.nd rfl (.inl rfl) (pe_ix ix_list (pe_ix ix_list (pv 0) pe_int (fun _ _ => rfl)) (pe_op op_sub (pe_ix ix_list (pv 0) pe_int (fun _ _ => rfl)) pe_int) (fun _ _ => rfl)))
    (pss_cons (ps_asg (pe_op op_mod (pe_callTy call_int1 (by rfl) T.b_int (by decide +kernel) (pa_cons (pe_op op_add (pe_op op_add (pe_op op_mul (pe_ix ix_list (pv 0) pe_int (fun _ _ => rfl)) pe_int) (pv 3)) pe_int) pa_nil)) pe_int) (pg_sub (pv 0) pe_int set_list))
    (pss_cons (ps_if (pt_cmp (pc_ge (pv 3) (pe_op op_pow pe_int pe_int)))
      (pss_one (ps_asg (pe_op op_fdiv (pv 3) (pv 1)) (pg_sub (pv 0) pe_int set_list))) pss_nil)
    (pss_one (ps_ret (pe_op op_mod (pe_callTy call_int1 (by rfl) T.b_int (by decide +kernel) (pa_cons (pv 3) pa_nil)) (pv 1))))))))), ?_⟩
  have res : ∀ (x : Int) H', Keep [r] H H' → RowS K G H' r → Q (.int (x % (m : Nat))) H' := fun x H' k1 k2 => by
    have z := modP (x := x) hm
    rw [← z.2]
    exact q _ H' z.1 k1 k2
  have hmi : (0 : Int) < (m : Nat) := by omega
  have hmd : CDiv c (m : Nat) := ⟨by omega, by omega⟩
  have sl : ∀ {H' : Hp}, Keep [r] H H' → SqL K H' sc (ns.map V.int) := fun k => SqL.ext hs (Keep.single k hG gr)
  refine ⟨_, rfl, r, _, 3, _, rfl, rfl, SqL.of hr0, rfl, c, 0, rfl, rfl, _, rfl, ?_⟩
  by_cases hc : c > 0
  · refine it (decide_eq_true hc) ⟨_, rfl, r, _, 3, _, rfl, rfl, SqL.of hr0, rfl, .inl ⟨_, rfl, _, rfl, _, _, rfl, rfl, hmi, ?_⟩⟩
    refine ⟨_, rfl, r, _, 3, _, rfl, rfl, SqL.of hr0, rfl, _, rfl, c, _, rfl, rfl, hmd, _, rfl, r, _, 3, 3, rfl, rfl, hr0, rfl, _, rfl, ?_⟩
    exact res c _ (keep_upd List.mem_cons_self) ⟨sc, ns, a, b, _, upd_same, hs⟩
  refine if_ (decide_eq_false hc) ?_
  refine ⟨_, rfl, r, _, 1, _, rfl, rfl, SqL.of hr0, rfl, _, _, rfl, rfl, _, rfl, r, _, 1, 1, rfl, rfl, hr0, rfl, ?_⟩
  have hq1 : ∀ x : V, Keep [r] H (upd H r (.lst ([.ref sc, .int (a : Nat), .int b, .int c].set 1 x))) := fun x => keep_upd List.mem_cons_self
  refine ⟨_, rfl, r, _, 1, _, rfl, rfl, SqL.of upd_same, rfl, _, rfl, r, _, 0, _, rfl, rfl, SqL.of upd_same, rfl, _, _, rfl, .inl ⟨_, sl (hq1 _), rfl⟩, _, _, rfl, rfl, _, rfl, ?_⟩
  rw [List.length_map]
  have ku : ∀ {H' : Hp} {o : HO}, Keep [r] H H' → Keep [r] H (upd H' r o) := fun k => k.trans (keep_upd List.mem_cons_self)
  by_cases hg : (a : Int) + 1 > (ns.length : Nat)
  · refine it (decide_eq_true hg) ⟨_, rfl, r, _, 2, _, rfl, rfl, SqL.of upd_same, rfl, b, 48271, rfl, rfl, .inr ⟨by decide, by decide⟩, _, 11, rfl, rfl, .inl ⟨_, rfl, _, _, rfl, rfl, (show (0 : Int) < 2147483647 by decide), _, rfl, r, _, 2, 2, rfl, rfl, upd_same, rfl, ?_⟩⟩
    refine ⟨_, rfl, r, _, 2, _, rfl, rfl, SqL.of upd_same, rfl, _, 7, rfl, rfl, ⟨by decide, by decide⟩, .inl ⟨_, rfl, _, rfl, _, _, rfl, rfl, hmi, ?_⟩⟩
    exact res _ _ (ku (hq1 _)) ⟨sc, ns, a + 1, _, c, upd_same, hs⟩
  refine if_ (decide_eq_false hg) ?_
  have hlt : a < ns.length := by omega
  have hx : ns[a]? = some ns[a] := List.getElem?_eq_getElem hlt
  generalize ns[a] = x at hx
  have hat : atI (ns.map V.int) ((a : Int) + 1 - 1) = some (.int x) := by
    rw [show (a : Int) + 1 - 1 = (a : Nat) by omega]
    exact atI_nat (by rw [List.getElem?_map, hx]; rfl)
  refine ⟨_, rfl, r, _, 0, _, rfl, rfl, SqL.of upd_same, rfl, _, rfl, r, _, 1, _, rfl, rfl, SqL.of upd_same, rfl, _, 1, rfl, rfl, sc, _, _, _, rfl, rfl, sl (hq1 _), hat, ?_⟩
  refine ⟨_, rfl, r, _, 2, _, rfl, rfl, SqL.of upd_same, rfl, b, 48271, rfl, rfl, .inr ⟨by decide, by decide⟩, _, rfl, _, _, rfl, rfl, _, 11, rfl, rfl, .inl ⟨_, rfl, _, _, rfl, rfl, (show (0 : Int) < 2147483647 by decide), _, rfl, r, _, 2, 2, rfl, rfl, upd_same, rfl, ?_⟩⟩
  refine ⟨_, rfl, 10, 18, rfl, rfl, ⟨by decide, by decide, by decide⟩, x, _, rfl, rfl, _, rfl, ?_⟩
  by_cases hb : x ≥ (10 : Int) ^ (18 : Int).toNat
  · refine it (decide_eq_true hb) ⟨_, rfl, _, rfl, x, _, rfl, rfl, ⟨by omega, by omega⟩, _, rfl, r, _, 3, 3, rfl, rfl, upd_same, rfl, ?_⟩
    refine ⟨_, rfl, .inl ⟨_, rfl, _, rfl, _, _, rfl, rfl, hmi, ?_⟩⟩
    exact res x _ (ku (ku (hq1 _))) ⟨sc, ns, a + 1, _, _, upd_same, hs⟩
  · refine if_ (decide_eq_false hb) ⟨_, rfl, .inl ⟨_, rfl, _, rfl, _, _, rfl, rfl, hmi, ?_⟩⟩
    exact res x _ (ku (hq1 _)) ⟨sc, ns, a + 1, _, c, upd_same, hs⟩
end
end K6
set_option Elab.async false
set_option linter.all false
set_option maxRecDepth 100000
set_option maxHeartbeats 4000000
set_option pp.deepTerms false
set_option pp.deepTerms.threshold 6
set_option pp.maxSteps 400
/-! K68LLn: _law_line: a row that is no block -/
namespace K6
open PySem PySem.Spec PyProof.Rows L2
theorem RowS.mono {K : PySem.W.Frag} {G H H' : Hp} {r : Addr} (h : RowS K G H r) (k : Same H H') : RowS K G H' r := by
  obtain ⟨s, ns, a, b, c, h1, h2⟩ := h
  exact ⟨s, ns, a, b, c, k _ _ h1, h2⟩
theorem at_ct : ∀ c : Nat, c < 5 → ∃ k, atI [V.str "required", V.str "requisite", V.str "sufficient", V.str "optional", V.str "1,ok,bad,die"] ((c : Nat) : Int) = some (.str (ctS k))
  | 0, _ => ⟨.req, rfl⟩
  | 1, _ => ⟨.rqs, rfl⟩
  | 2, _ => ⟨.suf, rfl⟩
  | 3, _ => ⟨.opt, rfl⟩
  | 4, _ => ⟨.mix, rfl⟩
  | n + 5, h => absurd h (by omega)
theorem at_dr : ∀ c : Nat, c < 2 → ∃ l : K68.Ln, l ≠ .drop99 ∧ ∃ z, atI [V.str "drop", V.str "swap"] ((c : Nat) : Int) = some (.str z) ∧ [V.str z, V.str "0"] = (hdW (.ln l)).map V.str
  | 0, _ => ⟨.drop, by decide, "drop", rfl, rfl⟩
  | 1, _ => ⟨.swap, by decide, "swap", rfl, rfl⟩
  | n + 2, h => absurd h (by omega)
theorem at_rs : ∀ c : Nat, c < 4 → ∃ k, atI [V.str "yes", V.str "no", V.str "skip", V.str "gone"] ((c : Nat) : Int) = some (.str (rsS k))
  | 0, _ => ⟨.yes, rfl⟩
  | 1, _ => ⟨.no, rfl⟩
  | 2, _ => ⟨.skip, rfl⟩
  | 3, _ => ⟨.gone, rfl⟩
  | n + 4, h => absurd h (by omega)
def spLine (K : PySem.W.Frag) : Sp := fun vs H Q _ => ∃ r nm G, ∃ ms : List K68.Md, vs = [.ref r, .ref nm] ∧ Same G H ∧ G r = none ∧ RowS K G H r ∧ SqL K G nm (ms.map fun m => V.str (mdS m)) ∧ 0 < ms.length ∧ ms.length ≤ 3 ∧
  ∀ (l : K68.Ln) p H', l ≠ .drop99 → Keep [r] H H' → RowS K G H' r → H p = none → H' p = some (.lst ((hdW (.ln l)).map V.str)) → Q (.ref p) H'
section
variable {P : Program} {w : World} {K : PySem.W.Frag} {mg : Str → Option Value} {base : Heap}
theorem none_keep {H H' : Hp} {r p : Addr} (hr : H r ≠ none) (k : Keep [r] H H') (hp : H' p = none) (hr' : H' r ≠ none) : H p = none := by
  cases e : H p with
  | none => rfl
  | some o =>
    have n : p ∉ [r] := fun z => by
      rw [List.mem_singleton.mp z] at hp
      exact hr' hp
    rw [k p o e n] at hp
    cases hp
theorem RowS.ne {K : PySem.W.Frag} {G H : Hp} {r : Addr} (h : RowS K G H r) : H r ≠ none := by
  obtain ⟨s, ns, a, b, c, h1, h2⟩ := h
  rw [h1]
  exact fun z => nomatch z
theorem ok_lLine (T : Tx w K mg) : Gd P w K mg base CX0 2 "_law_line" (spLine K) := by
  refine ⟨T.d_lLine.r sc_lLine bi_lLine (fun vs H Q E h => ?_) (fun cdv A outer s H vs Q E hr h => ?_), T.f_lLine, T.d_lLine.kp⟩
  · obtain ⟨r, nm, G, ms, rfl, _⟩ := h
    rfl
  obtain ⟨r, nm, G, ms, rfl, hG, gr, row, hnm, hm0, hm3, q⟩ := h
  refine ⟨_, pss_cons (ps_par (i := 2) (j := 3) rfl sc_lLine.nd rfl rfl (by decide) rfl rfl (pa_cons (gd (ok_lTaken T) hr (Nat.le_refl _) pass0 (pa_cons (pv 0) (pa_cons pe_int pa_nil)))
      (pa_cons (pe_ix ix_list (pv 1) (gd (ok_lTaken T) hr (Nat.le_refl _) pass0 (pa_cons (pv 0) (pa_cons (pe_callB call_len (by rfl) T.b_len (by decide +kernel) (pa_cons (pv 1) pa_nil)) pa_nil))) (fun _ _ => rfl)) pa_nil)) (by rfl))
    (pss_cons (ps_if (pt_cmp (pc_lt (pv 2) pe_int)) (pss_one (ps_ret (pe_lst (pa_cons pe_str (pa_cons (pe_ix ix_list (pe_lst (pa_cons pe_str (pa_cons pe_str (pa_cons pe_str (pa_cons pe_str (pa_cons pe_str pa_nil)))))) (gd (ok_lTaken T) hr (Nat.le_refl _) pass0 (pa_cons (pv 0) (pa_cons pe_int pa_nil))) (fun _ _ => rfl)) (pa_cons (pv 3) pa_nil)))))) pss_nil)
    (pss_cons (ps_if (pt_cmpR op_eq (pv 2) pe_int (nomark _)) (pss_one (ps_ret (pe_lst (pa_cons (pe_ix ix_list (pe_lst (pa_cons pe_str (pa_cons pe_str pa_nil))) (gd (ok_lTaken T) hr (Nat.le_refl _) pass0 (pa_cons (pv 0) (pa_cons pe_int pa_nil))) (fun _ _ => rfl)) (pa_cons pe_str pa_nil))))) pss_nil)
    (pss_cons (ps_if (pt_cmp (pc_lt (pv 2) pe_int)) (pss_one (ps_ret (pe_lst (pa_cons pe_str (pa_cons (pv 3) (pa_cons (pe_ix ix_list (pe_lst (pa_cons pe_str (pa_cons pe_str (pa_cons pe_str (pa_cons pe_str pa_nil))))) (gd (ok_lTaken T) hr (Nat.le_refl _) pass0 (pa_cons (pv 0) (pa_cons pe_int pa_nil))) (fun _ _ => rfl)) pa_nil)))))) pss_nil)
    (pss_one (ps_ret (pe_ifExp (pt_cmp (pc_lt (pv 2) pe_int)) (pe_lst (pa_cons pe_str pa_nil)) (pe_lst (pa_cons pe_str pa_nil)))))))), ?_⟩
  refine ⟨_, rfl, r, 8, G, rfl, by decide, by decide, hG, gr, row, fun way H1 hway k1 row1 => ?_⟩
  have g1 := Keep.single k1 hG gr
  refine ⟨_, rfl, _, rfl, _, rfl, _, _, rfl, .inl ⟨_, SqL.ext hnm g1, rfl⟩, r, (ms.map fun m => V.str (mdS m)).length, G, rfl, by rw [List.length_map]; exact hm0, by rw [List.length_map]; omega, g1, gr, row1, fun j H2 hj k2 row2 => ?_⟩
  rw [List.length_map] at hj
  have k12 := k1.trans k2
  have g2 := Keep.single k12 hG gr
  have hget : (ms.map fun m => V.str (mdS m))[j]? = some (.str (mdS ms[j])) := by rw [List.getElem?_map, List.getElem?_eq_getElem hj]; rfl
  generalize ms[j] = md at hget
  refine ⟨nm, _, _, _, rfl, rfl, SqL.ext hnm g2, atI_nat hget, _, _, rfl, ?_⟩
  have fr : ∀ {p : Addr}, H2 p = none → H p = none := fun hp => none_keep row.ne k12 hp row2.ne
  have pr : ∀ {p : Addr}, H2 p = none → p ∉ [r] := fun hp z => by
    rw [List.mem_singleton.mp z] at hp
    exact row2.ne hp
  refine ⟨_, rfl, (way : Nat), 2, rfl, rfl, _, rfl, ?_⟩
  by_cases c1 : ((way : Nat) : Int) < 2
  · refine it (decide_eq_true c1) ⟨by decide, fun p1 hp1 => ⟨_, rfl, r, 5, G, rfl, by decide, by decide, fun b o e => same_upd hp1 b o (g2 b o e), gr, row2.mono (same_upd hp1), fun c H3 hc k3 row3 => ?_⟩⟩
    obtain ⟨ct, hct⟩ := at_ct c hc
    have hl := k3 _ _ upd_same (pr hp1)
    refine ⟨p1, _, _, _, rfl, rfl, SqL.of hl, hct, _, rfl, (show 3 ≤ sizeLine by decide), fun p hp => ?_⟩
    have k23 : Keep [r] H2 H3 := (Same.keep (same_upd hp1)).trans k3
    exact q (.add ct md) p _ (fun z => nomatch z) (k12.trans (k23.trans (Same.keep (same_upd hp)))) (row3.mono (same_upd hp)) (fr (none_keep row2.ne k23 hp row3.ne)) upd_same
  refine if_ (decide_eq_false c1) ⟨_, rfl, rfl, _, rfl, ?_⟩
  by_cases c2 : ((way : Nat) : Int) = 2
  · refine it (decide_eq_true (congrArg V.int c2)) ⟨by decide, fun p1 hp1 => ⟨_, rfl, r, 2, G, rfl, by decide, by decide, fun b o e => same_upd hp1 b o (g2 b o e), gr, row2.mono (same_upd hp1), fun c H3 hc k3 row3 => ?_⟩⟩
    obtain ⟨l, hl99, z, hz, hw⟩ := at_dr c hc
    have hl := k3 _ _ upd_same (pr hp1)
    refine ⟨p1, _, _, _, rfl, rfl, SqL.of hl, hz, (show 2 ≤ sizeLine by decide), fun p hp => ?_⟩
    have k23 : Keep [r] H2 H3 := (Same.keep (same_upd hp1)).trans k3
    exact q l p _ hl99 (k12.trans (k23.trans (Same.keep (same_upd hp)))) (row3.mono (same_upd hp)) (fr (none_keep row2.ne k23 hp row3.ne)) (by rw [← hw]; exact upd_same)
  refine if_ (decide_eq_false fun z => c2 (V.int.inj z)) ⟨_, rfl, (way : Nat), 5, rfl, rfl, _, rfl, ?_⟩
  by_cases c3 : ((way : Nat) : Int) < 5
  · refine it (decide_eq_true c3) ⟨_, rfl, by decide, fun p1 hp1 => ⟨_, rfl, r, 4, G, rfl, by decide, by decide, fun b o e => same_upd hp1 b o (g2 b o e), gr, row2.mono (same_upd hp1), fun c H3 hc k3 row3 => ?_⟩⟩
    obtain ⟨rs, hrs⟩ := at_rs c hc
    have hl := k3 _ _ upd_same (pr hp1)
    refine ⟨p1, _, _, _, rfl, rfl, SqL.of hl, hrs, (show 3 ≤ sizeLine by decide), fun p hp => ?_⟩
    have k23 : Keep [r] H2 H3 := (Same.keep (same_upd hp1)).trans k3
    exact q (.tell md rs) p _ (fun z => nomatch z) (k12.trans (k23.trans (Same.keep (same_upd hp)))) (row3.mono (same_upd hp)) (fr (none_keep row2.ne k23 hp row3.ne)) upd_same
  refine if_ (decide_eq_false c3) ⟨_, rfl, (way : Nat), 7, rfl, rfl, _, rfl, ?_⟩
  by_cases c4 : ((way : Nat) : Int) < 7
  · exact it (decide_eq_true c4) ⟨by decide, fun p hp => q .run p _ (by decide) (k12.trans (Same.keep (same_upd hp))) (row2.mono (same_upd hp)) (fr hp) upd_same⟩
  · exact if_ (decide_eq_false c4) ⟨by decide, fun p hp => q .rules p _ (by decide) (k12.trans (Same.keep (same_upd hp))) (row2.mono (same_upd hp)) (fr hp) upd_same⟩
end
end K6
set_option Elab.async false
set_option linter.all false
set_option maxRecDepth 100000
set_option maxHeartbeats 2000000
/-! K68LFz: the law's rows as values; what of a heap stands still -/
namespace K6
open PySem PySem.Spec PyProof.Rows L2
/-- what stood still in G, or was made since H0, but for S -/
def fzS (H0 G : Hp) (S : List Addr) (H : Hp) : Hp := fun b => if b ∈ S then none else if (H0 b).isSome = true then G b else H b
def hp0 : Hp := fun _ => none
section
variable {H0 G H H' : Hp} {S S' : List Addr} {b : Addr} {o : HO}
theorem fz_new (hs : b ∉ S) (h0 : H0 b = none) (e : H b = some o) : fzS H0 G S H b = some o := by
  unfold fzS
  rw [if_neg hs, if_neg (by rw [h0]; exact Bool.false_ne_true)]
  exact e
theorem fz_old (hs : b ∉ S) (h0 : H0 b ≠ none) (e : G b = some o) : fzS H0 G S H b = some o := by
  unfold fzS
  have z : (H0 b).isSome = true := by
    cases y : H0 b with
    | none => exact absurd y h0
    | some u => rfl
  rw [if_neg hs, if_pos z]
  exact e
theorem fz_to (e : fzS H0 G S H b = some o) : b ∉ S ∧ ((H0 b ≠ none ∧ G b = some o) ∨ (H0 b = none ∧ H b = some o)) := by
  unfold fzS at e
  by_cases c : b ∈ S
  · rw [if_pos c] at e
    cases e
  · rw [if_neg c] at e
    refine ⟨c, ?_⟩
    cases y : H0 b with
    | none =>
      rw [y] at e
      exact .inr ⟨rfl, e⟩
    | some u =>
      rw [y] at e
      exact .inl ⟨(fun z => nomatch z), e⟩
theorem fz_step (k : Keep S H H') (hs : ∀ b, b ∈ S' → b ∈ S ∨ (H b = none ∧ H0 b = none)) : Same (fzS H0 G S H) (fzS H0 G S' H') := fun b o e => by
  obtain ⟨h1, h⟩ := fz_to e
  rcases h with ⟨h2, h3⟩ | ⟨h2, h3⟩
  · exact fz_old (fun z => (hs b z).elim h1 fun y => h2 y.2) h2 h3
  · exact fz_new (fun z => (hs b z).elim h1 fun y => by rw [y.1] at h3; cases h3) h2 (k b o h3 h1)
theorem fz_same (h : ∀ b o, G b = some o → b ∉ S → H b = some o) : Same (fzS H0 G S H) H := fun b o e => by
  obtain ⟨h1, h2⟩ := fz_to e
  rcases h2 with ⟨_, h3⟩ | ⟨_, h3⟩
  · exact h b o h3 h1
  · exact h3
/-- what a call made, seen from the caller -/
theorem fz_sub {H1 G1 : Hp} {S1 : List Addr} (hG : ∀ b o, G1 b = some o → H1 b ≠ none → fzS H0 G S H b = some o) (h01 : ∀ b, H0 b ≠ none → H1 b ≠ none) (hS : ∀ b, b ∈ S → H1 b ≠ none) : Same (fzS H1 G1 S1 H) (fzS H0 G S H) := fun b o e => by
  obtain ⟨h1, h⟩ := fz_to e
  rcases h with ⟨h2, h3⟩ | ⟨h2, h3⟩
  · exact hG b o h3 h2
  · refine fz_new (fun z => hS b z h2) ?_ h3
    cases y : H0 b with
    | none => rfl
    | some u => exact absurd h2 (h01 b (by rw [y]; exact fun z => nomatch z))
end
/-- rows as values: a line is a list of words, a block a tuple of its words and its rows -/
def TrV (G : Hp) : K68.T → List V → Prop
  | .nil, vs => vs = []
  | .line l t, vs => ∃ p ws, vs = V.ref p :: ws ∧ G p = some (.lst ((hdW (.ln l)).map V.str)) ∧ TrV G t ws
  | .rep k b t, vs => ∃ p q a bs ws, vs = V.ref p :: ws ∧ G p = some (.tup [.ref q, .ref a]) ∧ G q = some (.lst ((hdW (.rep k)).map V.str)) ∧ G a = some (.lst bs) ∧ TrV G b bs ∧ TrV G t ws
  | .whn k b t, vs => ∃ p q a bs ws, vs = V.ref p :: ws ∧ G p = some (.tup [.ref q, .ref a]) ∧ G q = some (.lst ((hdW (.whn k)).map V.str)) ∧ G a = some (.lst bs) ∧ TrV G b bs ∧ TrV G t ws
theorem TrV.mono {G G' : Hp} (k : Same G G') : ∀ {t : K68.T} {vs : List V}, TrV G t vs → TrV G' t vs
  | .nil, _, h => h
  | .line l t, vs, ⟨p, ws, e, h1, h2⟩ => ⟨p, ws, e, k _ _ h1, TrV.mono k h2⟩
  | .rep n b t, vs, ⟨p, q, a, bs, ws, e, h1, h2, h3, h4, h5⟩ => ⟨p, q, a, bs, ws, e, k _ _ h1, k _ _ h2, k _ _ h3, TrV.mono k h4, TrV.mono k h5⟩
  | .whn n b t, vs, ⟨p, q, a, bs, ws, e, h1, h2, h3, h4, h5⟩ => ⟨p, q, a, bs, ws, e, k _ _ h1, k _ _ h2, k _ _ h3, TrV.mono k h4, TrV.mono k h5⟩
theorem TrV.app {G : Hp} {u : K68.T} {ys : List V} (hu : TrV G u ys) : ∀ {t : K68.T} {vs : List V}, TrV G t vs → TrV G (K68.app t u) (vs ++ ys)
  | .nil, vs, h => by
    have e : vs = [] := h
    rw [e]
    exact hu
  | .line l t, vs, ⟨p, ws, e, h1, h2⟩ => ⟨p, ws ++ ys, by rw [e]; rfl, h1, TrV.app hu h2⟩
  | .rep n b t, vs, ⟨p, q, a, bs, ws, e, h1, h2, h3, h4, h5⟩ => ⟨p, q, a, bs, ws ++ ys, by rw [e]; rfl, h1, h2, h3, h4, TrV.app hu h5⟩
  | .whn n b t, vs, ⟨p, q, a, bs, ws, e, h1, h2, h3, h4, h5⟩ => ⟨p, q, a, bs, ws ++ ys, by rw [e]; rfl, h1, h2, h3, h4, TrV.app hu h5⟩
theorem TrV.len {G : Hp} : ∀ {t : K68.T} {vs : List V}, TrV G t vs → vs.length = K68.width t
  | .nil, vs, h => by
    have e : vs = [] := h
    rw [e]
    rfl
  | .line l t, vs, ⟨p, ws, e, h1, h2⟩ => by
    rw [e, List.length_cons, TrV.len h2, Nat.add_comm]
    rfl
  | .rep n b t, vs, ⟨p, q, a, bs, ws, e, h1, h2, h3, h4, h5⟩ => by
    rw [e, List.length_cons, TrV.len h5, Nat.add_comm]
    rfl
  | .whn n b t, vs, ⟨p, q, a, bs, ws, e, h1, h2, h3, h4, h5⟩ => by
    rw [e, List.length_cons, TrV.len h5, Nat.add_comm]
    rfl
theorem width_app : ∀ t u : K68.T, K68.width (K68.app t u) = K68.width t + K68.width u
  | .nil, u => (Nat.zero_add _).symm
  | .line l t, u => by
    show 1 + K68.width (K68.app t u) = 1 + K68.width t + K68.width u
    rw [width_app t u, Nat.add_assoc]
  | .rep k b t, u => by
    show 1 + K68.width (K68.app t u) = 1 + K68.width t + K68.width u
    rw [width_app t u, Nat.add_assoc]
  | .whn k b t, u => by
    show 1 + K68.width (K68.app t u) = 1 + K68.width t + K68.width u
    rw [width_app t u, Nat.add_assoc]
theorem wf_app : ∀ {d : Nat} {t u : K68.T}, K68.wf d t → K68.wf d u → K68.wf d (K68.app t u)
  | d, .nil, u, _, hu => hu
  | d, .line l t, u, ht, hu => by
    cases d with
    | zero => exact wf_app (t := t) (show K68.wf 0 t from ht) hu
    | succ d => exact wf_app (t := t) (show K68.wf (d + 1) t from ht) hu
  | 0, .rep k b t, u, ht, hu => ht.elim
  | 0, .whn k b t, u, ht, hu => ht.elim
  | d + 1, .rep k b t, u, ⟨h1, h2, h3, h4, h5⟩, hu => ⟨h1, h2, h3, h4, wf_app h5 hu⟩
  | d + 1, .whn k b t, u, ⟨h2, h3, h4, h5⟩, hu => ⟨h2, h3, h4, wf_app h5 hu⟩
theorem wf_line {d : Nat} (l : K68.Ln) : K68.wf d (.line l .nil) := by
  cases d <;> exact trivial
end K6
set_option Elab.async false
set_option linter.all false
set_option maxRecDepth 100000
set_option maxHeartbeats 4000000
set_option pp.deepTerms false
set_option pp.deepTerms.threshold 6
set_option pp.maxSteps 400
/-! K68LTr: _law_tree: rows drawn -/
namespace K6
open PySem PySem.Spec PyProof.Rows L2
theorem kS_str : ∀ k : Nat, k < 4 → ((k : Nat) : Int).natAbs.log2 < 1920 ∧ V.str (toString ((k : Nat) : Int)) = V.str (kS k)
  | 0, _ => ⟨by decide +kernel, congrArg V.str (by decide +kernel)⟩
  | 1, _ => ⟨by decide +kernel, congrArg V.str (by decide +kernel)⟩
  | 2, _ => ⟨by decide +kernel, congrArg V.str (by decide +kernel)⟩
  | 3, _ => ⟨by decide +kernel, congrArg V.str (by decide +kernel)⟩
  | n + 4, h => absurd h (by omega)
theorem at_io : ∀ c : Nat, c < 2 → ∃ o, atI [V.str "in", V.str "out"] ((c : Nat) : Int) = some (.str (ioS o))
  | 0, _ => ⟨true, rfl⟩
  | 1, _ => ⟨false, rfl⟩
  | n + 2, h => absurd h (by omega)
theorem notin2 {H : Hp} {r f p : Addr} (hr : H r ≠ none) (hf : H f ≠ none) (hp : H p = none) : p ∉ [r, f] := fun z => by
  rcases List.mem_cons.mp z with rfl | z
  · exact hr hp
  · rw [List.mem_singleton.mp z] at hp
    exact hf hp
theorem some_ne {H : Hp} {p : Addr} {o : HO} (h : H p = some o) : H p ≠ none := by
  rw [h]
  exact fun z => nomatch z
def spTr (K : PySem.W.Frag) (n : Nat) : Sp := fun vs H Q _ => ∃ r nm, ∃ d : Nat, ∃ G, ∃ ms : List K68.Md, vs = [.ref r, .ref nm, .int (d : Nat)] ∧ d < n ∧ Same G H ∧ G r = none ∧ RowS K G H r ∧ SqL K G nm (ms.map fun m => V.str (mdS m)) ∧ 0 < ms.length ∧ ms.length ≤ 3 ∧
  ∀ t f vs H', K68.wf d t → 1 ≤ K68.width t → K68.width t ≤ 4 → Keep [r] H H' → RowS K G H' r → H f = none → H' f = some (.lst vs) → TrV (fzS H hp0 [r] H') t vs → Q (.ref f) H'
/-- the rows so far, before the turn i -/
def TrAt (K : PySem.W.Frag) (G H : Hp) (r nm f : Addr) (d : Nat) (i : Nat) (σ : L2.St) (H' : Hp) : Prop := ∃ t vs y4 y5, σ = [some (.ref r), some (.ref nm), some (.int (d : Nat)), some (.ref f), y4, y5] ∧ Keep [r] H H' ∧ RowS K G H' r ∧
  H' f = some (.lst vs) ∧ TrV (fzS H hp0 [r, f] H') t vs ∧ K68.wf d t ∧ K68.width t = i
/-- one row more -/
theorem TrAt.push {K : PySem.W.Frag} {G H H5 : Hp} {r nm f : Addr} {d i : Nat} {σ : L2.St} {t u : K68.T} {vs : List V} {v : V} {y4 y5 : Option V} (hσ : σ = [some (.ref r), some (.ref nm), some (.int (d : Nat)), some (.ref f), y4, y5]) (hf0 : H f = none) (hfr : f ≠ r)
    (k : Keep [r] H H5) (row : RowS K G H5 r) (ht : TrV (fzS H hp0 [r, f] H5) t vs) (hu : TrV (fzS H hp0 [r, f] H5) u [v]) (wt : K68.wf d t) (wu : K68.wf d u) (w : K68.width t = i) (w1 : K68.width u = 1) : TrAt K G H r nm f d (i + 1) σ (upd H5 f (.lst (vs ++ [v]))) := by
  have s : Same (fzS H hp0 [r, f] H5) (fzS H hp0 [r, f] (upd H5 f (.lst (vs ++ [v])))) := fz_step (keep_upd (List.mem_cons_of_mem _ List.mem_cons_self)) fun b hb => .inl hb
  refine ⟨_, _, y4, y5, hσ, fun b o e n => ?_, ?_, upd_same, TrV.mono s (TrV.app hu ht), wf_app wt wu, by rw [width_app, w, w1]⟩
  · rw [upd_ne (ne_of_none e hf0)]
    exact k b o e n
  · obtain ⟨sc, ns, a, b, c, h1, h2⟩ := row
    exact ⟨sc, ns, a, b, c, by rw [upd_ne (Ne.symm hfr)]; exact h1, h2⟩
/-- a block's row -/
theorem blk_ok {H H4 H6 : Hp} {r f q a p : Addr} {ws : List V} {bs : List V} {b : K68.T} (rn : H r ≠ none) (k4 : Keep [r] H H4) (r4 : H4 r ≠ none) (f4 : H4 f ≠ none) (hq : H4 q = none) (k6 : Keep [r] (upd H4 q (.lst ws)) H6) (r6 : H6 r ≠ none) (f6 : H6 f ≠ none)
    (ha0 : upd H4 q (.lst ws) a = none) (ha6 : H6 a = some (.lst bs)) (ht : TrV (fzS (upd H4 q (.lst ws)) hp0 [r] H6) b bs) (hp : H6 p = none) :
    ∀ H7, H7 = upd H6 p (.tup [.ref q, .ref a]) → fzS H hp0 [r, f] H7 p = some (.tup [.ref q, .ref a]) ∧ fzS H hp0 [r, f] H7 q = some (.lst ws) ∧ fzS H hp0 [r, f] H7 a = some (.lst bs) ∧ TrV (fzS H hp0 [r, f] H7) b bs := by
  rintro H7 rfl
  have kq : Keep [r] H4 (upd H4 q (.lst ws)) := Same.keep (same_upd hq)
  have k06 : Keep [r] H H6 := k4.trans (kq.trans k6)
  have s67 := same_upd (o := HO.tup [.ref q, .ref a]) hp
  have hqr : q ∉ [r, f] := notin2 r4 f4 hq
  have hq5 : upd H4 q (.lst ws) q = some (.lst ws) := upd_same
  have nqr : q ∉ [r] := fun z => hqr (by rw [List.mem_singleton.mp z]; exact List.mem_cons_self)
  have r5 : upd H4 q (.lst ws) r ≠ none := by
    rw [upd_ne fun z => nqr (by rw [z]; exact List.mem_cons_self)]
    exact r4
  have f5 : upd H4 q (.lst ws) f ≠ none := by
    rw [upd_ne fun z => hqr (by rw [z]; exact List.mem_cons_of_mem _ List.mem_cons_self)]
    exact f4
  have har : a ∉ [r, f] := notin2 r5 f5 ha0
  refine ⟨fz_new (notin2 r6 f6 hp) (none_keep rn k06 hp r6) upd_same, fz_new hqr (none_keep rn k4 hq r4) (s67 _ _ (k6 _ _ hq5 nqr)), fz_new har (none_keep rn (k4.trans kq) ha0 r5) (s67 _ _ ha6), ?_⟩
  have s1 : Same (fzS (upd H4 q (.lst ws)) hp0 [r] H6) (fzS H hp0 [r, f] H6) := fz_sub (fun b o e _ => nomatch e) (fun b hb => by
      intro z
      exact hb (none_keep rn (k4.trans kq) z r5)) (fun b hb => by
      rcases List.mem_cons.mp hb with rfl | hb
      · exact r5
      · rw [List.mem_singleton.mp hb]
        exact f5)
  have s2 : Same (fzS H hp0 [r, f] H6) (fzS H hp0 [r, f] (upd H6 p (.tup [.ref q, .ref a]))) := fz_step (Same.keep s67) fun b hb => .inl hb
  exact TrV.mono s2 (TrV.mono s1 ht)
section
variable {P : Program} {w : World} {K : PySem.W.Frag} {mg : Str → Option Value} {base : Heap}
theorem ok_lTree1 (T : Tx w K mg) {n : Nat} (ih : Gd P w K mg base CX0 (n + 3) "_law_tree" (spTr K n)) : Gd P w K mg base CX0 (n + 1 + 3) "_law_tree" (spTr K (n + 1)) := by
  refine ⟨T.d_lTree.r sc_lTree bi_lTree (fun vs H Q E h => ?_) (fun cdv A outer s H vs Q E hr h => ?_), T.f_lTree, T.d_lTree.kp⟩
  · obtain ⟨r, nm, d, G, ms, rfl, _⟩ := h
    rfl
  obtain ⟨r, nm, d, G, ms, rfl, hd, hG, gr, row, hnm, hm0, hm3, q⟩ := h
  refine ⟨_, pss_cons (ps_set (i := 3) sc_lTree.nd rfl (.inl rfl) (pe_lst pa_nil))
    (pss_cons (ps_for PassesOwn.leaving rfl (pi_range1 (by rfl) T.b_range (pa_cons (pe_op op_add pe_int (gd (ok_lTaken T) hr (by omega) pass0 (pa_cons (pv 0) (pa_cons pe_int pa_nil)))) pa_nil)) (pg_name (i := 4) sc_lTree.nd rfl (.inl rfl))
      (pss_cons (ps_set (i := 5) sc_lTree.nd rfl (.inl rfl) (gd (ok_lTaken T) hr (by omega) pass0 (pa_cons (pv 0) (pa_cons pe_int pa_nil))))
      (pss_one (ps_if (PW.pt (pw_and (pt_cmp (pc_gt (pv 2) pe_int)) (pw_and1 (pt_cmpR op_eq (pv 5) pe_int (nomark _)))))
        (pss_one (ps_expr (pe_bm PySem.F.plainAttrs_list PySem.F.slot_list_append PySem.F.type_list_append mt_append (pv 3) (pa_cons (pe_tup (pa_cons (pe_lst (pa_cons pe_str (pa_cons (pe_callTy call_str_int (by rfl) T.b_str (by decide +kernel) (pa_cons (gd (ok_lTaken T) hr (by omega) pass0 (pa_cons (pv 0) (pa_cons pe_int pa_nil))) pa_nil)) pa_nil)))
            (pa_cons (gd ih hr (Nat.le_refl _) pass0 (pa_cons (pv 0) (pa_cons (pv 1) (pa_cons (pe_op op_sub (pv 2) pe_int) pa_nil)))) pa_nil))) pa_nil))))
        (pss_one (ps_if (PW.pt (pw_and (pt_cmp (pc_gt (pv 2) pe_int)) (pw_and1 (pt_cmpR op_eq (pv 5) pe_int (nomark _)))))
          (pss_one (ps_expr (pe_bm PySem.F.plainAttrs_list PySem.F.slot_list_append PySem.F.type_list_append mt_append (pv 3) (pa_cons (pe_tup (pa_cons (pe_lst (pa_cons pe_str (pa_cons (pe_ix ix_list (pe_lst (pa_cons pe_str (pa_cons pe_str pa_nil))) (gd (ok_lTaken T) hr (by omega) pass0 (pa_cons (pv 0) (pa_cons pe_int pa_nil))) (fun _ _ => rfl)) pa_nil)))
            (pa_cons (gd ih hr (Nat.le_refl _) pass0 (pa_cons (pv 0) (pa_cons (pv 1) (pa_cons (pe_op op_sub (pv 2) pe_int) pa_nil)))) pa_nil))) pa_nil))))
          (pss_one (ps_expr (pe_bm PySem.F.plainAttrs_list PySem.F.slot_list_append PySem.F.type_list_append mt_append (pv 3) (pa_cons (gd (ok_lLine T) hr (by omega) pass0 (pa_cons (pv 0) (pa_cons (pv 1) pa_nil))) pa_nil))))))))))
    (pss_one (ps_ret (pv 3)))), ?_⟩
  refine ⟨Nat.zero_le _, fun f hf => ?_⟩
  have hfr : f ≠ r := fun z => row.ne (by rw [← z]; exact hf)
  have s0 := same_upd (o := HO.lst []) hf
  refine ⟨_, rfl, r, 4, G, rfl, by decide, by decide, fun b o e => s0 b o (hG b o e), gr, row.mono s0, fun m H1 hm k1 row1 => ⟨1, (m : Nat), rfl, rfl, _, rfl, by omega, by omega, ?_⟩⟩
  rw [show (1 + ((m : Nat) : Int)).toNat = m + 1 by omega]
  have nfr : f ∉ [r] := fun z => hfr (List.mem_singleton.mp z)
  refine for_range (n := m + 1) (fun i σ H' => TrAt K G H r nm f d i σ H') ?_ (fun i σ H2 hi hst => ?_) fun σ H2 hst => ?_
  · exact ⟨.nil, [], none, none, rfl, (Same.keep s0).trans k1, row1, k1 _ _ upd_same nfr, rfl, by cases d <;> exact trivial, rfl⟩
  · obtain ⟨t, vs, y4, y5, rfl, k2, row2, hf2, htr, wft, wid⟩ := hst
    refine ⟨_, rfl, r, 6, G, rfl, by decide, by decide, Keep.single k2 hG gr, gr, row2, fun way H3 hway k3 row3 => ?_⟩
    have k03 := k2.trans k3
    have hf3 := k3 _ _ hf2 nfr
    have g3 := Keep.single k03 hG gr
    have s23 : Same (fzS H hp0 [r, f] H2) (fzS H hp0 [r, f] H3) := fz_step (fun b o e n => k3 b o e fun z => n (by rw [List.mem_singleton.mp z]; exact List.mem_cons_self)) fun b hb => .inl hb
    have htr3 := TrV.mono s23 htr
    have hlen : vs.length < sizeLine := by
      have z := TrV.len htr
      exact Nat.lt_of_lt_of_le (show vs.length < 10 by omega) (by decide)
    have sk : ∀ {H4 : Hp}, Keep [r] H3 H4 → Same (fzS H hp0 [r, f] H3) (fzS H hp0 [r, f] H4) := fun k => fz_step (fun b o e n => k b o e fun z => n (by rw [List.mem_singleton.mp z]; exact List.mem_cons_self)) fun b hb => .inl hb
    have line : ∀ (x4 x5 : Option V) (l : K68.Ln) p H4, Keep [r] H3 H4 → RowS K G H4 r → H3 p = none → H4 p = some (.lst ((hdW (.ln l)).map V.str)) → TrAt K G H r nm f d (i + 1) [some (.ref r), some (.ref nm), some (.int (d : Nat)), some (.ref f), x4, x5] (upd H4 f (.lst (vs ++ [V.ref p]))) := fun x4 x5 l p H4 k4 row4 hpn hp4 =>
      TrAt.push (u := .line l .nil) rfl hf hfr (k03.trans k4) row4 (TrV.mono (sk k4) htr3) ⟨p, [], rfl, fz_new (notin2 row3.ne (some_ne hf3) hpn) (none_keep row.ne k03 hpn row3.ne) hp4, rfl⟩ wft (wf_line l) wid rfl
    by_cases c1 : ((d : Nat) : Int) > 0
    · obtain ⟨e, rfl⟩ : ∃ e, d = e + 1 := ⟨d - 1, by omega⟩
      have ee : ((e + 1 : Nat) : Int) - 1 = (e : Nat) := by omega
      refine ⟨_, rfl, ((e + 1 : Nat) : Int), 0, rfl, rfl, _, rfl, it (decide_eq_true c1) ⟨_, rfl, rfl, _, rfl, ?_⟩⟩
      by_cases c2 : ((way : Nat) : Int) = 0
      · refine it (decide_eq_true (congrArg V.int c2)) ?_
        refine ⟨_, rfl, .inl ⟨rfl, _, SqL.of hf3⟩, _, rfl, r, 4, G, rfl, by decide, by decide, g3, gr, row3, fun kk H4 hkk k4 row4 => ⟨(kk : Nat), rfl, (kS_str kk hkk).1, (show 2 ≤ sizeLine by decide), fun qq hqq => ?_⟩⟩
        rw [(kS_str kk hkk).2]
        have k04 := k03.trans k4
        have sq := same_upd (o := HO.lst [V.str "repeat", V.str (kS kk)]) hqq
        refine ⟨_, rfl, _, rfl, _, rfl, _, 1, rfl, rfl, r, nm, e, G, ms, congrArg (fun z => [V.ref r, V.ref nm, V.int z]) ee, by omega, fun b o e => sq b o (Keep.single k04 hG gr b o e), gr, row4.mono sq, hnm, hm0, hm3, fun b a bs H6 wb w1 w4 k6 row6 ha0 ha6 htb => ⟨(show 2 ≤ sizeLine by decide), fun p hp => ?_⟩⟩
        have hf4 := k4 _ _ hf3 nfr
        have hf6 := k6 _ _ (sq _ _ hf4) nfr
        have b4 := blk_ok row.ne k04 row4.ne (some_ne hf4) hqq k6 row6.ne (some_ne hf6) ha0 ha6 htb hp _ rfl
        have k47 : Keep [r] H4 (upd H6 p (.tup [.ref qq, .ref a])) := (Same.keep sq).trans (k6.trans (Same.keep (same_upd hp)))
        exact ⟨f, _, _, rfl, rfl, same_upd hp _ _ hf6, hlen, TrAt.push (u := .rep kk b .nil) rfl hf hfr (k04.trans k47) (row6.mono (same_upd hp)) (TrV.mono (sk (k4.trans k47)) htr3) ⟨p, qq, a, bs, [], rfl, b4.1, b4.2.1, b4.2.2.1, b4.2.2.2, rfl⟩ wft ⟨by omega, wb, w1, w4, trivial⟩ wid rfl⟩
      · refine if_ (decide_eq_false fun z => c2 (V.int.inj z)) ?_
        refine ⟨_, rfl, ((e + 1 : Nat) : Int), 0, rfl, rfl, _, rfl, it (decide_eq_true c1) ⟨_, rfl, rfl, _, rfl, ?_⟩⟩
        by_cases c3 : ((way : Nat) : Int) = 1
        · refine it (decide_eq_true (congrArg V.int c3)) ?_
          refine ⟨_, rfl, .inl ⟨rfl, _, SqL.of hf3⟩, (show 2 ≤ sizeLine by decide), fun p1 hp1 => ⟨_, rfl, r, 2, G, rfl, by decide, by decide, fun b o e => same_upd hp1 b o (g3 b o e), gr, row3.mono (same_upd hp1), fun c H4 hc k4' row4 => ?_⟩⟩
          obtain ⟨oo, hoo⟩ := at_io c hc
          have hl := k4' _ _ upd_same (fun z => notin2 row3.ne (some_ne hf3) hp1 (by rw [List.mem_singleton.mp z]; exact List.mem_cons_self))
          refine ⟨p1, _, _, _, rfl, rfl, SqL.of hl, hoo, (show 2 ≤ sizeLine by decide), fun qq hqq => ?_⟩
          have k4 : Keep [r] H3 H4 := (Same.keep (same_upd hp1)).trans k4'
          have k04 := k03.trans k4
          have sq := same_upd (o := HO.lst [V.str "when", V.str (ioS oo)]) hqq
          refine ⟨_, rfl, _, rfl, _, rfl, _, 1, rfl, rfl, r, nm, e, G, ms, congrArg (fun z => [V.ref r, V.ref nm, V.int z]) ee, by omega, fun b o e => sq b o (Keep.single k04 hG gr b o e), gr, row4.mono sq, hnm, hm0, hm3, fun b a bs H6 wb w1 w4 k6 row6 ha0 ha6 htb => ⟨(show 2 ≤ sizeLine by decide), fun p hp => ?_⟩⟩
          have hf4 := k4 _ _ hf3 nfr
          have hf6 := k6 _ _ (sq _ _ hf4) nfr
          have b4 := blk_ok row.ne k04 row4.ne (some_ne hf4) hqq k6 row6.ne (some_ne hf6) ha0 ha6 htb hp _ rfl
          have k47 : Keep [r] H4 (upd H6 p (.tup [.ref qq, .ref a])) := (Same.keep sq).trans (k6.trans (Same.keep (same_upd hp)))
          exact ⟨f, _, _, rfl, rfl, same_upd hp _ _ hf6, hlen, TrAt.push (u := .whn oo b .nil) rfl hf hfr (k04.trans k47) (row6.mono (same_upd hp)) (TrV.mono (sk (k4.trans k47)) htr3) ⟨p, qq, a, bs, [], rfl, b4.1, b4.2.1, b4.2.2.1, b4.2.2.2, rfl⟩ wft ⟨wb, w1, w4, trivial⟩ wid rfl⟩
        · refine if_ (decide_eq_false fun z => c3 (V.int.inj z)) ?_
          refine ⟨_, rfl, .inl ⟨rfl, _, SqL.of hf3⟩, _, rfl, _, rfl, r, nm, G, ms, rfl, g3, gr, row3, hnm, hm0, hm3, fun l p H4 _ k4 row4 hpn hp4 => ⟨f, _, _, rfl, rfl, k4 _ _ hf3 nfr, hlen, line _ _ l p H4 k4 row4 hpn hp4⟩⟩
    · refine ⟨_, rfl, (d : Nat), 0, rfl, rfl, _, rfl, if_ (decide_eq_false c1) ⟨_, rfl, (d : Nat), 0, rfl, rfl, _, rfl, if_ (decide_eq_false c1) ?_⟩⟩
      exact ⟨_, rfl, .inl ⟨rfl, _, SqL.of hf3⟩, _, rfl, _, rfl, r, nm, G, ms, rfl, g3, gr, row3, hnm, hm0, hm3, fun l p H4 _ k4 row4 hpn hp4 => ⟨f, _, _, rfl, rfl, k4 _ _ hf3 nfr, hlen, line _ _ l p H4 k4 row4 hpn hp4⟩⟩
  · obtain ⟨t, vs, y4, y5, rfl, k2, row2, hf2, htr, wft, wid⟩ := hst
    have s : Same (fzS H hp0 [r, f] H2) (fzS H hp0 [r] H2) := fz_step (fun b o e _ => e) fun b hb => .inl (by rw [List.mem_singleton.mp hb]; exact List.mem_cons_self)
    exact ⟨_, rfl, q t f vs H2 wft (by omega) (by omega) k2 row2 hf hf2 (TrV.mono s htr)⟩
theorem ok_lTree (T : Tx w K mg) : ∀ n, Gd P w K mg base CX0 (n + 3) "_law_tree" (spTr K n)
  | 0 => ⟨fun A st s H us vs Q E hr e rv h => by
      obtain ⟨_, _, d, _, _, _, hd, _⟩ := h
      exact absurd hd (Nat.not_lt_zero d), T.f_lTree, T.d_lTree.kp⟩
  | n + 1 => ok_lTree1 T (ok_lTree T n)
end
end K6
set_option Elab.async false
set_option linter.all false
set_option maxRecDepth 100000
set_option maxHeartbeats 4000000
set_option pp.deepTerms false
set_option pp.deepTerms.threshold 6
set_option pp.maxSteps 400
/-! K68LLs: _law_lines: the rows as texts -/
namespace K6
open PySem PySem.Spec PyProof.Rows L2
def fewT (h : Hd) : Bool := decide (((hdW h).map (·.length)).sum + (hdW h).length * (" " : Str).length ≤ 1000)
theorem few_hd (h : Hd) (hk : okHd h) : fewT h = true := by
  cases h with
  | ln l =>
    cases l with
    | add c m => cases c <;> cases m <;> decide +kernel
    | drop => decide +kernel
    | swap => decide +kernel
    | drop99 => decide +kernel
    | tell m r => cases m <;> cases r <;> decide +kernel
    | run => decide +kernel
    | rules => decide +kernel
  | rep k =>
    match k, hk with
    | 0, _ => decide +kernel
    | 1, _ => decide +kernel
    | 2, _ => decide +kernel
    | 3, _ => decide +kernel
  | whn o => cases o <;> decide +kernel
  | en => decide +kernel
theorem words_few {h : Hd} (hk : okHd h) : ((hdW h).map (·.length)).sum + (hdW h).length * (" " : Str).length ≤ 16777216 := Nat.le_trans (of_decide_eq_true (few_hd h hk)) (by decide)
theorem txH_en : txH .en = "end" := by decide +kernel
theorem linesS_len (t : K68.T) : (linesS t).length = K68.nl t := by
  unfold linesS
  rw [List.length_map, linesT_len]
theorem linesS_line (l : K68.Ln) (t : K68.T) : linesS (.line l t) = txH (.ln l) :: linesS t := rfl
theorem linesS_rep (k : Nat) (b t : K68.T) : linesS (.rep k b t) = txH (.rep k) :: (linesS b ++ ("end" : Str) :: linesS t) := by
  show txH (.rep k) :: (linesT b ++ Hd.en :: linesT t).map txH = _
  rw [List.map_append, List.map_cons, txH_en]
  rfl
theorem linesS_whn (k : Bool) (b t : K68.T) : linesS (.whn k b t) = txH (.whn k) :: (linesS b ++ ("end" : Str) :: linesS t) := by
  show txH (.whn k) :: (linesT b ++ Hd.en :: linesT t).map txH = _
  rw [List.map_append, List.map_cons, txH_en]
  rfl
def spLs (n : Nat) : Sp := fun vs H Q _ => ∃ a xs t, vs = [.ref a] ∧ H a = some (.lst xs) ∧ TrV H t xs ∧ low t ∧ ht t < n ∧ K68.nl t < 10000 ∧
  ∀ p H', Same H H' → H p = none → H' p = some (.lst ((linesS t).map V.str)) → Q (.ref p) H'
/-- the texts so far -/
def LsAt (H : Hp) (a : Addr) (t : K68.T) (xs : List V) (n : Nat) (i : Nat) (σ : L2.St) (H' : Hp) : Prop := ∃ f t' done y2, σ = [some (.ref a), some (.ref f), y2] ∧ Same H H' ∧ H f = none ∧ H' f = some (.lst (done.map V.str)) ∧ TrV H t' (xs.drop i) ∧
  linesS t = done ++ linesS t' ∧ low t' ∧ ht t' ≤ n
section
variable {P : Program} {w : World} {K : PySem.W.Frag} {mg : Str → Option Value} {base : Heap}
theorem ok_lLines1 (T : Tx w K mg) {n : Nat} (ih : Gd P w K mg base CX0 (n + 1) "_law_lines" (spLs n)) : Gd P w K mg base CX0 (n + 1 + 1) "_law_lines" (spLs (n + 1)) := by
  refine ⟨T.d_lLines.r sc_lLines bi_lLines (fun vs H Q E h => ?_) (fun cdv A outer s H vs Q E hr h => ?_), T.f_lLines, T.d_lLines.kp⟩
  · obtain ⟨a, xs, t, rfl, _⟩ := h
    rfl
  obtain ⟨a, xs, t, rfl, ha, htr, hlow, hht, hnl, q⟩ := h
  refine ⟨_, pss_cons (ps_set (i := 1) sc_lLines.nd rfl (.inl rfl) (pe_lst pa_nil))
    (pss_cons (ps_for PassesOwn.leaving rfl (pi_list (pv 0)) (pg_name (i := 2) sc_lLines.nd rfl (.inl rfl))
      (pss_one (ps_if (pt_val (pe_callB call_isi (by rfl) T.b_isinstance (by decide +kernel) (pa_cons (pv 2) (pa_cons (kt (n := "tuple") T.b_tuple (by decide +kernel)) pa_nil))))
        (pss_one (ps_set (i := 1) sc_lLines.nd rfl (.inl rfl) (pe_op op_cat (pe_op op_cat (pe_op op_cat (pv 1) (pe_lst (pa_cons (pe_join pe_str (pe_ix ix_tup (pv 2) pe_int (fun _ _ => rfl))) pa_nil)))
            (gd ih hr (Nat.le_refl _) pass0 (pa_cons (pe_ix ix_tup (pv 2) pe_int (fun _ _ => rfl)) pa_nil))) (pe_lst (pa_cons pe_str pa_nil)))))
        (pss_one (ps_expr (pe_bm PySem.F.plainAttrs_list PySem.F.slot_list_append PySem.F.type_list_append mt_append (pv 1) (pa_cons (pe_join pe_str (pv 2)) pa_nil)))))))
    (pss_one (ps_ret (pv 1)))), ?_⟩
  refine ⟨Nat.zero_le _, fun f0 hf0 => ?_⟩
  have s0 := same_upd (o := HO.lst []) hf0
  refine ⟨_, rfl, a, rfl, ⟨_, SqL.of (s0 _ _ ha)⟩, ?_⟩
  refine for_list (K := K) (a := a) (xs := xs) (LsAt H a t xs n) ?_ (fun i σ H' _ ⟨_, _, _, _, _, k, _⟩ => SqL.of (k _ _ ha)) (fun i y σ H1 hi hst => ?_) (fun σ H1 hst => ?_)
  · exact ⟨f0, t, [], none, rfl, s0, hf0, upd_same, htr, rfl, hlow, Nat.le_of_lt_succ hht⟩
  · obtain ⟨f, t', done, y2, rfl, k1, hf, hf1, htr1, hl1, low1, ht1⟩ := hst
    obtain ⟨hlt, hget⟩ := List.getElem?_eq_some_iff.mp hi
    rw [List.drop_eq_getElem_cons hlt, hget] at htr1
    have hlen : done.length + K68.nl t' < 10000 := by
      have z := congrArg List.length hl1
      rw [List.length_append, linesS_len, linesS_len] at z
      omega
    have big : 10000 ≤ sizeLine := by decide
    have cs : (∃ l t2 p, t' = .line l t2 ∧ y = V.ref p ∧ H p = some (.lst ((hdW (.ln l)).map V.str)) ∧ TrV H t2 (xs.drop (i + 1))) ∨
        ∃ (h : Hd) (b t2 : K68.T) (p qq a2 : Addr) (bs : List V), okHd h ∧ linesS t' = txH h :: (linesS b ++ ("end" : Str) :: linesS t2) ∧ y = V.ref p ∧ H p = some (.tup [.ref qq, .ref a2]) ∧ H qq = some (.lst ((hdW h).map V.str)) ∧ H a2 = some (.lst bs) ∧ TrV H b bs ∧
          TrV H t2 (xs.drop (i + 1)) ∧ low b ∧ low t2 ∧ ht b < n ∧ ht t2 ≤ n ∧ K68.nl t' = 2 + K68.nl b + K68.nl t2 := by
      cases t' with
      | nil => cases htr1
      | line l t2 =>
        obtain ⟨p, ws, e, hp, htr2⟩ := htr1
        cases e
        exact .inl ⟨l, t2, p, rfl, rfl, hp, htr2⟩
      | rep kk b t2 =>
        obtain ⟨p, qq, a2, bs, ws, e, h1, h2, h3, h4, h5⟩ := htr1
        cases e
        obtain ⟨l1, l2, l3⟩ := low1
        have z : max (1 + ht b) (ht t2) ≤ n := ht1
        exact .inr ⟨.rep kk, b, t2, p, qq, a2, bs, l1, linesS_rep kk b t2, rfl, h1, h2, h3, h4, h5, l2, l3, by omega, by omega, rfl⟩
      | whn o b t2 =>
        obtain ⟨p, qq, a2, bs, ws, e, h1, h2, h3, h4, h5⟩ := htr1
        cases e
        obtain ⟨l2, l3⟩ := low1
        have z : max (1 + ht b) (ht t2) ≤ n := ht1
        exact .inr ⟨.whn o, b, t2, p, qq, a2, bs, trivial, linesS_whn o b t2, rfl, h1, h2, h3, h4, h5, l2, l3, by omega, by omega, rfl⟩
    rcases cs with ⟨l, t2, p, rfl, rfl, hp, htr2⟩ | ⟨h, b, t2, p, qq, a2, bs, hok, hl2, rfl, hp, hqq, ha2, hb, htr2, lowb, low2, htb, ht2, hnl2⟩
    · refine ⟨_, rfl, _, _, _, _, false, rfl, .ty _, .base (.lst (k1 _ _ hp)), kit_ty (by decide +kernel), false, rfl, if_ rfl ?_⟩
      have hlr : K68.nl (.line l t2) = 1 + K68.nl t2 := rfl
      refine ⟨_, rfl, .inl ⟨rfl, _, SqL.of hf1⟩, ⟨_, rfl⟩, _, rfl, _, p, _, rfl, rfl, .inl (SqL.of (k1 _ _ hp)), words_few (h := .ln l) trivial, f, _, _, rfl, rfl, hf1, by rw [List.length_map]; omega, ?_⟩
      exact ⟨f, t2, done ++ [txH (.ln l)], _, rfl, fun b o e => by rw [upd_ne (ne_of_none e hf)]; exact k1 b o e, hf, by rw [upd_same, List.map_append]; rfl, htr2, by rw [hl1, linesS_line, List.append_assoc]; rfl, low1, ht1⟩
    · refine ⟨_, rfl, _, _, _, _, true, rfl, .ty _, .base (.tup (k1 _ _ hp)), kit_ty (by decide +kernel), true, rfl, it rfl ?_⟩
      refine ⟨_, rfl, ⟨_, rfl⟩, _, rfl, p, _, 0, _, rfl, rfl, SqT.of (k1 _ _ hp), rfl, _, qq, _, rfl, rfl, .inl (SqL.of (k1 _ _ hqq)), words_few hok, (show 1 ≤ sizeLine by decide), fun p1 hp1 => ?_⟩
      have e1 := same_upd (o := HO.lst [V.str (Txt.join " " (hdW h))]) hp1
      refine ⟨f, p1, _, _, rfl, rfl, e1 _ _ hf1, upd_same, by rw [List.length_map]; show done.length + 1 ≤ _; omega, fun p2 hp2 => ?_⟩
      have e2 := same_upd (o := HO.lst (done.map V.str ++ [V.str (Txt.join " " (hdW h))])) hp2
      have k2 : Same H (upd (upd H1 p1 (.lst [V.str (Txt.join " " (hdW h))])) p2 (.lst (done.map V.str ++ [V.str (Txt.join " " (hdW h))]))) := fun b o e => e2 b o (e1 b o (k1 b o e))
      refine ⟨_, rfl, p, _, 1, _, rfl, rfl, SqT.of (k2 _ _ hp), rfl, a2, bs, b, rfl, k2 _ _ ha2, TrV.mono k2 hb, lowb, htb, by omega, fun p3 H3 k3 hn3 h3 => ?_⟩
      have k03 : Same H H3 := fun b o e => k3 b o (k2 b o e)
      refine ⟨p2, p3, _, _, rfl, rfl, k3 _ _ upd_same, h3, ?_, fun p4 hp4 => ⟨(show 1 ≤ sizeLine by decide), fun p5 hp5 => ?_⟩⟩
      · rw [List.length_append, List.length_map, List.length_map, linesS_len]
        show done.length + 1 + _ ≤ _
        omega
      have e4 := same_upd (o := HO.lst (done.map V.str ++ [V.str (Txt.join " " (hdW h))] ++ (linesS b).map V.str)) hp4
      have e5 := same_upd (o := HO.lst [V.str "end"]) hp5
      refine ⟨p4, p5, _, _, rfl, rfl, e5 _ _ upd_same, upd_same, ?_, fun p6 hp6 => ?_⟩
      · rw [List.length_append, List.length_append, List.length_map, List.length_map, linesS_len]
        show done.length + 1 + _ + 1 ≤ _
        omega
      have e6 := same_upd (o := HO.lst (done.map V.str ++ [V.str (Txt.join " " (hdW h))] ++ (linesS b).map V.str ++ [V.str "end"])) hp6
      have k06 : Same H (upd (upd (upd H3 p4 (.lst (done.map V.str ++ [V.str (Txt.join " " (hdW h))] ++ (linesS b).map V.str))) p5 (.lst [V.str "end"])) p6 (.lst (done.map V.str ++ [V.str (Txt.join " " (hdW h))] ++ (linesS b).map V.str ++ [V.str "end"]))) := fun b o e => e6 b o (e5 b o (e4 b o (k03 b o e)))
      have k05 : Same H (upd (upd H3 p4 (.lst (done.map V.str ++ [V.str (Txt.join " " (hdW h))] ++ (linesS b).map V.str))) p5 (.lst [V.str "end"])) := fun b o e => e5 b o (e4 b o (k03 b o e))
      refine ⟨p6, t2, done ++ [txH h] ++ linesS b ++ [("end" : Str)], _, rfl, k06, free_of k05 hp6, ?_, htr2, ?_, low2, ht2⟩
      · rw [upd_same, List.map_append, List.map_append, List.map_append]
        rfl
      · rw [hl1, hl2]
        simp [List.append_assoc]
  · obtain ⟨f, t', done, y2, rfl, k1, hf, hf1, htr1, hl1, low1, ht1⟩ := hst
    rw [List.drop_length] at htr1
    have e : t' = .nil := by
      cases t' with
      | nil => rfl
      | line l t2 => obtain ⟨p, ws, e, _⟩ := htr1; cases e
      | rep kk b t2 => obtain ⟨p, _, _, _, ws, e, _⟩ := htr1; cases e
      | whn kk b t2 => obtain ⟨p, _, _, _, ws, e, _⟩ := htr1; cases e
    subst e
    have e2 : linesS t = done := by rw [hl1]; exact List.append_nil _
    exact ⟨_, rfl, q f H1 k1 hf (by rw [e2]; exact hf1)⟩
theorem ok_lLines (T : Tx w K mg) : ∀ n, Gd P w K mg base CX0 (n + 1) "_law_lines" (spLs n)
  | 0 => ⟨fun A st s H us vs Q E hr e rv h => by
      obtain ⟨_, _, t, _, _, _, _, hd, _⟩ := h
      exact absurd hd (Nat.not_lt_zero _), T.f_lLines, T.d_lLines.kp⟩
  | n + 1 => ok_lLines1 T (ok_lLines T n)
end
end K6
set_option Elab.async false
set_option linter.all false
set_option maxRecDepth 100000
set_option maxHeartbeats 4000000
set_option pp.deepTerms false
set_option pp.deepTerms.threshold 6
set_option pp.maxSteps 400
/-! K68LRo: _law_rolled: repeats written out -/
namespace K6
open PySem PySem.Spec PyProof.Rows L2
theorem width_le : ∀ t : K68.T, K68.width t ≤ K68.nl t
  | .nil => Nat.le_refl _
  | .line l t => by
    have z := width_le t
    show 1 + K68.width t ≤ 1 + K68.nl t
    omega
  | .rep k b t => by
    have z := width_le t
    show 1 + K68.width t ≤ 2 + K68.nl b + K68.nl t
    omega
  | .whn k b t => by
    have z := width_le t
    show 1 + K68.width t ≤ 2 + K68.nl b + K68.nl t
    omega
def spRo (n : Nat) : Sp := fun vs H Q _ => ∃ a xs t G, vs = [.ref a] ∧ H a = some (.lst xs) ∧ Same G H ∧ TrV G t xs ∧ low t ∧ ht t < n ∧ K68.nl (K68.rolled t) < 10000 ∧
  ∀ p ys H', Same H H' → H p = none → H' p = some (.lst ys) → TrV (fzS H G [] H') (K68.rolled t) ys → Q (.ref p) H'
/-- the rows written out so far: f holds them -/
def RoSt (H G : Hp) (f : Addr) (u : K68.T) (ys : List V) (H' : Hp) : Prop := Same H H' ∧ H f = none ∧ H' f = some (.lst ys) ∧ TrV (fzS H G [f] H') u ys
/-- what a call made joins it -/
theorem RoSt.sub {H G H2 H3 : Hp} {f : Addr} {u v : K68.T} {ys rs : List V} (hG : Same G H) (h : RoSt H G f u ys H2) (k : Same H2 H3) (hv : TrV (fzS H2 G [] H3) v rs) : TrV (fzS H G [f] H3) u ys ∧ TrV (fzS H G [f] H3) v rs := by
  obtain ⟨k1, hf, hf2, hu⟩ := h
  refine ⟨TrV.mono (fz_step (Same.keep k) fun b hb => .inl hb) hu, TrV.mono (fz_sub (fun b o e _ => fz_old (fun z => ?_) (some_ne (hG _ _ e)) e) (fun b hb => ?_) fun b hb => ?_) hv⟩
  · rw [List.mem_singleton.mp z] at e
    rw [hG _ _ e] at hf
    cases hf
  · cases y : H b with
    | none => exact absurd y hb
    | some o => exact some_ne (k1 _ _ y)
  · rw [List.mem_singleton.mp hb]
    exact some_ne hf2
def RoAt (H G : Hp) (a : Addr) (t : K68.T) (xs : List V) (n : Nat) (i : Nat) (σ : L2.St) (H' : Hp) : Prop := ∃ f t' u ys y2 y3, σ = [some (.ref a), some (.ref f), y2, y3] ∧ RoSt H G f u ys H' ∧ TrV G t' (xs.drop i) ∧ K68.app u (K68.rolled t') = K68.rolled t ∧ low t' ∧ ht t' ≤ n
section
variable {P : Program} {w : World} {K : PySem.W.Frag} {mg : Str → Option Value} {base : Heap}
theorem ok_lRolled1 (T : Tx w K mg) {n : Nat} (ih : Gd P w K mg base CX0 (n + 1) "_law_rolled" (spRo n)) : Gd P w K mg base CX0 (n + 1 + 1) "_law_rolled" (spRo (n + 1)) := by
  refine ⟨T.d_lRolled.r sc_lRolled bi_lRolled (fun vs H Q E h => ?_) (fun cdv A outer s H vs Q E hr h => ?_), T.f_lRolled, T.d_lRolled.kp⟩
  · obtain ⟨a, xs, t, G, rfl, _⟩ := h
    rfl
  obtain ⟨a, xs, t, G, rfl, ha, hG, htr, hlow, hht, hnl, q⟩ := h
  refine ⟨_, pss_cons (ps_set (i := 1) sc_lRolled.nd rfl (.inl rfl) (pe_lst pa_nil))
    (pss_cons (ps_for PassesOwn.leaving rfl (pi_list (pv 0)) (pg_name (i := 2) sc_lRolled.nd rfl (.inl rfl))
      (pss_one (ps_if (pt_not (pt_val (pe_callB call_isi (by rfl) T.b_isinstance (by decide +kernel) (pa_cons (pv 2) (pa_cons (kt (n := "tuple") T.b_tuple (by decide +kernel)) pa_nil)))))
        (pss_one (ps_expr (pe_bm PySem.F.plainAttrs_list PySem.F.slot_list_append PySem.F.type_list_append mt_append (pv 1) (pa_cons (pv 2) pa_nil))))
        (pss_one (ps_if (pt_cmpR op_eq (pe_ix ix_list (pe_ix ix_tup (pv 2) pe_int (fun _ _ => rfl)) pe_int (fun _ _ => rfl)) pe_str (nomark _))
          (pss_one (ps_for PassesOwn.leaving rfl (pi_range1 (by rfl) T.b_range (pa_cons (pe_callTy call_int_str (by rfl) T.b_int (by decide +kernel) (pa_cons (pe_ix ix_list (pe_ix ix_tup (pv 2) pe_int (fun _ _ => rfl)) pe_int (fun _ _ => rfl)) pa_nil)) pa_nil)) (pg_name (i := 3) sc_lRolled.nd rfl (.inl rfl))
            (pss_one (ps_set (i := 1) sc_lRolled.nd rfl (.inl rfl) (pe_op op_cat (pv 1) (gd ih hr (Nat.le_refl _) pass0 (pa_cons (pe_ix ix_tup (pv 2) pe_int (fun _ _ => rfl)) pa_nil)))))))
          (pss_one (ps_expr (pe_bm PySem.F.plainAttrs_list PySem.F.slot_list_append PySem.F.type_list_append mt_append (pv 1) (pa_cons (pe_tup (pa_cons (pe_ix ix_tup (pv 2) pe_int (fun _ _ => rfl)) (pa_cons (gd ih hr (Nat.le_refl _) pass0 (pa_cons (pe_ix ix_tup (pv 2) pe_int (fun _ _ => rfl)) pa_nil)) pa_nil))) pa_nil)))))))))
    (pss_one (ps_ret (pv 1)))), ?_⟩
  refine ⟨Nat.zero_le _, fun f0 hf0 => ?_⟩
  have s0 := same_upd (o := HO.lst []) hf0
  refine ⟨_, rfl, a, rfl, ⟨_, SqL.of (s0 _ _ ha)⟩, ?_⟩
  refine for_list (K := K) (a := a) (xs := xs) (RoAt H G a t xs n) ?_ (fun i σ H' _ ⟨_, _, _, _, _, _, _, k, _⟩ => SqL.of (k.1 _ _ ha)) (fun i y σ H1 hi hst => ?_) (fun σ H1 hst => ?_)
  · exact ⟨f0, t, .nil, [], none, none, rfl, ⟨s0, hf0, upd_same, rfl⟩, htr, rfl, hlow, Nat.le_of_lt_succ hht⟩
  · obtain ⟨f, t', u, ys, y2, y3, rfl, hro, htr1, hl1, low1, ht1⟩ := hst
    obtain ⟨k1, hf, hf1, hu⟩ := id hro
    obtain ⟨hlt, hget⟩ := List.getElem?_eq_some_iff.mp hi
    rw [List.drop_eq_getElem_cons hlt, hget] at htr1
    have hlen : K68.nl u + K68.nl (K68.rolled t') < 10000 := by
      have z := congrArg K68.nl hl1
      rw [K68.nl_app] at z
      omega
    have big : 10000 ≤ sizeLine := by decide
    have hys : ys.length ≤ K68.nl u := by
      rw [TrV.len hu]
      exact width_le u
    have push : ∀ {H5 : Hp} {v : V} {w1 : K68.T}, Same H H5 → TrV (fzS H G [f] H5) u ys → TrV (fzS H G [f] H5) w1 [v] → RoSt H G f (K68.app u w1) (ys ++ [v]) (upd H5 f (.lst (ys ++ [v]))) := fun {H5 v w1} k h1 h2 =>
      ⟨fun b o e => by rw [upd_ne (ne_of_none e hf)]; exact k b o e, hf, upd_same, TrV.mono (fz_step (keep_upd List.mem_cons_self) fun b hb => .inl hb) (TrV.app h2 h1)⟩
    have nf : ∀ {b : Addr} {o : HO}, G b = some o → b ∉ [f] := fun {b o} e z => by
      rw [List.mem_singleton.mp z] at e
      rw [hG _ _ e] at hf
      cases hf
    cases t' with
    | nil => cases htr1
    | line l t2 =>
      obtain ⟨p, ws, e, hp, htr2⟩ := htr1
      cases e
      have hpH := hG _ _ hp
      refine ⟨_, rfl, _, _, _, _, false, rfl, .ty _, .base (.lst (k1 _ _ hpH)), kit_ty (by decide +kernel), false, rfl, it rfl ?_⟩
      refine ⟨_, rfl, .inl ⟨rfl, _, SqL.of hf1⟩, _, rfl, f, _, _, rfl, rfl, hf1, by omega, ?_⟩
      exact ⟨f, t2, _, _, _, _, rfl, push (w1 := .line l .nil) k1 hu ⟨p, [], rfl, fz_old (nf hp) (some_ne hpH) hp, rfl⟩, htr2, by rw [app_assoc]; exact hl1, low1, ht1⟩
    | rep kk b t2 =>
      obtain ⟨p, qq, a2, bs, ws, e, hp, hqq, ha2, hb, htr2⟩ := htr1
      cases e
      obtain ⟨hkk, lowb, low2⟩ := low1
      have hz : max (1 + ht b) (ht t2) ≤ n := ht1
      rw [K68.nl_rolled_rep] at hlen
      refine ⟨_, rfl, _, _, _, _, true, rfl, .ty _, .base (.tup (k1 _ _ (hG _ _ hp))), kit_ty (by decide +kernel), true, rfl, if_ rfl ?_⟩
      refine ⟨_, rfl, p, _, 0, _, rfl, rfl, SqT.of (k1 _ _ (hG _ _ hp)), rfl, qq, _, 0, _, rfl, rfl, SqL.of (k1 _ _ (hG _ _ hqq)), atI0 _ _, rfl, _, rfl, it rfl ?_⟩
      obtain ⟨ki1, ki2⟩ := kS_int hkk
      refine ⟨_, rfl, p, _, 0, _, rfl, rfl, SqT.of (k1 _ _ (hG _ _ hp)), rfl, qq, _, 1, _, rfl, rfl, SqL.of (k1 _ _ (hG _ _ hqq)), rfl, _, (kk : Int), rfl, ki1, ki2, (kk : Int), rfl, by omega, by omega, ?_⟩
      refine for_range (n := kk) (fun j σ H' => ∃ f u ys y3, σ = [some (.ref a), some (.ref f), some (.ref p), y3] ∧ RoSt H G f u ys H' ∧ K68.app u (K68.app (K68.times (K68.rolled b) (kk - j)) (K68.rolled t2)) = K68.rolled t)
        ⟨f, u, ys, y3, rfl, hro, hl1⟩ (fun j σ H2 hj ⟨f, u, ys, y3, hσ, hro2, hl2⟩ => ?_) (fun σ H2 ⟨f, u, ys, y3, hσ, hro2, hl2⟩ => ?_)
      · subst hσ
        obtain ⟨k2, hf2, hf22, hu2⟩ := id hro2
        have hkj : kk - j = (kk - (j + 1)) + 1 := by omega
        rw [hkj] at hl2
        have hl3 : K68.app u (K68.app (K68.app (K68.rolled b) (K68.times (K68.rolled b) (kk - (j + 1)))) (K68.rolled t2)) = K68.rolled t := hl2
        have hn3 := congrArg K68.nl hl3
        rw [K68.nl_app, K68.nl_app, K68.nl_app] at hn3
        have hys2 : ys.length ≤ K68.nl u := by
          rw [TrV.len hu2]
          exact width_le u
        refine ⟨_, rfl, _, rfl, p, _, 1, _, rfl, rfl, SqT.of (k2 _ _ (hG _ _ hp)), rfl, a2, bs, b, G, rfl, k2 _ _ (hG _ _ ha2), (fun b o e => k2 b o (hG b o e)), hb, lowb, by omega, by omega, fun p3 rs H3 k3 hn h3 htr3 => ?_⟩
        have hrs : rs.length ≤ K68.nl (K68.rolled b) := by
          rw [TrV.len htr3]
          exact width_le _
        refine ⟨f, p3, _, _, rfl, rfl, k3 _ _ hf22, h3, by omega, fun p4 hp4 => ?_⟩
        have e4 := same_upd (o := HO.lst (ys ++ rs)) hp4
        have k03 : Same H H3 := fun b o e => k3 b o (k2 b o e)
        obtain ⟨m1, m2⟩ := hro2.sub hG k3 htr3
        have hp4H := free_of k03 hp4
        refine ⟨p4, K68.app u (K68.rolled b), ys ++ rs, _, rfl, ⟨fun b o e => e4 b o (k03 b o e), hp4H, upd_same, TrV.mono (fz_step (Same.keep e4) fun b hb => .inr (by rw [List.mem_singleton.mp hb]; exact ⟨hp4, hp4H⟩)) (TrV.app m2 m1)⟩, ?_⟩
        rw [← hl3, app_assoc, app_assoc]
      · subst hσ
        rw [Nat.sub_self] at hl2
        exact ⟨f, t2, u, ys, _, y3, rfl, hro2, htr2, hl2, low2, by omega⟩
    | whn oo b t2 =>
      obtain ⟨p, qq, a2, bs, ws, e, hp, hqq, ha2, hb, htr2⟩ := htr1
      cases e
      obtain ⟨lowb, low2⟩ := low1
      have hz : max (1 + ht b) (ht t2) ≤ n := ht1
      have hnw : K68.nl (K68.rolled (.whn oo b t2)) = 2 + K68.nl (K68.rolled b) + K68.nl (K68.rolled t2) := rfl
      refine ⟨_, rfl, _, _, _, _, true, rfl, .ty _, .base (.tup (k1 _ _ (hG _ _ hp))), kit_ty (by decide +kernel), true, rfl, if_ rfl ?_⟩
      refine ⟨_, rfl, p, _, 0, _, rfl, rfl, SqT.of (k1 _ _ (hG _ _ hp)), rfl, qq, _, 0, _, rfl, rfl, SqL.of (k1 _ _ (hG _ _ hqq)), atI0 _ _, rfl, _, rfl, if_ rfl ?_⟩
      refine ⟨_, rfl, .inl ⟨rfl, _, SqL.of hf1⟩, _, rfl, p, _, 0, _, rfl, rfl, SqT.of (k1 _ _ (hG _ _ hp)), rfl, _, rfl, p, _, 1, _, rfl, rfl, SqT.of (k1 _ _ (hG _ _ hp)), rfl, a2, bs, b, G, rfl, k1 _ _ (hG _ _ ha2), (fun b o e => k1 b o (hG b o e)), hb, lowb, by omega, by omega, fun p3 rs H3 k3 hn h3 htr3 => ⟨(show 2 ≤ sizeLine by decide), fun p4 hp4 => ?_⟩⟩
      have e4 := same_upd (o := HO.tup [.ref qq, .ref p3]) hp4
      have k03 : Same H H3 := fun b o e => k3 b o (k1 b o e)
      obtain ⟨m1, m2⟩ := hro.sub hG k3 htr3
      have s34 : Same (fzS H G [f] H3) (fzS H G [f] (upd H3 p4 (.tup [.ref qq, .ref p3]))) := fz_step (Same.keep e4) fun b hb => .inl hb
      have hf3 := k3 _ _ hf1
      have n3 : p3 ∉ [f] := fun z => by
        rw [List.mem_singleton.mp z, hf1] at hn
        cases hn
      have n4 : p4 ∉ [f] := fun z => by
        rw [List.mem_singleton.mp z, hf3] at hp4
        cases hp4
      refine ⟨f, _, _, rfl, rfl, e4 _ _ hf3, by omega, ?_⟩
      exact ⟨f, t2, _, _, _, _, rfl, push (w1 := .whn oo (K68.rolled b) .nil) (fun b o e => e4 b o (k03 b o e)) (TrV.mono s34 m1) ⟨p4, qq, p3, rs, [], rfl, fz_new n4 (free_of k03 hp4) upd_same, fz_old (nf hqq) (some_ne (hG _ _ hqq)) hqq, fz_new n3 (free_of k1 hn) (e4 _ _ h3), TrV.mono s34 m2, rfl⟩, htr2, by rw [app_assoc]; exact hl1, low2, by omega⟩
  · obtain ⟨f, t', u, ys, y2, y3, rfl, hro, htr1, hl1, low1, ht1⟩ := hst
    obtain ⟨k1, hf, hf1, hu⟩ := id hro
    rw [List.drop_length] at htr1
    have e : t' = .nil := by
      cases t' with
      | nil => rfl
      | line l t2 => obtain ⟨p, ws, e, _⟩ := htr1; cases e
      | rep kk b t2 => obtain ⟨p, _, _, _, ws, e, _⟩ := htr1; cases e
      | whn kk b t2 => obtain ⟨p, _, _, _, ws, e, _⟩ := htr1; cases e
    subst e
    have e2 : u = K68.rolled t := by rw [← hl1]; exact (app_nil u).symm
    subst e2
    exact ⟨_, rfl, q f ys H1 k1 hf hf1 (TrV.mono (fz_step (fun b o e _ => e) fun b hb => absurd hb List.not_mem_nil) hu)⟩
theorem ok_lRolled (T : Tx w K mg) : ∀ n, Gd P w K mg base CX0 (n + 1) "_law_rolled" (spRo n)
  | 0 => ⟨fun A st s H us vs Q E hr e rv h => by
      obtain ⟨_, _, t, _, _, _, _, _, _, hd, _⟩ := h
      exact absurd hd (Nat.not_lt_zero _), T.f_lRolled, T.d_lRolled.kp⟩
  | n + 1 => ok_lRolled1 T (ok_lRolled T n)
end
end K6
set_option Elab.async false
set_option linter.all false
set_option maxRecDepth 100000
set_option maxHeartbeats 4000000
set_option pp.deepTerms false
set_option pp.deepTerms.threshold 6
set_option pp.maxSteps 400
/-! K68LRn: _law_run: what a script does, None if it fails -/
namespace K6
open PySem PySem.Spec PyProof.Rows L2
section
variable {P : Program} {w : World} {K : PySem.W.Frag} {mg : Str → Option Value} {base : Heap}
def spRun (K : PySem.W.Frag) : Sp := fun vs H Q _ => ∃ a xs t, vs = [.ref a] ∧ H a = some (.lst xs) ∧ TrV H t xs ∧ low t ∧ ht t ≤ 3 ∧ K68.nl t < 60 ∧ K68.sm t ≤ 300 ∧
  (∀ rs out, K68.res t = some (rs, out) → ∀ p s o H', Same H H' → H' p = some (.tup [.ref s, .ref o]) → StAt K H' s rs → H' o = some (.lst (out.map outV1)) → Q (.ref p) H') ∧
  (K68.res t = none → ∀ H', Same H H' → Q .non H')
def rJn (K : PySem.W.Frag) : V → List V → Hp → VK → Prop := fun x xs H Q => ∃ a p, ∃ ys : List Str, x = .str a ∧ xs = [.ref p] ∧ (SqL K H p (ys.map V.str) ∨ SqT K H p (ys.map V.str)) ∧
  (ys.map (·.length)).sum + ys.length * a.length ≤ 16777216 ∧ Q (.str (Txt.join a ys)) H
def tbRun (K : PySem.W.Frag) : WX → TS := fun W => tRet (tRS (spRunScr K) (fun σ cls d H => W cls d σ H) (tCons (tM1 (rJn K) (tC (.str "\n")) (tR (spLs 4) E0 (tCons (tVar 0) tNil))) tNil))
def tsRun : Addr → Value → Option Addr → TS := fun _ _ _ => tRet (tC .non)
theorem ok_lRun (T : Tx w K mg) : Gd P w K mg base CX0 17 "_law_run" (spRun K) := by
  refine ⟨T.d_lRun.r sc_lRun bi_lRun (fun vs H Q E h => ?_) (fun cdv A outer s H vs Q E hr h => ?_), T.f_lRun, T.d_lRun.kp⟩
  · obtain ⟨a, xs, t, rfl, _⟩ := h
    rfl
  obtain ⟨a, xs, t, rfl, ha, htr, hlow, hht, hnl, hsm, q1, q2⟩ := h
  refine ⟨_, pss_one (ps_try_only (tb := tbRun K) (ts := tsRun) (Wout := fun _ _ _ _ => False) rfl rfl ⟨rfl, by decide, .inl T.g_StackError⟩ takes0 ?hb ?hsu), ?rd⟩
  case hb => exact fun W pn xe tk _ => pss_one (ps_ret (gdS (ok_runScr T) hr (Nat.le_refl _) (fun σ => L2.passAt tk σ) (pa_cons (pe_join pe_str (gd (ok_lLines T 4) hr (by decide) pass0 (pa_cons (pv 0) pa_nil))) pa_nil)))
  case hsu => exact fun a oe cls d pn _ _ => pss_one (ps_ret pe_non)
  have hsum : ((linesS t).map (·.length)).sum + (linesS t).length * ("\n" : Str).length ≤ 16777216 := by
    have z := sum_le (l := linesS t) (k := 40) fun z hz => (linesS_plain hlow z hz).2.1
    rw [linesS_len] at z ⊢
    show _ + K68.nl t * 1 ≤ _
    omega
  refine ⟨⟨_, rfl⟩, _, rfl, a, xs, t, rfl, ha, htr, hlow, by omega, by omega, fun p H1 k1 hn h1 => ⟨_, p, linesS t, rfl, rfl, .inl (SqL.of h1), hsum, t, rfl, hlow, hht, hnl, hsm, ?_, ?_⟩⟩
  · exact fun rs out he p s o H' k h1 h2 h3 => q1 rs out he p s o H' (fun b ob e => k b ob (k1 b ob e)) h1 h2 h3
  · exact fun he dd H' k => ⟨true, T.x_ExecutionFailed_StackError, fun _ a ha => q2 he H' fun b ob e => k b ob (k1 b ob e), fun z => nomatch z⟩
end
end K6
set_option Elab.async false
set_option linter.all false
set_option maxRecDepth 100000
set_option maxHeartbeats 2000000
/-! K68LMt: drawn rows are few; words for the law's own lists -/
namespace K6
open PySem PySem.Spec PyProof.Rows L2
theorem low_wf : ∀ (t : K68.T) (d : Nat), K68.wf d t → low t
  | .nil, _, _ => trivial
  | .line l t, d, h => by
    have z : K68.wf d t := by cases d <;> exact h
    exact low_wf t d z
  | .rep k b t, 0, h => h.elim
  | .rep k b t, d + 1, ⟨h1, h2, _, _, h5⟩ => ⟨h1, low_wf b d h2, low_wf t (d + 1) h5⟩
  | .whn k b t, 0, h => h.elim
  | .whn k b t, d + 1, ⟨h2, _, _, h5⟩ => ⟨low_wf b d h2, low_wf t (d + 1) h5⟩
theorem ht_wf : ∀ (t : K68.T) (d : Nat), K68.wf d t → ht t ≤ d
  | .nil, _, _ => Nat.zero_le _
  | .line l t, d, h => by
    have z : K68.wf d t := by cases d <;> exact h
    exact ht_wf t d z
  | .rep k b t, 0, h => h.elim
  | .rep k b t, d + 1, ⟨h1, h2, _, _, h5⟩ => by
    have a := ht_wf b d h2
    have c := ht_wf t (d + 1) h5
    show max (1 + ht b) (ht t) ≤ d + 1
    omega
  | .whn k b t, 0, h => h.elim
  | .whn k b t, d + 1, ⟨h2, _, _, h5⟩ => by
    have a := ht_wf b d h2
    have c := ht_wf t (d + 1) h5
    show max (1 + ht b) (ht t) ≤ d + 1
    omega
theorem low_app : ∀ {t u : K68.T}, low t → low u → low (K68.app t u)
  | .nil, u, _, hu => hu
  | .line l t, u, h, hu => low_app (t := t) h hu
  | .rep k b t, u, ⟨h1, h2, h3⟩, hu => ⟨h1, h2, low_app h3 hu⟩
  | .whn k b t, u, ⟨h2, h3⟩, hu => ⟨h2, low_app h3 hu⟩
theorem ht_app : ∀ (t u : K68.T), ht (K68.app t u) = max (ht t) (ht u)
  | .nil, u => (Nat.zero_max _).symm
  | .line l t, u => ht_app t u
  | .rep k b t, u => by
    show max (1 + ht b) (ht (K68.app t u)) = max (max (1 + ht b) (ht t)) (ht u)
    rw [ht_app t u, Nat.max_assoc]
  | .whn k b t, u => by
    show max (1 + ht b) (ht (K68.app t u)) = max (max (1 + ht b) (ht t)) (ht u)
    rw [ht_app t u, Nat.max_assoc]
theorem low_times {b : K68.T} (h : low b) : ∀ k, low (K68.times b k)
  | 0 => trivial
  | k + 1 => low_app h (low_times h k)
theorem ht_times {b : K68.T} : ∀ k, ht (K68.times b k) ≤ ht b
  | 0 => Nat.zero_le _
  | k + 1 => by
    show ht (K68.app b (K68.times b k)) ≤ ht b
    have z := ht_times (b := b) k
    rw [ht_app]
    omega
theorem low_rolled : ∀ t : K68.T, low (K68.rolled t)
  | .nil => trivial
  | .line l t => low_rolled t
  | .rep k b t => low_app (low_times (low_rolled b) k) (low_rolled t)
  | .whn k b t => ⟨low_rolled b, low_rolled t⟩
theorem ht_rolled : ∀ t : K68.T, ht (K68.rolled t) ≤ ht t
  | .nil => Nat.le_refl _
  | .line l t => ht_rolled t
  | .rep k b t => by
    show ht (K68.app (K68.times (K68.rolled b) k) (K68.rolled t)) ≤ max (1 + ht b) (ht t)
    have a := ht_times (b := K68.rolled b) k
    have c := ht_rolled b
    have e := ht_rolled t
    rw [ht_app]
    omega
  | .whn k b t => by
    show max (1 + ht (K68.rolled b)) (ht (K68.rolled t)) ≤ max (1 + ht b) (ht t)
    have c := ht_rolled b
    have e := ht_rolled t
    omega
theorem nl_wf0 : ∀ t : K68.T, K68.wf 0 t → K68.nl t ≤ K68.width t ∧ K68.nl (K68.rolled t) ≤ K68.width t
  | .nil, _ => ⟨Nat.le_refl _, Nat.le_refl _⟩
  | .line l t, h => by
    have z := nl_wf0 t h
    show 1 + K68.nl t ≤ 1 + K68.width t ∧ 1 + K68.nl (K68.rolled t) ≤ 1 + K68.width t
    omega
  | .rep _ _ _, h => h.elim
  | .whn _ _ _, h => h.elim
theorem mul3 {k x c : Nat} (hk : k ≤ 3) (hx : x ≤ c) : k * x ≤ 3 * c := Nat.mul_le_mul hk hx
theorem nl_wf1 : ∀ t : K68.T, K68.wf 1 t → K68.nl t ≤ 6 * K68.width t ∧ K68.nl (K68.rolled t) ≤ 12 * K68.width t
  | .nil, _ => ⟨Nat.le_refl _, Nat.le_refl _⟩
  | .line l t, h => by
    have z := nl_wf1 t h
    show 1 + K68.nl t ≤ 6 * (1 + K68.width t) ∧ 1 + K68.nl (K68.rolled t) ≤ 12 * (1 + K68.width t)
    omega
  | .rep k b t, ⟨h1, h2, h3, h4, h5⟩ => by
    have z := nl_wf1 t h5
    have z2 := nl_wf0 b h2
    have z3 := mul3 h1 (show K68.nl (K68.rolled b) ≤ 4 by omega)
    rw [K68.nl_rolled_rep]
    show 2 + K68.nl b + K68.nl t ≤ 6 * (1 + K68.width t) ∧ _ ≤ 12 * (1 + K68.width t)
    omega
  | .whn k b t, ⟨h2, h3, h4, h5⟩ => by
    have z := nl_wf1 t h5
    have z2 := nl_wf0 b h2
    show 2 + K68.nl b + K68.nl t ≤ 6 * (1 + K68.width t) ∧ 2 + K68.nl (K68.rolled b) + K68.nl (K68.rolled t) ≤ 12 * (1 + K68.width t)
    omega
theorem nl_wf2 : ∀ t : K68.T, K68.wf 2 t → K68.nl t ≤ 26 * K68.width t ∧ K68.nl (K68.rolled t) ≤ 150 * K68.width t
  | .nil, _ => ⟨Nat.le_refl _, Nat.le_refl _⟩
  | .line l t, h => by
    have z := nl_wf2 t h
    show 1 + K68.nl t ≤ 26 * (1 + K68.width t) ∧ 1 + K68.nl (K68.rolled t) ≤ 150 * (1 + K68.width t)
    omega
  | .rep k b t, ⟨h1, h2, h3, h4, h5⟩ => by
    have z := nl_wf2 t h5
    have z2 := nl_wf1 b h2
    have z3 := mul3 h1 (show K68.nl (K68.rolled b) ≤ 48 by omega)
    rw [K68.nl_rolled_rep]
    show 2 + K68.nl b + K68.nl t ≤ 26 * (1 + K68.width t) ∧ _ ≤ 150 * (1 + K68.width t)
    omega
  | .whn k b t, ⟨h2, h3, h4, h5⟩ => by
    have z := nl_wf2 t h5
    have z2 := nl_wf1 b h2
    show 2 + K68.nl b + K68.nl t ≤ 26 * (1 + K68.width t) ∧ 2 + K68.nl (K68.rolled b) + K68.nl (K68.rolled t) ≤ 150 * (1 + K68.width t)
    omega
/-- the names drawn: a first part -/
theorem cut3 : ∀ k : Nat, k < 3 → ∃ ms : List K68.Md, cutV [V.str "key", V.str "lan", V.str "pin"] none (some (1 + ((k : Nat) : Int))) = (ms.map fun m => V.str (mdS m)) ∧ 0 < ms.length ∧ ms.length ≤ 3
  | 0, _ => ⟨[.key], rfl, by decide, by decide⟩
  | 1, _ => ⟨[.key, .lan], rfl, by decide, by decide⟩
  | 2, _ => ⟨[.key, .lan, .pin], rfl, by decide, by decide⟩
  | n + 3, h => absurd h (by omega)
/-- the last item left off, the last two -/
theorem cut_l1 (l : List V) (x : V) : cutV (l ++ [x]) none (some (-1)) = l := by
  unfold cutV
  rw [HT.sIx_none]
  show (l ++ [x]).take ((if (-1 : Int) < 0 then (-1 + (((l ++ [x]).length : Nat) : Int)).toNat else min (-1 : Int).toNat (l ++ [x]).length) - 0) = l
  have e : (if (-1 : Int) < 0 then (-1 + (((l ++ [x]).length : Nat) : Int)).toNat else min (-1 : Int).toNat (l ++ [x]).length) = l.length := by
    rw [if_pos (by decide), List.length_append]
    show (-1 + ((l.length + 1 : Nat) : Int)).toNat = l.length
    omega
  rw [e, Nat.sub_zero, List.take_left]
theorem cut_l2 (l : List V) (x y : V) : cutV (l ++ [x, y]) none (some (-2)) = l := by
  unfold cutV
  rw [HT.sIx_none]
  show (l ++ [x, y]).take ((if (-2 : Int) < 0 then (-2 + (((l ++ [x, y]).length : Nat) : Int)).toNat else min (-2 : Int).toNat (l ++ [x, y]).length) - 0) = l
  have e : (if (-2 : Int) < 0 then (-2 + (((l ++ [x, y]).length : Nat) : Int)).toNat else min (-2 : Int).toNat (l ++ [x, y]).length) = l.length := by
    rw [if_pos (by decide), List.length_append]
    show (-2 + ((l.length + 2 : Nat) : Int)).toNat = l.length
    omega
  rw [e, Nat.sub_zero, List.take_left]
theorem atI_l2 (l : List V) (x y : V) : atI (l ++ [x, y]) (-2) = some x := by
  have hn : (l ++ [x, y]).length = l.length + 2 := by rw [List.length_append]; rfl
  have e : ixN (l ++ [x, y]).length (-2) = some l.length := by
    rw [hn]
    unfold ixN
    rw [if_neg (by decide)]
    first
    | (rw [if_pos (by omega)]; congr 1; omega)
    | (split <;> first | (congr 1; omega) | omega)
  unfold atI
  rw [e]
  show (l ++ [x, y])[l.length]? = some x
  rw [List.getElem?_append_right (Nat.le_refl _), Nat.sub_self]
  rfl
end K6
set_option Elab.async false
set_option linter.all false
set_option maxRecDepth 100000
set_option maxHeartbeats 4000000
set_option pp.deepTerms false
set_option pp.deepTerms.threshold 6
set_option pp.maxSteps 400
/-! K68Law: the law says True -/
namespace K6
open PySem PySem.Spec PyProof.Rows L2
def outS : K68.OutLn → Str
  | .inn => "in" | .out => "out" | .asked as => numS as
theorem outV1_S (l : K68.OutLn) : outV1 l = .str (outS l) := by cases l <;> rfl
theorem outs_map (out : List K68.OutLn) : out.map outV1 = (out.map outS).map V.str := by
  rw [List.map_map]
  exact List.map_congr_left fun l _ => outV1_S l
/-- two stacks with the same rules, or two lists of the same texts -/
def DL (K : PySem.W.Frag) : Eqv := fun x y H => DIns (ga K "Stack") (StR K) x y H ∨ DList DFlat x y H
theorem mon_DL (K : PySem.W.Frag) : Mon (DL K) := Mon.or (mon_ins fun a b H H' e ⟨rs, h1, h2⟩ => ⟨rs, h1.mono e, h2.mono e⟩) (mon_list mon_flat)
theorem eqG_DL {X : Cx} (T : Tx X.w X.K X.mg) : EqG X 3 (DL X.K) := EqG.or (eqG_R (ok_StEq (P := X.prog) (base := X.base) T) T.m_Stack___eq__) ((eqG_list mon_flat eqG_flat).mono (by decide))
theorem eqV_str (z : Str) : L2.eqV (.str z) (.str z) = true := by
  show (z == z) = true
  exact beq_self_eq_true z
theorem prs_outs (H : Hp) : ∀ zs : List Str, Prs DFlat (zs.map V.str) (zs.map V.str) H
  | [] => Prs.nil
  | z :: zs => Prs.cons ⟨rfl, rfl, eqV_str z⟩ (prs_outs H zs)
/-- what a script's run gave -/
def OutAt (K : PySem.W.Frag) (H : Hp) (p : Addr) (rs : List K68.Ru) (out : List K68.OutLn) : Prop := ∃ s o, H p = some (.tup [.ref s, .ref o]) ∧ StAt K H s rs ∧ H o = some (.lst (out.map outV1))
theorem OutAt.mono {K : PySem.W.Frag} {H H' : Hp} {p : Addr} {rs : List K68.Ru} {out : List K68.OutLn} (h : OutAt K H p rs out) (k : Same H H') : OutAt K H' p rs out := by
  obtain ⟨s, o, h1, h2, h3⟩ := h
  exact ⟨s, o, k _ _ h1, h2.mono k, k _ _ h3⟩
theorem out_list {H : Hp} {o o' : Addr} {out : List K68.OutLn} (h : H o = some (.lst (out.map outV1))) (h' : H o' = some (.lst (out.map outV1))) : DList DFlat (.ref o) (.ref o') H := by
  rw [outs_map] at h h'
  exact ⟨o, o', _, _, rfl, rfl, h, h', prs_outs H _⟩
theorem st_ins {K : PySem.W.Frag} {H : Hp} {s s' : Addr} {rs : List K68.Ru} (h : StAt K H s rs) (h' : StAt K H s' rs) : DIns (ga K "Stack") (StR K) (.ref s) (.ref s') H := by
  obtain ⟨dx, p, q, n, es, ss, e, _⟩ := id h
  obtain ⟨dx', p', q', n', es', ss', e', _⟩ := id h'
  exact ⟨s, s', dx, dx', _, _, rfl, rfl, e, e', rs, h, h'⟩
/-- two such tuples are seen to be equal -/
theorem outs_eq {K : PySem.W.Frag} {H : Hp} {p p' s o s' o' : Addr} {rs : List K68.Ru} {out : List K68.OutLn} (h : H p = some (.tup [.ref s, .ref o])) (h1 : StAt K H s rs) (h2 : H o = some (.lst (out.map outV1))) (h' : H p' = some (.tup [.ref s', .ref o'])) (h1' : StAt K H s' rs) (h2' : H o' = some (.lst (out.map outV1))) :
    DTup K (DL K) (.ref p) (.ref p') H := ⟨p, p', _, _, rfl, rfl, SqT.of h, SqT.of h', Prs.cons (.inl (st_ins h1 h1')) (Prs.cons (.inr (out_list h2 h2')) Prs.nil)⟩
def spLaw (K : PySem.W.Frag) : Sp := fun vs H Q _ => ∃ s, ∃ ns : List Int, vs = [V.ref s] ∧ SqL K H s (ns.map V.int) ∧ ∀ H', Q (.bl true) H'
def offR (r : Addr) (H : Hp) : Hp := fun b => if b = r then none else H b
theorem off_r {r : Addr} {H : Hp} : offR r H r = none := if_pos rfl
theorem off_of {r b : Addr} {H : Hp} {o : HO} (n : b ≠ r) (e : H b = some o) : offR r H b = some o := by
  unfold offR
  rw [if_neg n]
  exact e
theorem off_to {r b : Addr} {H : Hp} {o : HO} (e : offR r H b = some o) : b ≠ r ∧ H b = some o := by
  unfold offR at e
  by_cases c : b = r
  · rw [if_pos c] at e
    cases e
  · rw [if_neg c] at e
    exact ⟨c, e⟩
theorem RowS.up {K : PySem.W.Frag} {G G' H : Hp} {r : Addr} (h : RowS K G H r) (k : Same G G') : RowS K G' H r := by
  obtain ⟨s, ns, a, b, c, h1, h2⟩ := h
  exact ⟨s, ns, a, b, c, h1, SqL.ext h2 k⟩
def LawAt (K : PySem.W.Frag) (s r : Addr) (σ : L2.St) (H' : Hp) : Prop := ∃ y2 y3 y4 y5 y6 y7 y8 y9 G, σ = [some (.ref s), some (.ref r), y2, y3, y4, y5, y6, y7, y8, y9] ∧ Same G H' ∧ G r = none ∧ RowS K G H' r
section
variable {P : Program} {w : World} {K : PySem.W.Frag} {mg : Str → Option Value} {base : Heap}
theorem law_len (K : PySem.W.Frag) : ∀ vs H Q E, spLaw K vs H Q E → vs.length = (["_law_script"] : List Str).length := fun vs H Q E h => by
  obtain ⟨s, ns, rfl, _⟩ := h
  rfl
theorem law_body (T : Tx w K mg) (cdv : Value) (A : Around) (outer : List Env) (s0 : Shared) (H : Hp) (vs : List V) (Q : VK) (E : XK) (hr : Room 17 (A.deeper (envOfC "law" (defScope s_lLaw) s0.heap.objs.size (ga K "law") cdv))) (h : spLaw K vs H Q E) :
    ∃ t, PSs (cxOf CX0 P w K mg base ["_law_script", "_law_row", "_law_turn", "_law_tree_here", "_law_rolled_here", "_law_told", "_law_there", "_law_more", "_law_again", "_law_both"] "law" (defScope s_lLaw) (ga K "law") cdv A outer s0 H E) (defBody s_lLaw) t ∧
      t { nx := fun _ H' => Q .non H', rt := Q } (start ["_law_script", "_law_row", "_law_turn", "_law_tree_here", "_law_rolled_here", "_law_told", "_law_there", "_law_more", "_law_again", "_law_both"] vs) H := by
  obtain ⟨s, ns, rfl, hs, q⟩ := h
  refine ⟨_, pss_cons (ps_set (i := 1) sc_lLaw.nd rfl (.inl rfl) (pe_lst (pa_cons (pv 0) (pa_cons pe_int (pa_cons pe_int (pa_cons pe_int pa_nil))))))
    (pss_cons (ps_for PassesOwn.leaving rfl (pi_range1 (by rfl) T.b_range (pa_cons pe_int pa_nil)) (pg_name (i := 2) sc_lLaw.nd rfl (.inl rfl))
      (pss_cons (ps_set (i := 3) sc_lLaw.nd rfl (.inl rfl) (gd (ok_lTree T 3) hr (by decide) pass0 (pa_cons (pv 1) (pa_cons (pe_slice sl_list (pe_lst (pa_cons pe_str (pa_cons pe_str (pa_cons pe_str pa_nil)))) po_none (po_some (pe_op op_add pe_int (gd (ok_lTaken T) hr (by decide) pass0 (pa_cons (pv 1) (pa_cons pe_int pa_nil)))))) (pa_cons pe_int pa_nil)))))
      (pss_cons (ps_set (i := 4) sc_lLaw.nd rfl (.inl rfl) (gd (ok_lRolled T 3) hr (by decide) pass0 (pa_cons (pv 3) pa_nil)))
      (pss_one (ps_if (PW.pt (pw_and (pt_cmp (pc_lt (pe_callB call_len (by rfl) T.b_len (by decide +kernel) (pa_cons (gd (ok_lLines T 3) hr (by decide) pass0 (pa_cons (pv 3) pa_nil)) pa_nil)) pe_int))
          (pw_and1 (pt_cmp (pc_lt (pe_callB call_len (by rfl) T.b_len (by decide +kernel) (pa_cons (gd (ok_lLines T 3) hr (by decide) pass0 (pa_cons (pv 4) pa_nil)) pa_nil)) pe_int)))))
        (pss_cons (ps_par (i := 5) (j := 6) rfl sc_lLaw.nd rfl rfl (by decide) rfl rfl (pa_cons (gd (ok_lRun T) hr (Nat.le_refl _) pass0 (pa_cons (pv 3) pa_nil)) (pa_cons (gd (ok_lRun T) hr (Nat.le_refl _) pass0 (pa_cons (pv 4) pa_nil)) pa_nil)) (by rfl))
        (pss_cons (ps_if (pt_cmpR op_ne (pe_cmp (pc_isN (pv 5)) rfl) (pe_cmp (pc_isN (pv 6)) rfl) (nomark _)) (pss_one (ps_ret pe_bl)) pss_nil)
        (pss_one (ps_if (pt_cmp (pc_notN (pv 5)))
          (pss_cons (ps_if (pt_cmpR (op_neT (mon_DL K) (eqG_DL T) (hr.mono (by decide))) (pv 5) (pv 6) (nomark _)) (pss_one (ps_ret pe_bl)) pss_nil)
          (pss_cons (ps_set (i := 7) sc_lLaw.nd rfl (.inl rfl) (gd (ok_lRun T) hr (Nat.le_refl _) pass0 (pa_cons (pe_op op_cat (pv 3) (pe_lst (pa_cons (pe_lst (pa_cons pe_str pa_nil)) (pa_cons (pe_lst (pa_cons pe_str pa_nil)) pa_nil)))) pa_nil)))
          (pss_cons (ps_if (PW.pt (pw_or (pt_cmpR (op_neS (ok_StEq (P := P) (base := base) T) T.m_Stack___eq__ T.ne T.iStack.hm (hr.mono (by decide))) (pe_ix ix_tup (pv 7) pe_int (fun _ _ => rfl)) (pe_ix ix_tup (pv 5) pe_int (fun _ _ => rfl)) (nomark _))
              (pw_or (pt_cmpR (op_neL hr.units0) (pe_slice sl_list (pe_ix ix_tup (pv 7) pe_int (fun _ _ => rfl)) po_none (po_some (pe_un un_neg pe_int))) (pe_ix ix_tup (pv 5) pe_int (fun _ _ => rfl)) (nomark _))
              (pw_or1 (pt_cmpR op_notIn_seq (pe_ix ix_list (pe_ix ix_tup (pv 7) pe_int (fun _ _ => rfl)) (pe_un un_neg pe_int) (fun _ _ => rfl)) (pe_tup (pa_cons pe_str (pa_cons pe_str pa_nil))) (by rfl)))))) (pss_one (ps_ret pe_bl)) pss_nil)
          (pss_cons (ps_set (i := 8) sc_lLaw.nd rfl (.inl rfl) (gd (ok_lRun T) hr (Nat.le_refl _) pass0 (pa_cons (pe_op op_cat (pv 3) (pe_lst (pa_cons (pe_tup (pa_cons (pe_lst (pa_cons pe_str (pa_cons pe_str pa_nil))) (pa_cons (pe_lst (pa_cons (pe_lst (pa_cons pe_str (pa_cons pe_str pa_nil))) pa_nil)) pa_nil)))
              (pa_cons (pe_tup (pa_cons (pe_lst (pa_cons pe_str (pa_cons pe_str pa_nil))) (pa_cons (pe_lst (pa_cons (pe_lst (pa_cons pe_str pa_nil)) pa_nil)) pa_nil))) pa_nil)))) pa_nil)))
          (pss_cons (ps_if (pt_cmpR (op_neT (mon_DL K) (eqG_DL T) (hr.mono (by decide))) (pv 8) (pe_tup (pa_cons (pe_ix ix_tup (pv 5) pe_int (fun _ _ => rfl)) (pa_cons (pe_slice sl_list (pe_ix ix_tup (pv 7) pe_int (fun _ _ => rfl)) po_none (po_some (pe_un un_neg pe_int))) pa_nil))) (nomark _)) (pss_one (ps_ret pe_bl)) pss_nil)
          (pss_cons (ps_set (i := 9) sc_lLaw.nd rfl (.inl rfl) (gd (ok_lRun T) hr (Nat.le_refl _) pass0 (pa_cons (pe_op op_cat (pv 3) (pe_lst (pa_cons (pe_tup (pa_cons (pe_lst (pa_cons pe_str (pa_cons pe_str pa_nil))) (pa_cons (pe_lst (pa_cons (pe_lst (pa_cons pe_str pa_nil)) pa_nil)) pa_nil)))
              (pa_cons (pe_tup (pa_cons (pe_lst (pa_cons pe_str (pa_cons pe_str pa_nil))) (pa_cons (pe_lst (pa_cons (pe_lst (pa_cons pe_str pa_nil)) pa_nil)) pa_nil))) pa_nil)))) pa_nil)))
          (pss_one (ps_if (pt_cmpR (op_neT (mon_DL K) (eqG_DL T) (hr.mono (by decide))) (pv 9) (pe_tup (pa_cons (pe_ix ix_tup (pv 5) pe_int (fun _ _ => rfl)) (pa_cons (pe_slice sl_list (pe_ix ix_tup (pv 7) pe_int (fun _ _ => rfl)) po_none (po_some (pe_un un_neg pe_int))) pa_nil))) (nomark _)) (pss_one (ps_ret pe_bl)) pss_nil)))))))) pss_nil)))) pss_nil)))))
    (pss_one (ps_ret pe_bl))), ?_⟩
  refine ⟨_, rfl, (show 4 ≤ sizeLine by decide), fun r hr0 => ?_⟩
  have k0 := same_upd (o := HO.lst [V.ref s, .int 0, .int 0, .int 0]) hr0
  refine ⟨4, rfl, by decide, by decide, ?_⟩
  refine for_range (n := 4) (fun i σ H' => LawAt K s r σ H') ⟨none, none, none, none, none, none, none, none, H, rfl, k0, hr0, s, ns, 0, 0, 0, upd_same, hs⟩ (fun i σ H1 hi hst => ?_) fun σ H1 _ => q H1
  obtain ⟨y2, y3, y4, y5, y6, y7, y8, y9, G, rfl, k1, gr, row1⟩ := hst
  refine ⟨_, rfl, (show 3 ≤ sizeLine by decide), fun l hl => ⟨_, rfl, r, 3, G, rfl, by decide, by decide, fun b o e => same_upd hl b o (k1 b o e), gr, row1.mono (same_upd hl), fun k H2 hk k2 row2 => ?_⟩⟩
  have g2 : Same G H2 := Keep.single k2 (fun b o e => same_upd hl b o (k1 b o e)) gr
  obtain ⟨ms, hms, hm0, hm3⟩ := cut3 k hk
  have nlr : l ∉ [r] := fun z => row1.ne (by rw [← List.mem_singleton.mp z]; exact hl)
  refine ⟨1, (k : Nat), rfl, rfl, _, rfl, l, _, rfl, SqL.of (k2 _ _ upd_same nlr), fun nm hnm => ?_⟩
  rw [hms]
  have s3 := same_upd (o := HO.lst (ms.map fun m => V.str (mdS m))) hnm
  have nmr : nm ≠ r := fun z => row2.ne (by rw [← z]; exact hnm)
  have g3 : Same G (offR r (upd H2 nm (.lst (ms.map fun m => V.str (mdS m))))) := fun b o e => off_of (fun z => by rw [z, gr] at e; cases e) (s3 b o (g2 b o e))
  refine ⟨r, nm, 2, offR r (upd H2 nm (.lst (ms.map fun m => V.str (mdS m)))), ms, rfl, by decide, fun b o e => (off_to e).2, off_r, (row2.mono s3).up g3, SqL.of (off_of nmr upd_same), hm0, hm3, fun t f vs H4 wft w1 w4 k4 row4 hf0 hf4 htr0 => ?_⟩
  have g4 : Same (offR r (upd H2 nm (.lst (ms.map fun m => V.str (mdS m))))) H4 := fun b o e => k4 b o (off_to e).2 fun z => (off_to e).1 (List.mem_singleton.mp z)
  have htr : TrV H4 t vs := TrV.mono (fz_same fun b o (e : hp0 b = some o) _ => by cases e) htr0
  have fin : ∀ (Hn : Hp) (x2 x3 x4 x5 x6 x7 x8 x9 : Option V), Same H4 Hn → LawAt K s r [some (.ref s), some (.ref r), x2, x3, x4, x5, x6, x7, x8, x9] Hn := fun Hn x2 x3 x4 x5 x6 x7 x8 x9 kn =>
    ⟨x2, x3, x4, x5, x6, x7, x8, x9, _, rfl, fun b o e => kn b o (g4 b o e), off_r, row4.mono kn⟩
  clear htr0
  have low1 := low_wf t 2 wft
  have ht1 := ht_wf t 2 wft
  have nls := nl_wf2 t wft
  have ht2 := ht_rolled t
  refine ⟨_, rfl, f, vs, t, H4, rfl, hf4, (fun _ _ e => e), htr, low1, by omega, by omega, fun p2 ys H5 k5 hn5 h5 htr5 => ?_⟩
  have htr2 : TrV H5 (K68.rolled t) ys := TrV.mono (fz_same fun b o e _ => k5 b o e) htr5
  clear htr5
  have len : ∀ u : K68.T, ((linesS u).map V.str).length = K68.nl u := fun u => by rw [List.length_map, linesS_len]
  refine ⟨_, rfl, f, vs, t, rfl, k5 _ _ hf4, TrV.mono k5 htr, low1, by omega, by omega, fun p3 H6 k6 hn6 h6 => ⟨_, _, rfl, .inl ⟨_, SqL.of h6, rfl⟩, _, _, rfl, rfl, _, rfl, ?_⟩⟩
  rw [len]
  have k46 : Same H4 H6 := fun b o e => k6 b o (k5 b o e)
  by_cases c1 : ((K68.nl t : Nat) : Int) < 50
  case neg => exact if_ (decide_eq_false c1) (fin _ _ _ _ _ _ _ _ _ k46)
  refine it (decide_eq_true c1) ⟨_, rfl, p2, ys, K68.rolled t, rfl, k6 _ _ h5, TrV.mono k6 htr2, low_rolled t, by omega, by omega, fun p4 H7 k7 hn7 h7 => ⟨_, _, rfl, .inl ⟨_, SqL.of h7, rfl⟩, _, _, rfl, rfl, _, rfl, ?_⟩⟩
  rw [len]
  have k47 : Same H4 H7 := fun b o e => k7 b o (k46 b o e)
  by_cases c2 : ((K68.nl (K68.rolled t) : Nat) : Int) < 50
  case neg => exact if_ (decide_eq_false c2) (fin _ _ _ _ _ _ _ _ _ k47)
  refine it (decide_eq_true c2) ?_
  have dr : K68.Dr t := ⟨wft, w4, by omega, by omega⟩
  have few := dr.few
  have hreq := dr.rolled_eq
  have few2 : K68.sm (K68.rolled t) ≤ 300 := Nat.le_trans (K68.sm_flat _ (K68.flat_rolled t)) (by omega)
  cases hres : K68.res t with
  | none =>
    rw [hres] at hreq
    refine ⟨_, rfl, f, vs, t, rfl, k47 _ _ hf4, TrV.mono k47 htr, low1, by omega, by omega, by omega, (fun rs out he => by rw [hres] at he; cases he), fun _ H8 k8 => ?_⟩
    refine ⟨_, rfl, p2, ys, K68.rolled t, rfl, k8 _ _ (k7 _ _ (k6 _ _ h5)), TrV.mono k8 (TrV.mono k7 (TrV.mono k6 htr2)), low_rolled t, by omega, by omega, few2, (fun rs out he => by rw [hreq] at he; cases he), fun _ H9 k9 => ?_⟩
    have k49 : Same H4 H9 := fun b o e => k9 b o (k8 b o (k47 b o e))
    refine ⟨_, _, rfl, _, rfl, _, rfl, rfl, _, rfl, if_ rfl ?_⟩
    exact ⟨_, rfl, _, rfl, if_ rfl (fin _ _ _ _ _ _ _ _ _ k49)⟩
  | some v =>
    obtain ⟨rs, out⟩ := v
    rw [hres] at hreq
    refine ⟨_, rfl, f, vs, t, rfl, k47 _ _ hf4, TrV.mono k47 htr, low1, by omega, by omega, by omega, fun rs' out' he pt st ot H8 k8 hpt hst hot => ?_, fun he => by rw [hres] at he; cases he⟩
    rw [hres] at he
    cases he
    refine ⟨_, rfl, p2, ys, K68.rolled t, rfl, k8 _ _ (k7 _ _ (k6 _ _ h5)), TrV.mono k8 (TrV.mono k7 (TrV.mono k6 htr2)), low_rolled t, by omega, by omega, few2, fun rs' out' he pt2 st2 ot2 H9 k9 hpt2 hst2 hot2 => ?_, fun he => by rw [hreq] at he; cases he⟩
    rw [hreq] at he
    cases he
    have k48 : Same H4 H8 := fun b o e => k8 b o (k47 b o e)
    have k49 : Same H4 H9 := fun b o e => k9 b o (k48 b o e)
    obtain ⟨bb, as, r1, r2, r3⟩ := dr.three hres
    refine ⟨_, _, rfl, _, rfl, _, rfl, rfl, _, rfl, if_ rfl ⟨_, rfl, _, rfl, it rfl ?_⟩⟩
    refine ⟨_, rfl, _, rfl, outs_eq (k9 _ _ hpt) (hst.mono k9) (k9 _ _ hot) hpt2 hst2 hot2, fun H10 k10 => ⟨_, rfl, if_ rfl ?_⟩⟩
    have k40 : Same H4 H10 := fun b o e => k10 b o (k49 b o e)
    have k80 : Same H8 H10 := fun b o e => k10 b o (k9 b o e)
    -- the script with two rows more
    refine ⟨_, rfl, (show 1 ≤ sizeLine by decide), fun l1 hl1 => ⟨(show 1 ≤ sizeLine by decide), fun l2 hl2 => ⟨(show 2 ≤ sizeLine by decide), fun l3 hl3 => ?_⟩⟩⟩
    have e1 := same_upd (o := HO.lst [V.str "run"]) hl1
    have e2 := same_upd (o := HO.lst [V.str "rules"]) hl2
    have e3 := same_upd (o := HO.lst [V.ref l1, V.ref l2]) hl3
    have hvs : vs.length ≤ 4 := by rw [TrV.len htr]; exact w4
    refine ⟨f, l3, _, _, rfl, rfl, e3 _ _ (e2 _ _ (e1 _ _ (k40 _ _ hf4))), upd_same, Nat.le_trans (show vs.length + 2 ≤ 6 by omega) (by decide), fun p5 hp5 => ?_⟩
    have e5 := same_upd (o := HO.lst (vs ++ [V.ref l1, V.ref l2])) hp5
    refine ⟨p5, _, K68.app t K68.tMore, rfl, upd_same, TrV.app (u := K68.tMore) ⟨l1, [V.ref l2], rfl, e5 _ _ (e3 _ _ (e2 _ _ upd_same)), l2, [], rfl, e5 _ _ (e3 _ _ upd_same), rfl⟩ (TrV.mono (fun b o e => e5 b o (e3 b o (e2 b o (e1 b o (k40 b o e))))) htr), low_app low1 trivial, ?_, ?_, ?_, fun rs' out' he pm stm otm H15 k15 hpm hstm hotm => ?_, fun he => by rw [r1] at he; cases he⟩
    · rw [ht_app]
      have z : ht K68.tMore = 0 := rfl
      omega
    · rw [K68.nl_app]
      have z : K68.nl K68.tMore = 2 := rfl
      omega
    · rw [K68.sm_app]
      have z : K68.sm K68.tMore = 2 := rfl
      omega
    rw [r1] at he
    cases he
    have k85 : Same H8 H15 := fun b o e => k15 b o (e5 b o (e3 b o (e2 b o (e1 b o (k80 b o e)))))
    have k45 : Same H4 H15 := fun b o e => k85 b o (k48 b o e)
    have hot2 : H15 otm = some (.lst (out.map outV1 ++ [outV1 (K68.outW bb), .str (numS as)])) := by
      rw [hotm, List.map_append]
      rfl
    have hot1 : H15 otm = some (.lst ((out.map outV1 ++ [outV1 (K68.outW bb)]) ++ [.str (numS as)])) := by
      rw [hot2, List.append_assoc]
      rfl
    have prs : ∀ H' : Hp, Prs DFlat (out.map outV1) (out.map outV1) H' := fun H' => by
      rw [outs_map]
      exact prs_outs H' _
    refine ⟨_, rfl, pm, _, 0, _, rfl, rfl, SqT.of hpm, rfl, _, rfl, pt, _, 0, _, rfl, rfl, SqT.of (k85 _ _ hpt), rfl, st_ins hstm (hst.mono k85), fun H16 k16 => ⟨_, rfl, if_ rfl ?_⟩⟩
    refine ⟨_, rfl, pm, _, 1, _, rfl, rfl, SqT.of (k16 _ _ hpm), rfl, 2, rfl, _, rfl, otm, _, rfl, SqL.of (k16 _ _ hot2), fun z hz => ?_⟩
    rw [cut_l2]
    have ez := same_upd (o := HO.lst (out.map outV1)) hz
    refine ⟨_, rfl, pt, _, 1, _, rfl, rfl, SqT.of (ez _ _ (k16 _ _ (k85 _ _ hpt))), rfl, z, ot, _, _, rfl, rfl, upd_same, ez _ _ (k16 _ _ (k85 _ _ hot)), prs _, _, rfl, if_ rfl ?_⟩
    refine ⟨_, rfl, pm, _, 1, _, rfl, rfl, SqT.of (ez _ _ (k16 _ _ hpm)), rfl, 2, rfl, otm, _, _, _, rfl, rfl, SqL.of (ez _ _ (k16 _ _ hot2)), atI_l2 _ _ _, (show 2 ≤ sizeLine by decide), fun z2 hz2 => ?_⟩
    have ez2 := same_upd (o := HO.tup [V.str "in", V.str "out"]) hz2
    refine ⟨z2, _, rfl, .inr (SqT.of upd_same), by cases bb <;> rfl, rfl, _, rfl, if_ (by cases bb <;> rfl) ?_⟩
    have n15 : Same H15 (upd (upd H16 z (.lst (out.map outV1))) z2 (.tup [V.str "in", V.str "out"])) := fun b o e => ez2 b o (ez b o (k16 b o e))
    have n8 : Same H8 (upd (upd H16 z (.lst (out.map outV1))) z2 (.tup [V.str "in", V.str "out"])) := fun b o e => n15 b o (k85 b o e)
    have n4 : Same H4 (upd (upd H16 z (.lst (out.map outV1))) z2 (.tup [V.str "in", V.str "out"])) := fun b o e => n15 b o (k45 b o e)
    refine ⟨_, rfl, (show 2 ≤ sizeLine by decide), fun a1X ha1X => ⟨(show 2 ≤ sizeLine by decide), fun a2X ha2X => ⟨(show 1 ≤ sizeLine by decide), fun a3X ha3X => ⟨(show 2 ≤ sizeLine by decide), fun a4X ha4X => ⟨(show 2 ≤ sizeLine by decide), fun b1X hb1X => ⟨(show 1 ≤ sizeLine by decide), fun b2X hb2X => ⟨(show 1 ≤ sizeLine by decide), fun b3X hb3X => ⟨(show 2 ≤ sizeLine by decide), fun b4X hb4X => ⟨(show 2 ≤ sizeLine by decide), fun cX hcX => ?_⟩⟩⟩⟩⟩⟩⟩⟩⟩
    have ea1X := same_upd (o := HO.lst [V.str "repeat", V.str "0"]) ha1X
    have ea2X := same_upd (o := HO.lst [V.str "drop", V.str "99"]) ha2X
    have ea3X := same_upd (o := HO.lst [V.ref a2X]) ha3X
    have ea4X := same_upd (o := HO.tup [V.ref a1X, V.ref a3X]) ha4X
    have eb1X := same_upd (o := HO.lst [V.str "repeat", V.str "1"]) hb1X
    have eb2X := same_upd (o := HO.lst [V.str "run"]) hb2X
    have eb3X := same_upd (o := HO.lst [V.ref b2X]) hb3X
    have eb4X := same_upd (o := HO.tup [V.ref b1X, V.ref b3X]) hb4X
    have ecX := same_upd (o := HO.lst [V.ref a4X, V.ref b4X]) hcX
    refine ⟨f, cX, _, _, rfl, rfl, ecX _ _ (eb4X _ _ (eb3X _ _ (eb2X _ _ (eb1X _ _ (ea4X _ _ (ea3X _ _ (ea2X _ _ (ea1X _ _ (n4 _ _ hf4))))))))), upd_same, Nat.le_trans (show vs.length + 2 ≤ 6 by omega) (by decide), fun qX hqX => ?_⟩
    have eqX := same_upd (o := HO.lst (vs ++ [V.ref a4X, V.ref b4X])) hqX
    refine ⟨qX, _, K68.app t K68.tAgain, rfl, upd_same, TrV.app (u := K68.tAgain) ⟨a4X, a1X, a3X, [V.ref a2X], [V.ref b4X], rfl, eqX _ _ (ecX _ _ (eb4X _ _ (eb3X _ _ (eb2X _ _ (eb1X _ _ (upd_same)))))), eqX _ _ (ecX _ _ (eb4X _ _ (eb3X _ _ (eb2X _ _ (eb1X _ _ (ea4X _ _ (ea3X _ _ (ea2X _ _ (upd_same))))))))), eqX _ _ (ecX _ _ (eb4X _ _ (eb3X _ _ (eb2X _ _ (eb1X _ _ (ea4X _ _ (upd_same))))))), ⟨a2X, [], rfl, eqX _ _ (ecX _ _ (eb4X _ _ (eb3X _ _ (eb2X _ _ (eb1X _ _ (ea4X _ _ (ea3X _ _ (upd_same)))))))), rfl⟩, b4X, b1X, b3X, [V.ref b2X], [], rfl, eqX _ _ (ecX _ _ (upd_same)), eqX _ _ (ecX _ _ (eb4X _ _ (eb3X _ _ (eb2X _ _ (upd_same))))), eqX _ _ (ecX _ _ (eb4X _ _ (upd_same))), ⟨b2X, [], rfl, eqX _ _ (ecX _ _ (eb4X _ _ (eb3X _ _ (upd_same)))), rfl⟩, rfl⟩ (TrV.mono (fun b o e => eqX b o (ecX _ _ (eb4X _ _ (eb3X _ _ (eb2X _ _ (eb1X _ _ (ea4X _ _ (ea3X _ _ (ea2X _ _ (ea1X _ _ (n4 b o e))))))))))) htr), low_app low1 ⟨by decide, trivial, by decide, trivial, trivial⟩, ?_, ?_, ?_, fun rs' out' he pX sX oX HX kX hpX hsX hoX => ?_, fun he => by rw [r2] at he; cases he⟩
    · rw [ht_app]
      have z : ht K68.tAgain = 1 := rfl
      omega
    · rw [K68.nl_app]
      have z : K68.nl K68.tAgain = 6 := rfl
      omega
    · rw [K68.sm_app]
      have z : K68.sm K68.tAgain = 4 := rfl
      omega
    rw [r2] at he
    cases he
    have kkX : Same (upd (upd H16 z (.lst (out.map outV1))) z2 (.tup [V.str "in", V.str "out"])) HX := fun b o e => kX b o (eqX b o (ecX _ _ (eb4X _ _ (eb3X _ _ (eb2X _ _ (eb1X _ _ (ea4X _ _ (ea3X _ _ (ea2X _ _ (ea1X _ _ (e)))))))))))
    have k8X : Same H8 HX := fun b o e => kkX b o (n8 b o e)
    have k15X : Same H15 HX := fun b o e => kkX b o (n15 b o e)
    have k4X : Same H4 HX := fun b o e => kkX b o (n4 b o e)
    refine ⟨_, rfl, _, rfl, pt, _, 0, _, rfl, rfl, SqT.of (k8X _ _ hpt), rfl, _, rfl, pm, _, 1, _, rfl, rfl, SqT.of (k15X _ _ hpm), rfl, 1, rfl, _, rfl, otm, _, rfl, SqL.of (k15X _ _ hot1), fun zX hzX => ?_⟩
    rw [cut_l1]
    have ezX := same_upd (o := HO.lst (out.map outV1 ++ [outV1 (K68.outW bb)])) hzX
    refine ⟨(show 2 ≤ sizeLine by decide), fun yX hyX => ?_⟩
    have eyX := same_upd (o := HO.tup [V.ref st, V.ref zX]) hyX
    refine ⟨outs_eq (eyX _ _ (ezX _ _ hpX)) (hsX.mono fun b o e => eyX b o (ezX b o e)) (eyX _ _ (ezX _ _ hoX)) upd_same (hst.mono fun b o e => eyX b o (ezX b o (k8X b o e))) (eyX _ _ (by rw [upd_same, List.map_append]; rfl)), fun GX mX => ⟨_, rfl, if_ rfl ?_⟩⟩
    have n4X : Same H4 GX := fun b o e => mX b o (eyX b o (ezX b o (k4X b o e)))
    have n8X : Same H8 GX := fun b o e => mX b o (eyX b o (ezX b o (k8X b o e)))
    have n15X : Same H15 GX := fun b o e => mX b o (eyX b o (ezX b o (k15X b o e)))
    refine ⟨_, rfl, (show 2 ≤ sizeLine by decide), fun a1Y ha1Y => ⟨(show 1 ≤ sizeLine by decide), fun a2Y ha2Y => ⟨(show 1 ≤ sizeLine by decide), fun a3Y ha3Y => ⟨(show 2 ≤ sizeLine by decide), fun a4Y ha4Y => ⟨(show 2 ≤ sizeLine by decide), fun b1Y hb1Y => ⟨(show 1 ≤ sizeLine by decide), fun b2Y hb2Y => ⟨(show 1 ≤ sizeLine by decide), fun b3Y hb3Y => ⟨(show 2 ≤ sizeLine by decide), fun b4Y hb4Y => ⟨(show 2 ≤ sizeLine by decide), fun cY hcY => ?_⟩⟩⟩⟩⟩⟩⟩⟩⟩
    have ea1Y := same_upd (o := HO.lst [V.str "when", V.str "in"]) ha1Y
    have ea2Y := same_upd (o := HO.lst [V.str "run"]) ha2Y
    have ea3Y := same_upd (o := HO.lst [V.ref a2Y]) ha3Y
    have ea4Y := same_upd (o := HO.tup [V.ref a1Y, V.ref a3Y]) ha4Y
    have eb1Y := same_upd (o := HO.lst [V.str "when", V.str "out"]) hb1Y
    have eb2Y := same_upd (o := HO.lst [V.str "run"]) hb2Y
    have eb3Y := same_upd (o := HO.lst [V.ref b2Y]) hb3Y
    have eb4Y := same_upd (o := HO.tup [V.ref b1Y, V.ref b3Y]) hb4Y
    have ecY := same_upd (o := HO.lst [V.ref a4Y, V.ref b4Y]) hcY
    refine ⟨f, cY, _, _, rfl, rfl, ecY _ _ (eb4Y _ _ (eb3Y _ _ (eb2Y _ _ (eb1Y _ _ (ea4Y _ _ (ea3Y _ _ (ea2Y _ _ (ea1Y _ _ (n4X _ _ hf4))))))))), upd_same, Nat.le_trans (show vs.length + 2 ≤ 6 by omega) (by decide), fun qY hqY => ?_⟩
    have eqY := same_upd (o := HO.lst (vs ++ [V.ref a4Y, V.ref b4Y])) hqY
    refine ⟨qY, _, K68.app t K68.tBoth, rfl, upd_same, TrV.app (u := K68.tBoth) ⟨a4Y, a1Y, a3Y, [V.ref a2Y], [V.ref b4Y], rfl, eqY _ _ (ecY _ _ (eb4Y _ _ (eb3Y _ _ (eb2Y _ _ (eb1Y _ _ (upd_same)))))), eqY _ _ (ecY _ _ (eb4Y _ _ (eb3Y _ _ (eb2Y _ _ (eb1Y _ _ (ea4Y _ _ (ea3Y _ _ (ea2Y _ _ (upd_same))))))))), eqY _ _ (ecY _ _ (eb4Y _ _ (eb3Y _ _ (eb2Y _ _ (eb1Y _ _ (ea4Y _ _ (upd_same))))))), ⟨a2Y, [], rfl, eqY _ _ (ecY _ _ (eb4Y _ _ (eb3Y _ _ (eb2Y _ _ (eb1Y _ _ (ea4Y _ _ (ea3Y _ _ (upd_same)))))))), rfl⟩, b4Y, b1Y, b3Y, [V.ref b2Y], [], rfl, eqY _ _ (ecY _ _ (upd_same)), eqY _ _ (ecY _ _ (eb4Y _ _ (eb3Y _ _ (eb2Y _ _ (upd_same))))), eqY _ _ (ecY _ _ (eb4Y _ _ (upd_same))), ⟨b2Y, [], rfl, eqY _ _ (ecY _ _ (eb4Y _ _ (eb3Y _ _ (upd_same)))), rfl⟩, rfl⟩ (TrV.mono (fun b o e => eqY b o (ecY _ _ (eb4Y _ _ (eb3Y _ _ (eb2Y _ _ (eb1Y _ _ (ea4Y _ _ (ea3Y _ _ (ea2Y _ _ (ea1Y _ _ (n4X b o e))))))))))) htr), low_app low1 ⟨trivial, trivial, trivial⟩, ?_, ?_, ?_, fun rs' out' he pY sY oY HY kY hpY hsY hoY => ?_, fun he => by rw [r3] at he; cases he⟩
    · rw [ht_app]
      have z : ht K68.tBoth = 1 := rfl
      omega
    · rw [K68.nl_app]
      have z : K68.nl K68.tBoth = 6 := rfl
      omega
    · rw [K68.sm_app]
      have z : K68.sm K68.tBoth = 4 := rfl
      omega
    rw [r3] at he
    cases he
    have kkY : Same GX HY := fun b o e => kY b o (eqY b o (ecY _ _ (eb4Y _ _ (eb3Y _ _ (eb2Y _ _ (eb1Y _ _ (ea4Y _ _ (ea3Y _ _ (ea2Y _ _ (ea1Y _ _ (e)))))))))))
    have k8Y : Same H8 HY := fun b o e => kkY b o (n8X b o e)
    have k15Y : Same H15 HY := fun b o e => kkY b o (n15X b o e)
    have k4Y : Same H4 HY := fun b o e => kkY b o (n4X b o e)
    refine ⟨_, rfl, _, rfl, pt, _, 0, _, rfl, rfl, SqT.of (k8Y _ _ hpt), rfl, _, rfl, pm, _, 1, _, rfl, rfl, SqT.of (k15Y _ _ hpm), rfl, 1, rfl, _, rfl, otm, _, rfl, SqL.of (k15Y _ _ hot1), fun zY hzY => ?_⟩
    rw [cut_l1]
    have ezY := same_upd (o := HO.lst (out.map outV1 ++ [outV1 (K68.outW bb)])) hzY
    refine ⟨(show 2 ≤ sizeLine by decide), fun yY hyY => ?_⟩
    have eyY := same_upd (o := HO.tup [V.ref st, V.ref zY]) hyY
    refine ⟨outs_eq (eyY _ _ (ezY _ _ hpY)) (hsY.mono fun b o e => eyY b o (ezY b o e)) (eyY _ _ (ezY _ _ hoY)) upd_same (hst.mono fun b o e => eyY b o (ezY b o (k8Y b o e))) (eyY _ _ (by rw [upd_same, List.map_append]; rfl)), fun GY mY => ⟨_, rfl, if_ rfl ?_⟩⟩
    have n4Y : Same H4 GY := fun b o e => mY b o (eyY b o (ezY b o (k4Y b o e)))
    have n8Y : Same H8 GY := fun b o e => mY b o (eyY b o (ezY b o (k8Y b o e)))
    have n15Y : Same H15 GY := fun b o e => mY b o (eyY b o (ezY b o (k15Y b o e)))
    exact fin _ _ _ _ _ _ _ _ _ n4Y
end
end K6
set_option Elab.async false
set_option linter.all false
set_option maxRecDepth 100000
set_option maxHeartbeats 0
namespace K6
open PySem PySem.Spec PyProof.Rows L2
def names0 : List Str := (["_wall", "StackError", "InvalidRule", "InvalidStack", "InvalidPlace", "ScriptError", "ExecutionFailed", "TooLong", "YES", "NO", "SKIP", "GONE", "RESULTS", "OK", "BAD", "DIE", "DONE", "IGNORE", "RESET", "ACTIONS", "MOST_JUMP", "KINDS", "LETTERS", "MOST_LETTERS", "is_number", "is_word", "is_action", "table_of", "Rule", "MOST_ENTRIES", "MOST_RULES", "MOST_MODULES", "MOST_DEPTH_stacks", "Stack", "steps_of", "firsts_of"] : List String).map Str.ofString
def names1 : List Str := (["IN", "OUT", "NONE", "GOOD", "Run", "marked", "JUMPS", "read_action", "read_control", "DIGITS", "MOST_DIGITS", "MOST_ROWS", "MOST_DEPTH_scripts", "MOST_STEPS", "ADD", "DROP", "SWAP", "TELL", "RUN", "RULES", "REPEAT", "WHEN", "END", "BLOCKS", "is_index", "is_control", "is_result", "is_outcome", "FORMS", "Row", "is_row", "read_script", "Machine", "run_script", "_law_taken", "_law_line"] : List String).map Str.ofString
def names2 : List Str := (["_law_tree", "_law_lines", "_law_rolled", "_law_run"] : List String).map Str.ofString
def names : List Str := names0 ++ names1 ++ names2
abbrev R : PySem.W.OpenRow := PySem.W.OpenLaw.row PySem.Challenge.rw_loginstacks_k68_whole_scripts_rolled_out
abbrev hk : PySem.W.Hook := hookF
def ob (s : PySem.W.SharedT) : AlK := obK (HandSHeadRun.getT s)
theorem ob_eq (s : PySem.W.SharedT) : ob s = hk.obs s.abs := obK_eq (HandSHeadRun.getT_eq s)
theorem run_f (w : World) : HandSHeadRun.RunEq R (PySem.W.view R.prog [83]) hk ob 6000 names (w.withFollow "special-get-raises" false) := by
  intro os
  kernel_rfl
theorem run_t (w : World) : HandSHeadRun.RunEq R (PySem.W.view R.prog [83]) hk ob 6000 names (w.withFollow "special-get-raises" true) := by
  intro os
  kernel_rfl
theorem run (w : World) : HandSHeadRun.RunEq R (PySem.W.view R.prog [83]) hk ob 6000 names w :=
  PySem.W.byRow2 (P := fun w => HandSHeadRun.RunEq R (PySem.W.view R.prog [83]) hk ob 6000 names w) "special-get-raises" run_f run_t w
end K6
set_option Elab.async false
set_option linter.all false
set_option maxRecDepth 100000
set_option maxHeartbeats 0
/-! K68End: the head's facts and the law together -/
namespace K6
open PySem PySem.Spec PyProof.Rows L2
theorem facts_end {P : Program} {w : World} {K : PySem.W.Frag} {h : Heap} {mg : Str → Option Value} {fa : Addr} (X : K.In h) (G : h.Ns mainGlobals mg) (hfa : mg ("law" : Str) = some (.ref fa)) (c : SaysF w K) :
    ∃ fd : FuncData, (∀ (s : Shared) (v : Value), BindsTo s fd ⟨[v], []⟩ [("_law_script", v)]) ∧ ∀ base : Heap, K.In base → base.Ns mainGlobals mg → FnOk P w K mg base CX0 18 fa fd ["_law_script"] (spLaw K) := by
  have T : Tx w K mg := ⟨c, h, X, G⟩
  obtain ⟨fd, F⟩ := T.d_lLaw
  have e := hfa.symm.trans T.f_lLaw
  cases e
  have b := FunD.bindsA (ps := ["_law_script"]) F bi_lLaw
  exact ⟨fd, fun s v => b s [v] rfl, fun base _ _ => F.ok sc_lLaw (law_len K) (law_body T)⟩
end K6
open PySem PySem.W PySem.Calls PyProof.Rows
theorem PySem.Challenge.cw_loginstacks_k68_whole_scripts_rolled_out_holds : PySem.Challenge.rw_loginstacks_k68_whole_scripts_rolled_out.Holds := by
  w_on; o_law
  refine HandSHeadRun.head_any (r := OpenLaw.row PySem.Challenge.rw_loginstacks_k68_whole_scripts_rolled_out) (q := view (OpenLaw.row PySem.Challenge.rw_loginstacks_k68_whole_scripts_rolled_out).prog [83]) (H := K6.hk) (ob := K6.ob) (M := 6000) (loose := K6.names) (d := HandSHeadRun.topDef (OpenLaw.row PySem.Challenge.rw_loginstacks_k68_whole_scripts_rolled_out).prog 83) (kwd := []) K6.ob_eq
    (by kernel_rfl) (fun s => by kernel_rfl) K6.run (by kernel_rfl) (by kernel_rfl) (by kernel_rfl) (by rfl) (by first | assumption | decide +kernel) (by decide +kernel) ⟨rfl, rfl, rfl, rfl, rfl, by decide +kernel⟩ ?hw ?hc
  case hw => w_witness2
  case hc =>
    refine L2.walk_ofE (l := PySem.Challenge.rw_loginstacks_k68_whole_scripts_rolled_out) (n := 63) (k := 18) (x := "_law_script") (CX := L2.CX0) rfl (by decide) (by kernel_rfl) ⟨rfl, by decide, by decide⟩ ?F (fun _ _ _ _ z => z)
    intro w mg fa h Y G hmg0
    obtain ⟨K, KX, c⟩ := Y
    have hmg : mg ("law" : PySem.Str) = some (.ref fa) := by
      have e : (HandSHeadRun.topDef (OpenLaw.row PySem.Challenge.rw_loginstacks_k68_whole_scripts_rolled_out).prog 83).name = ("law" : PySem.Str) := by kernel_rfl
      rw [← e]
      exact hmg0
    obtain ⟨fd, hb, hF⟩ := K6.facts_end (P := (PySem.Challenge.rw_loginstacks_k68_whole_scripts_rolled_out).prog) (w := w) KX G hmg c
    exact ⟨K, fd, K6.spLaw K, KX, hb, fun H a ns hl _ hS => ⟨a, ns, rfl, hS, fun _ => rfl⟩, hF⟩
