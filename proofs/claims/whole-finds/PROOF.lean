import PyProof.Rows.All
import Wide.All
import OpenK.AllK
import Wide.FinOn
import HandS.ForMost
import HandS.TupAny
import HandS.Style
import HandS.More
import HandS.Strs
import HandS.Head2
import HandS.HeadEnd
import HandS.HeadHook3
import KE.GoesMore
import KE.SortCalls
import KE.SortKeyHeap
import KE.SortData
import KE.KDictKeyed
import KE.KeyNested
import HandS.SortOrd
import HandS.ForDict
import HandS.SortKw
import HandS.ExcValue
import HandS.ExcOwn
import PySem.Challenge.RW_everyturn_k46_whole_finds
set_option Elab.async false
set_option linter.all false
set_option maxRecDepth 100000
-- part EvA
set_option maxHeartbeats 400000
set_option linter.all false
/-! The mirror: programs of threads as plain Lean data, one step of one thread. -/
namespace Ev

inductive Thg | m | x | w | q | y | n
  deriving DecidableEq
inductive Wd | range | owner | check
  deriving DecidableEq
inductive Md | run | wait | woken | over
  deriving DecidableEq
/-- the expressions that are drawn: n, a, a + 1, a < 2 -/
inductive Tr | num (n : Int) | ra | inc | less
  deriving DecidableEq
inductive Rg | a | b
  deriving DecidableEq
inductive Vr | x | y
  deriving DecidableEq
inductive Lk | m | n
  deriving DecidableEq
def Vr.g : Vr → Thg | .x => .x | .y => .y
def Lk.g : Lk → Thg | .m => .m | .n => .n
inductive In
  | lett (t : Tr) | get (r : Rg) (v : Vr) | put (v : Vr) (t : Tr) | add (v : Vr) (t : Tr) | lock (l : Lk) | unlock (l : Lk)
  | wait | notify | notifyall | send (t : Tr) | take | check (t : Tr) | go (n : Nat) (t : Tr) | beg | fin
  deriving DecidableEq
abbrev Prog := List (List In)

structure Thr where
  pc : Nat
  a : Int
  b : Int
  md : Md
  wd : Option Wd
  deriving DecidableEq
def Thr.d : Thr := ⟨0, 0, 0, .over, none⟩
structure Sh where
  x : Int
  y : Int
  m : Option Nat
  n : Option Nat
  q : List Int
  w : List Nat
  deriving DecidableEq
structure MS where
  sh : Sh
  ts : List Thr
  deriving DecidableEq
structure Stp where
  th : Nat
  pc : Nat
  to : List (Thg × Bool)
  wd : Option Wd
  deriving DecidableEq

def MS.at (s : MS) (t : Nat) : Thr := s.ts.getD t Thr.d
def ins (p : Prog) (t pc : Nat) : In := (p.getD t []).getD pc .beg
def ev (t : Tr) (a : Int) : Option Int := match t with
  | .num n => some n
  | .ra => some a
  | .inc => if -99 ≤ a + 1 ∧ a + 1 ≤ 99 then some (a + 1) else none
  | .less => some (if a < 2 then 1 else 0)
def In.tree : In → Option Tr
  | .lett t => some t | .put _ t => some t | .add _ t => some t | .send t => some t | .check t => some t | .go _ t => some t
  | _ => none
def In.thing : In → Option Thg
  | .get _ v => some v.g | .put v _ => some v.g | .add v _ => some v.g | .lock l => some l.g | .unlock l => some l.g
  | .wait => some .w | .notify => some .w | .notifyall => some .w | .send _ => some .q | .take => some .q
  | _ => none
def bad (i : In) (a : Int) : Bool := match i.tree with
  | some t => (ev t a).isNone
  | none => false
def val (i : In) (a : Int) : Int := match i.tree with
  | some t => (ev t a).getD 0
  | none => 0
def Sh.var (s : Sh) : Vr → Int | .x => s.x | .y => s.y
def Sh.setVar (s : Sh) (v : Vr) (z : Int) : Sh := match v with | .x => { s with x := z } | .y => { s with y := z }
def Sh.own (s : Sh) : Lk → Option Nat | .m => s.m | .n => s.n
def Sh.setOwn (s : Sh) (l : Lk) (o : Option Nat) : Sh := match l with | .m => { s with m := o } | .n => { s with n := o }
def Thr.setReg (t : Thr) (r : Rg) (z : Int) : Thr := match r with | .a => { t with a := z } | .b => { t with b := z }

/-- on what the thread (its own part th) is blocked -/
def need (i : In) (th : Thr) (sh : Sh) : Option Thg := match th.md with
  | .over => none
  | .wait => i.thing
  | .woken => if sh.m.isSome then some .m else none
  | .run => if bad i th.a then none else match i with
    | .lock l => if (sh.own l).isSome then some l.g else none
    | .send _ => if sh.q.length = 1 then some .q else none
    | .take => if sh.q.length = 0 then some .q else none
    | _ => none
def enl (i : In) (th : Thr) (sh : Sh) : Bool := decide (th.md ≠ .over) && (need i th sh).isNone

/-- the thread goes on at k (len: the number of its instructions) -/
def goTo (len : Nat) (th : Thr) (k : Nat) : Thr := { th with pc := k, md := if k = len then .over else .run, wd := none }
def failed (th : Thr) (w : Wd) : Thr := { th with md := .over, wd := some w }
structure Out where
  th : Thr
  sh : Sh
  wk : List Nat
  wd : Option Wd
/-- what the step of an enabled thread t does: its own part, the shared part, the threads that it wakes (n: how many there are), its word -/
def act (n len t : Nat) (i : In) (th : Thr) (sh : Sh) : Out :=
  if bad i th.a then ⟨failed th .range, sh, [], some .range⟩ else
  match i with
  | .lett e => ⟨goTo len { th with a := val (.lett e) th.a } (th.pc + 1), sh, [], none⟩
  | .get r v => ⟨goTo len (th.setReg r (sh.var v)) (th.pc + 1), sh, [], none⟩
  | .put v e => ⟨goTo len th (th.pc + 1), sh.setVar v (val (.put v e) th.a), [], none⟩
  | .add v e => if sh.var v + val (.add v e) th.a > 99 ∨ sh.var v + val (.add v e) th.a < -99 then ⟨failed th .range, sh, [], some .range⟩
      else ⟨goTo len th (th.pc + 1), sh.setVar v (sh.var v + val (.add v e) th.a), [], none⟩
  | .lock l => ⟨goTo len th (th.pc + 1), sh.setOwn l (some t), [], none⟩
  | .unlock l => if sh.own l = some t then ⟨goTo len th (th.pc + 1), sh.setOwn l none, [], none⟩ else ⟨failed th .owner, sh, [], some .owner⟩
  | .wait => if th.md = .woken then ⟨goTo len th (th.pc + 1), { sh with m := some t }, [], none⟩
      else if sh.m = some t then ⟨{ th with md := .wait }, { sh with m := none, w := sh.w ++ [t] }, [], none⟩
      else ⟨failed th .owner, sh, [], some .owner⟩
  | .notify => ⟨goTo len th (th.pc + 1), { sh with w := sh.w.drop 1 }, sh.w.take 1, none⟩
  | .notifyall => ⟨goTo len th (th.pc + 1), { sh with w := sh.w.drop n }, sh.w.take n, none⟩
  | .send e => ⟨goTo len th (th.pc + 1), { sh with q := sh.q ++ [val (.send e) th.a] }, [], none⟩
  | .take => ⟨goTo len { th with a := sh.q.headD 0 } (th.pc + 1), { sh with q := sh.q.drop 1 }, [], none⟩
  | .check e => if val (.check e) th.a = 0 then ⟨failed th .check, sh, [], some .check⟩ else ⟨goTo len th (th.pc + 1), sh, [], none⟩
  | .go k e => if val (.go k e) th.a ≠ 0 then ⟨goTo len th k, sh, [], none⟩ else ⟨goTo len th (th.pc + 1), sh, [], none⟩
  | .beg => ⟨goTo len th (th.pc + 1), sh, [], none⟩
  | .fin => ⟨goTo len th (th.pc + 1), sh, [], none⟩
def touch (i : In) (th : Thr) : List (Thg × Bool) := if bad i th.a then [] else
  match i with
  | .get _ v => [(v.g, false)]
  | .wait => [(.m, true), (.w, decide (th.md = .run))]
  | i => match i.thing with
    | some z => [(z, true)]
    | none => []

def wakeL (l : List Thr) (o : List Nat) : List Thr := l.mapIdx fun k th => if k ∈ o then { th with md := .woken } else th
def at' (p : Prog) (s : MS) (t : Nat) : In := ins p t (s.at t).pc
def en (p : Prog) (s : MS) (t : Nat) : Bool := enl (at' p s t) (s.at t) s.sh
def enabled (p : Prog) (s : MS) : List Nat := (List.range p.length).filter (en p s)
def blockedL (p : Prog) (s : MS) : List (Nat × Thg) := (List.range p.length).filterMap fun t => (need (at' p s t) (s.at t) s.sh).map fun z => (t, z)
def isDead (p : Prog) (s : MS) : Bool := (enabled p s).isEmpty && !(blockedL p s).isEmpty
def out (p : Prog) (s : MS) (t : Nat) : Out := act p.length (p.getD t []).length t (at' p s t) (s.at t) s.sh
def nxt (p : Prog) (s : MS) (t : Nat) : MS := ⟨(out p s t).sh, wakeL (s.ts.set t (out p s t).th) (out p s t).wk⟩
def stp (p : Prog) (s : MS) (t : Nat) : Stp := ⟨t, (s.at t).pc, touch (at' p s t) (s.at t), (out p s t).wd⟩

def share (one other : List (Thg × Bool)) : Bool := one.any fun f => other.any fun g => decide (f.1 = g.1) && (f.2 || g.2)
def dep (e f : Stp) : Bool := decide (e.th = f.th) || share e.to f.to
def soonerR : List Stp → Stp → Bool
  | [], _ => false
  | k :: r, e => if dep k e then false else if e.th < k.th then true else soonerR r e
def canSooner (R : List Stp) (e : Stp) : Bool := soonerR R.reverse e

def first (p : Prog) : MS := ⟨⟨0, 1, none, none, [], []⟩, p.map fun _ => ⟨0, 0, 0, .run, none⟩⟩

/-! ### cells of the shared part -/
inductive Cl | i (z : Int) | o (z : Option Nat) | l (z : List Int) | w (z : List Nat)
  deriving DecidableEq
def Sh.cell (s : Sh) : Thg → Cl
  | .x => .i s.x | .y => .i s.y | .m => .o s.m | .n => .o s.n | .q => .l s.q | .w => .w s.w
theorem Sh.ext_cell {s s' : Sh} (h : ∀ z, s.cell z = s'.cell z) : s = s' := by
  have h1 := h .x
  have h2 := h .y
  have h3 := h .m
  have h4 := h .n
  have h5 := h .q
  have h6 := h .w
  cases s
  cases s'
  simp only [Sh.cell, Cl.i.injEq, Cl.o.injEq, Cl.l.injEq, Cl.w.injEq] at h1 h2 h3 h4 h5 h6
  subst h1 h2 h3 h4 h5 h6
  rfl
/-- the two agree on everything that is touched -/
def Agree (τ : List (Thg × Bool)) (s s' : Sh) : Prop := ∀ z, (∃ k, (z, k) ∈ τ) → s.cell z = s'.cell z

theorem cell_var {s s' : Sh} {v : Vr} (h : s.cell v.g = s'.cell v.g) : s.var v = s'.var v := by
  cases v <;> simpa [Sh.cell, Vr.g, Sh.var] using h
theorem cell_own {s s' : Sh} {l : Lk} (h : s.cell l.g = s'.cell l.g) : s.own l = s'.own l := by
  cases l <;> simpa [Sh.cell, Lk.g, Sh.own] using h
theorem cell_q {s s' : Sh} (h : s.cell .q = s'.cell .q) : s.q = s'.q := by simpa [Sh.cell] using h
theorem cell_w {s s' : Sh} (h : s.cell .w = s'.cell .w) : s.w = s'.w := by simpa [Sh.cell] using h
theorem cell_m {s s' : Sh} (h : s.cell .m = s'.cell .m) : s.m = s'.m := by simpa [Sh.cell] using h
theorem setVar_cell {s : Sh} {v : Vr} {z : Int} {c : Thg} (h : c ≠ v.g) : (s.setVar v z).cell c = s.cell c := by
  cases v <;> cases c <;> first | rfl | exact absurd rfl h
theorem setOwn_cell {s : Sh} {l : Lk} {z : Option Nat} {c : Thg} (h : c ≠ l.g) : (s.setOwn l z).cell c = s.cell c := by
  cases l <;> cases c <;> first | rfl | exact absurd rfl h
theorem setVar_cell_same {s : Sh} {v : Vr} {z : Int} : (s.setVar v z).cell v.g = .i z := by
  cases v <;> rfl
theorem setOwn_cell_same {s : Sh} {l : Lk} {z : Option Nat} : (s.setOwn l z).cell l.g = .o z := by
  cases l <;> rfl

/-- W: what is not written stays -/
theorem act_frame (n len t : Nat) (i : In) (th : Thr) (sh : Sh) (z : Thg) (hz : (z, true) ∉ touch i th) (hm : th.md = .run ∨ i = .wait ∧ th.md = .woken) : (act n len t i th sh).sh.cell z = sh.cell z := by
  unfold act
  unfold touch at hz
  by_cases hb : bad i th.a = true
  · simp [hb]
  · have hb : bad i th.a = false := by simpa using hb
    simp only [hb, Bool.false_eq_true, if_false] at hz ⊢
    cases i with
    | lett e => rfl
    | get r v => rfl
    | put v e => simp [In.thing] at hz; exact setVar_cell (by exact hz)
    | add v e => simp [In.thing] at hz; dsimp only; split <;> first | rfl | exact setVar_cell (by exact hz)
    | lock l => simp [In.thing] at hz; exact setOwn_cell (by exact hz)
    | unlock l => simp [In.thing] at hz; dsimp only; split <;> first | rfl | exact setOwn_cell (by exact hz)
    | wait =>
      rcases hm with hm | ⟨_, hm⟩
      · simp [hm] at hz
        obtain ⟨h1, h2⟩ := hz
        simp only [hm]
        simp
        split
        · cases z <;> first | rfl | exact absurd rfl h1 | exact absurd rfl h2
        · rfl
      · simp [hm] at hz
        simp only [hm]
        simp
        cases z <;> first | rfl | exact absurd rfl hz
    | notify => simp [In.thing] at hz; cases z <;> first | rfl | exact absurd rfl hz
    | notifyall => simp [In.thing] at hz; cases z <;> first | rfl | exact absurd rfl hz
    | send e => simp [In.thing] at hz; cases z <;> first | rfl | exact absurd rfl hz
    | take => simp [In.thing] at hz; cases z <;> first | rfl | exact absurd rfl hz
    | check e => dsimp only; split <;> rfl
    | go k e => dsimp only; split <;> rfl
    | beg => rfl
    | fin => rfl

/-- R: what is touched alone decides -/
theorem need_agree (i : In) (th : Thr) {sh sh' : Sh} (h : Agree (touch i th) sh sh') (hm : th.md = .run ∨ i = .wait) : need i th sh = need i th sh' := by
  unfold need
  cases hmd : th.md with
  | over => rfl
  | wait => rfl
  | woken =>
    rcases hm with hm | rfl
    · rw [hmd] at hm; cases hm
    · have : sh.m = sh'.m := cell_m (h .m ⟨true, by simp [touch, bad, In.tree]⟩)
      dsimp only
      rw [this]
  | run =>
    dsimp only
    by_cases hb : bad i th.a = true
    · simp [hb]
    · simp only [hb, if_false]
      cases i with
      | lock l =>
        have : sh.own l = sh'.own l := cell_own (h l.g ⟨true, by simp [touch, hb, In.thing]⟩)
        dsimp only; rw [this]
      | send e =>
        have : sh.q = sh'.q := cell_q (h .q ⟨true, by simp [touch, hb, In.thing]⟩)
        dsimp only; rw [this]
      | take =>
        have : sh.q = sh'.q := cell_q (h .q ⟨true, by simp [touch, hb, In.thing]⟩)
        dsimp only; rw [this]
      | _ => rfl

structure SameOut (τ : List (Thg × Bool)) (o o' : Out) : Prop where
  th : o.th = o'.th
  wk : o.wk = o'.wk
  wd : o.wd = o'.wd
  ag : Agree τ o.sh o'.sh

theorem act_agree (n len t : Nat) (i : In) (th : Thr) {sh sh' : Sh} (h : Agree (touch i th) sh sh') (hm : th.md = .run ∨ i = .wait ∧ th.md = .woken) :
    SameOut (touch i th) (act n len t i th sh) (act n len t i th sh') := by
  by_cases hb : bad i th.a = true
  · have e : ∀ s, act n len t i th s = ⟨failed th .range, s, [], some .range⟩ := fun s => by unfold act; simp [hb]
    rw [e, e]
    exact ⟨rfl, rfl, rfl, h⟩
  · have hq : ∀ z k, (z, k) ∈ touch i th → sh.cell z = sh'.cell z := fun z k hk => h z ⟨k, hk⟩
    cases i with
    | lett e => simp only [act, hb]; exact ⟨rfl, rfl, rfl, h⟩
    | get r v =>
      have e : sh.var v = sh'.var v := cell_var (hq v.g false (by simp [touch, bad, In.tree]))
      simp only [act, hb, e]
      exact ⟨rfl, rfl, rfl, h⟩
    | put v e =>
      simp only [act, hb]
      refine ⟨rfl, rfl, rfl, fun z ⟨k, hk⟩ => ?_⟩
      simp [touch, hb, In.thing] at hk
      obtain ⟨rfl, rfl⟩ := hk
      simp [setVar_cell_same]
    | add v e =>
      have e1 : sh.var v = sh'.var v := cell_var (hq v.g true (by simp [touch, hb, In.thing]))
      simp only [act, hb, e1]
      by_cases hc : sh'.var v + val (.add v e) th.a > 99 ∨ sh'.var v + val (.add v e) th.a < -99
      · simp only [hc, if_true]
        exact ⟨rfl, rfl, rfl, h⟩
      · simp only [hc, if_false]
        refine ⟨rfl, rfl, rfl, fun z ⟨k, hk⟩ => ?_⟩
        simp [touch, hb, In.thing] at hk
        obtain ⟨rfl, rfl⟩ := hk
        simp [setVar_cell_same]
    | lock l =>
      simp only [act, hb]
      refine ⟨rfl, rfl, rfl, fun z ⟨k, hk⟩ => ?_⟩
      simp [touch, hb, In.thing] at hk
      obtain ⟨rfl, rfl⟩ := hk
      simp [setOwn_cell_same]
    | unlock l =>
      have e1 : sh.own l = sh'.own l := cell_own (hq l.g true (by simp [touch, hb, In.thing]))
      simp only [act, hb, e1]
      by_cases hc : sh'.own l = some t
      · simp only [hc, if_true]
        refine ⟨rfl, rfl, rfl, fun z ⟨k, hk⟩ => ?_⟩
        simp [touch, hb, In.thing] at hk
        obtain ⟨rfl, rfl⟩ := hk
        simp [setOwn_cell_same]
      · simp only [hc, if_false]
        exact ⟨rfl, rfl, rfl, h⟩
    | wait =>
      have e1 : sh.m = sh'.m := cell_m (hq .m true (by simp [touch, bad, In.tree]))
      have e2 : sh.w = sh'.w := cell_w (hq .w (decide (th.md = .run)) (by simp [touch, bad, In.tree]))
      simp only [act, hb, e1]
      by_cases hw : th.md = .woken
      · simp only [hw, if_true]
        refine ⟨rfl, rfl, rfl, fun z ⟨k, hk⟩ => ?_⟩
        simp [touch, bad, In.tree] at hk
        rcases hk with ⟨rfl, _⟩ | ⟨rfl, _⟩
        · rfl
        · simp [Sh.cell, e2]
      · simp only [hw, if_false]
        by_cases hc : sh'.m = some t
        · simp only [hc, if_true]
          refine ⟨rfl, rfl, rfl, fun z ⟨k, hk⟩ => ?_⟩
          simp [touch, bad, In.tree] at hk
          rcases hk with ⟨rfl, _⟩ | ⟨rfl, _⟩
          · rfl
          · simp [Sh.cell, e2]
        · simp only [hc, if_false]
          exact ⟨rfl, rfl, rfl, h⟩
    | notify =>
      have e2 : sh.w = sh'.w := cell_w (hq .w true (by simp [touch, hb, In.thing]))
      simp only [act, hb, e2]
      refine ⟨rfl, rfl, rfl, fun z ⟨k, hk⟩ => ?_⟩
      simp [touch, hb, In.thing] at hk
      obtain ⟨rfl, rfl⟩ := hk
      rfl
    | notifyall =>
      have e2 : sh.w = sh'.w := cell_w (hq .w true (by simp [touch, hb, In.thing]))
      simp only [act, hb, e2]
      refine ⟨rfl, rfl, rfl, fun z ⟨k, hk⟩ => ?_⟩
      simp [touch, hb, In.thing] at hk
      obtain ⟨rfl, rfl⟩ := hk
      rfl
    | send e =>
      have e2 : sh.q = sh'.q := cell_q (hq .q true (by simp [touch, hb, In.thing]))
      simp only [act, hb, e2]
      refine ⟨rfl, rfl, rfl, fun z ⟨k, hk⟩ => ?_⟩
      simp [touch, hb, In.thing] at hk
      obtain ⟨rfl, rfl⟩ := hk
      rfl
    | take =>
      have e2 : sh.q = sh'.q := cell_q (hq .q true (by simp [touch, hb, In.thing]))
      simp only [act, hb, e2]
      refine ⟨rfl, rfl, rfl, fun z ⟨k, hk⟩ => ?_⟩
      simp [touch, hb, In.thing] at hk
      obtain ⟨rfl, rfl⟩ := hk
      rfl
    | check e =>
      simp only [act, hb]
      by_cases hc : val (.check e) th.a = 0
      · simp only [hc, if_true]; exact ⟨rfl, rfl, rfl, h⟩
      · simp only [hc, if_false]; exact ⟨rfl, rfl, rfl, h⟩
    | go k e =>
      have e : ∀ s, act n len t (.go k e) th s = ⟨if val (.go k e) th.a ≠ 0 then goTo len th k else goTo len th (th.pc + 1), s, [], none⟩ := fun s => by
        unfold act; rw [if_neg hb]; dsimp only; split <;> rfl
      rw [e, e]
      exact ⟨rfl, rfl, rfl, h⟩
    | beg => simp only [act, hb]; exact ⟨rfl, rfl, rfl, h⟩
    | fin => simp only [act, hb]; exact ⟨rfl, rfl, rfl, h⟩

/-- K: who wakes writes w, and wakes only who waits -/
theorem act_wk (n len t : Nat) (i : In) (th : Thr) (sh : Sh) : (act n len t i th sh).wk = [] ∨ ((Thg.w, true) ∈ touch i th ∧ ∀ k ∈ (act n len t i th sh).wk, k ∈ sh.w) := by
  by_cases hb : bad i th.a = true
  · left; unfold act; simp [hb]
  · cases i with
    | notify => right; simp only [act, touch, hb]; exact ⟨by simp [In.thing], fun k hk => List.mem_of_mem_take hk⟩
    | notifyall => right; simp only [act, touch, hb]; exact ⟨by simp [In.thing], fun k hk => List.mem_of_mem_take hk⟩
    | add v e => left; unfold act; rw [if_neg hb]; dsimp only; split <;> rfl
    | unlock l => left; unfold act; rw [if_neg hb]; dsimp only; split <;> rfl
    | wait => left; unfold act; rw [if_neg hb]; dsimp only; split <;> first | rfl | (split <;> rfl)
    | check e => left; unfold act; rw [if_neg hb]; dsimp only; split <;> rfl
    | go k e => left; unfold act; rw [if_neg hb]; dsimp only; split <;> rfl
    | _ => left; unfold act; rw [if_neg hb]
end Ev

-- part EvB
set_option maxHeartbeats 400000
set_option linter.all false
/-! What always holds; two independent neighbours exchange. -/
namespace Ev

theorem wake_len (l : List Thr) (o : List Nat) : (wakeL l o).length = l.length := by simp [wakeL]
theorem wake_get (l : List Thr) (o : List Nat) (k : Nat) : (wakeL l o)[k]? = (l[k]?).map fun th => if k ∈ o then { th with md := .woken } else th := by
  simp [wakeL]
theorem wake_nil (l : List Thr) : wakeL l [] = l := by
  apply List.ext_getElem?
  intro k
  rw [wake_get]
  cases l[k]? <;> simp
theorem at_get {s : MS} {t : Nat} (h : t < s.ts.length) : s.ts[t]? = some (s.at t) := by
  simp [MS.at, List.getD, h]
theorem at_over {s : MS} {t : Nat} (h : s.ts.length ≤ t) : s.at t = Thr.d := by
  simp [MS.at, List.getD, List.getElem?_eq_none h]
/-- a thread's part behind a step -/
theorem nxt_at (p : Prog) (s : MS) (t k : Nat) (ht : t < s.ts.length) :
    (nxt p s t).at k = if k < s.ts.length ∧ k ∈ (out p s t).wk then { (if k = t then (out p s t).th else s.at k) with md := .woken } else (if k = t then (out p s t).th else s.at k) := by
  by_cases hk : k < s.ts.length
  · have e : (nxt p s t).ts[k]? = some (if k ∈ (out p s t).wk then { (if k = t then (out p s t).th else s.at k) with md := .woken } else (if k = t then (out p s t).th else s.at k)) := by
      show (wakeL (s.ts.set t (out p s t).th) (out p s t).wk)[k]? = _
      rw [wake_get, List.getElem?_set]
      by_cases hkt : t = k
      · subst hkt
        simp [ht]
      · have hkt' : ¬ k = t := fun q => hkt q.symm
        simp [hkt, hkt', at_get hk]
    show ((nxt p s t).ts.getD k Thr.d) = _
    rw [List.getD, e]
    simp [hk]
  · have hk' : s.ts.length ≤ k := Nat.le_of_not_lt hk
    have hkt : ¬ k = t := by omega
    have e : (nxt p s t).ts.length = s.ts.length := by
      show (wakeL (s.ts.set t (out p s t).th) (out p s t).wk).length = _
      rw [wake_len, List.length_set]
    rw [at_over (s := nxt p s t) (by rw [e]; exact hk'), at_over hk']
    simp [hk, hkt]
theorem nxt_len (p : Prog) (s : MS) (t : Nat) : (nxt p s t).ts.length = s.ts.length := by
  show (wakeL (s.ts.set t (out p s t).th) (out p s t).wk).length = _
  rw [wake_len, List.length_set]

def Vok (z : Int) : Prop := -99 ≤ z ∧ z ≤ 99
def TrOk : Tr → Prop
  | .num n => Vok n
  | _ => True
/-- what holds of a program -/
structure POk (p : Prog) : Prop where
  ne : ∀ t, t < p.length → (p.getD t []).length ≠ 0
  go : ∀ t pc k e, ins p t pc = .go k e → pc < (p.getD t []).length → pc < k ∧ k ≤ (p.getD t []).length
  tr : ∀ t pc e, (ins p t pc).tree = some e → TrOk e
structure WF (p : Prog) (s : MS) : Prop where
  len : s.ts.length = p.length
  pc : ∀ t, t < p.length → (s.at t).md ≠ .over → (s.at t).pc < (p.getD t []).length
  wt : ∀ t, (s.at t).md = .wait ∨ (s.at t).md = .woken → at' p s t = .wait
  inw : ∀ t ∈ s.sh.w, (s.at t).md = .wait
  nd : s.sh.w.Nodup
  vx : Vok s.sh.x
  vy : Vok s.sh.y
  vq : ∀ z ∈ s.sh.q, Vok z
  va : ∀ t, Vok (s.at t).a
  vb : ∀ t, Vok (s.at t).b
  ql : s.sh.q.length ≤ 1

theorem en_iff {p : Prog} {s : MS} {t : Nat} : en p s t = true ↔ (s.at t).md ≠ .over ∧ need (at' p s t) (s.at t) s.sh = none := by
  unfold en enl
  simp [Bool.and_eq_true]
theorem en_lt {p : Prog} {s : MS} {t : Nat} (h : en p s t = true) : t < s.ts.length := by
  rcases Nat.lt_or_ge t s.ts.length with q | q
  · exact q
  · have := (en_iff.mp h).1
    rw [at_over q] at this
    exact absurd rfl this
theorem en_mode {p : Prog} {s : MS} {t : Nat} (w : WF p s) (h : en p s t = true) : (s.at t).md = .run ∨ at' p s t = .wait ∧ (s.at t).md = .woken := by
  obtain ⟨h1, h2⟩ := en_iff.mp h
  cases e : (s.at t).md with
  | run => exact .inl rfl
  | over => exact absurd e h1
  | woken => exact .inr ⟨w.wt t (.inr e), rfl⟩
  | wait =>
    have := w.wt t (.inl e)
    rw [this] at h2
    simp [need, e, In.thing] at h2
theorem en_mode' {p : Prog} {s : MS} {t : Nat} (w : WF p s) (h : en p s t = true) : (s.at t).md = .run ∨ at' p s t = .wait := (en_mode w h).imp id And.left
theorem en_notw {p : Prog} {s : MS} {t : Nat} (w : WF p s) (h : en p s t = true) : t ∉ s.sh.w := fun q => by
  have := w.inw t q
  rcases en_mode w h with e | ⟨_, e⟩ <;> rw [this] at e <;> cases e

theorem vok_val {i : In} {a : Int} (ht : ∀ e, i.tree = some e → TrOk e) (ha : Vok a) : Vok (val i a) := by
  unfold val
  cases h : i.tree with
  | none => exact (show Vok 0 from ⟨by decide, by decide⟩)
  | some t =>
    have ht' := ht t h
    cases t with
    | num n => exact ht'
    | ra => exact ha
    | inc =>
      simp only [ev]
      split
      · rename_i q; exact q
      · exact ⟨by decide, by decide⟩
    | less =>
      simp only [ev, Option.getD_some]
      split <;> exact ⟨by decide, by decide⟩

theorem goTo_md (len : Nat) (th : Thr) (k : Nat) : (goTo len th k).md = .run ∧ k ≠ len ∨ (goTo len th k).md = .over := by
  unfold goTo
  by_cases h : k = len
  · right; simp [h]
  · left; simp [h]

/-- what an own part is behind the step -/
structure ThOk (len : Nat) (i : In) (o : Out) (th : Thr) (t : Nat) (sh : Sh) : Prop where
  pc : o.th.md ≠ .over → o.th.pc < len
  wt : o.th.md = .wait ∨ o.th.md = .woken → i = .wait ∧ o.th.pc = th.pc ∧ o.th.md = .wait
  va : Vok o.th.a
  vb : Vok o.th.b
  vx : Vok o.sh.x
  vy : Vok o.sh.y
  vq : ∀ z ∈ o.sh.q, Vok z
  ql : o.sh.q.length ≤ 1
  w : o.sh.w = sh.w.filter (fun k => decide (k ∉ o.wk)) ∨ (o.sh.w = sh.w ++ [t] ∧ o.wk = [] ∧ o.th.md = .wait)

theorem vok_setReg {th : Thr} {r : Rg} {z : Int} (ha : Vok th.a) (hb : Vok th.b) (hz : Vok z) : Vok (th.setReg r z).a ∧ Vok (th.setReg r z).b := by
  cases r <;> exact ⟨by assumption, by assumption⟩
theorem setReg_pc (th : Thr) (r : Rg) (z : Int) : (th.setReg r z).pc = th.pc := by cases r <;> rfl
theorem vok_var {s : Sh} (hx : Vok s.x) (hy : Vok s.y) (v : Vr) : Vok (s.var v) := by cases v <;> assumption
theorem goTo_go {len : Nat} {th : Thr} {k : Nat} (hk : k ≤ len) : ((goTo len th k).md ≠ .over → (goTo len th k).pc < len) ∧ ¬ ((goTo len th k).md = .wait ∨ (goTo len th k).md = .woken) := by
  unfold goTo
  by_cases h : k = len
  · subst h; simp
  · simp only [h, if_false]
    exact ⟨fun _ => by show k < len; omega, by simp⟩
theorem drop_filter : ∀ (l : List Nat) (k : Nat), l.Nodup → l.drop k = l.filter fun z => decide (z ∉ l.take k)
  | [], k, _ => by simp
  | a :: r, 0, _ => by
    rw [List.filter_eq_self.mpr (by intro z _; simp)]
    rfl
  | a :: r, k + 1, h => by
    obtain ⟨h1, h2⟩ := List.nodup_cons.mp h
    rw [List.drop_succ_cons, List.take_succ_cons, List.filter_cons]
    simp only [List.mem_cons, true_or, not_true_eq_false, decide_false, Bool.false_eq_true, if_false]
    rw [drop_filter r k h2]
    apply List.filter_congr
    intro z hz
    have : z ≠ a := fun q => h1 (q ▸ hz)
    simp [this]

theorem act_ok {n len t : Nat} {i : In} {th : Thr} {sh : Sh} (hpc : th.pc < len) (hm : th.md = .run ∨ i = .wait ∧ th.md = .woken) (hn : need i th sh = none) (hgo : ∀ k e, i = .go k e → k ≤ len) (htr : ∀ e, i.tree = some e → TrOk e)
    (ha : Vok th.a) (hb : Vok th.b) (hx : Vok sh.x) (hy : Vok sh.y) (hq : ∀ z ∈ sh.q, Vok z) (hql : sh.q.length ≤ 1) (hnd : sh.w.Nodup) : ThOk len i (act n len t i th sh) th t sh := by
  have w0 : sh.w = sh.w.filter (fun k => decide (k ∉ ([] : List Nat))) := by
    rw [List.filter_eq_self.mpr]
    intro a _
    simp
  have hv : Vok (val i th.a) := vok_val htr ha
  have hg := @goTo_go len th (th.pc + 1) hpc
  by_cases hbad : bad i th.a = true
  · have e : act n len t i th sh = ⟨failed th .range, sh, [], some .range⟩ := by unfold act; simp [hbad]
    rw [e]
    exact ⟨by simp [failed], by simp [failed], ha, hb, hx, hy, hq, hql, .inl w0⟩
  · unfold act
    rw [if_neg hbad]
    cases i with
    | lett e =>
      have hg := @goTo_go len { th with a := val (.lett e) th.a } (th.pc + 1) hpc
      exact ⟨hg.1, fun q => absurd q hg.2, hv, hb, hx, hy, hq, hql, .inl w0⟩
    | get r v =>
      have hr := vok_setReg (r := r) ha hb (vok_var hx hy v)
      have hg := @goTo_go len (th.setReg r (sh.var v)) (th.pc + 1) hpc
      exact ⟨hg.1, fun q => absurd q hg.2, hr.1, hr.2, hx, hy, hq, hql, .inl w0⟩
    | put v e =>
      refine ⟨hg.1, fun q => absurd q hg.2, ha, hb, ?_, ?_, ?_, ?_, ?_⟩ <;> cases v <;> first | exact hv | exact hx | exact hy | exact hq | exact hql | exact .inl w0
    | add v e =>
      dsimp only
      split
      · exact ⟨by simp [failed], by simp [failed], ha, hb, hx, hy, hq, hql, .inl w0⟩
      · rename_i hc
        have hz : Vok (sh.var v + val (.add v e) th.a) := by
          unfold Vok
          omega
        refine ⟨hg.1, fun q => absurd q hg.2, ha, hb, ?_, ?_, ?_, ?_, ?_⟩ <;> cases v <;> first | exact hz | exact hx | exact hy | exact hq | exact hql | exact .inl w0
    | lock l =>
      refine ⟨hg.1, fun q => absurd q hg.2, ha, hb, ?_, ?_, ?_, ?_, ?_⟩ <;> cases l <;> first | exact hx | exact hy | exact hq | exact hql | exact .inl w0
    | unlock l =>
      dsimp only
      split
      · refine ⟨hg.1, fun q => absurd q hg.2, ha, hb, ?_, ?_, ?_, ?_, ?_⟩ <;> cases l <;> first | exact hx | exact hy | exact hq | exact hql | exact .inl w0
      · exact ⟨by simp [failed], by simp [failed], ha, hb, hx, hy, hq, hql, .inl w0⟩
    | wait =>
      dsimp only
      split
      · exact ⟨hg.1, fun q => absurd q hg.2, ha, hb, hx, hy, hq, hql, .inl w0⟩
      · split
        · exact ⟨fun _ => hpc, fun _ => ⟨rfl, rfl, rfl⟩, ha, hb, hx, hy, hq, hql, .inr ⟨rfl, rfl, rfl⟩⟩
        · exact ⟨by simp [failed], by simp [failed], ha, hb, hx, hy, hq, hql, .inl w0⟩
    | notify => exact ⟨hg.1, fun q => absurd q hg.2, ha, hb, hx, hy, hq, hql, .inl (drop_filter _ _ hnd)⟩
    | notifyall => exact ⟨hg.1, fun q => absurd q hg.2, ha, hb, hx, hy, hq, hql, .inl (drop_filter _ _ hnd)⟩
    | send e =>
      refine ⟨hg.1, fun q => absurd q hg.2, ha, hb, hx, hy, fun z hz => ?_, ?_, .inl w0⟩
      · rcases List.mem_append.mp hz with h | h
        · exact hq z h
        · rw [List.mem_singleton.mp h]; exact hv
      · have hr : th.md = .run := by
          rcases hm with q | ⟨q, _⟩
          · exact q
          · cases q
        have hb' : bad (.send e) th.a = false := by simpa using hbad
        simp [need, hr, hb'] at hn
        show (sh.q ++ [_]).length ≤ 1
        rw [List.length_append, List.length_singleton]
        omega
    | take =>
      have hg := @goTo_go len { th with a := sh.q.headD 0 } (th.pc + 1) hpc
      refine ⟨hg.1, fun q => absurd q hg.2, ?_, hb, hx, hy, fun z hz => hq z (List.mem_of_mem_drop hz), ?_, .inl w0⟩
      · show Vok (sh.q.headD 0)
        cases h : sh.q with
        | nil => exact ⟨by decide, by decide⟩
        | cons z r => exact hq z (by rw [h]; exact List.mem_cons_self)
      · show (sh.q.drop 1).length ≤ 1
        rw [List.length_drop]
        omega
    | check e =>
      dsimp only
      split
      · exact ⟨by simp [failed], by simp [failed], ha, hb, hx, hy, hq, hql, .inl w0⟩
      · exact ⟨hg.1, fun q => absurd q hg.2, ha, hb, hx, hy, hq, hql, .inl w0⟩
    | go k e =>
      dsimp only
      split
      · have hg := @goTo_go len th k (hgo k e rfl)
        exact ⟨hg.1, fun q => absurd q hg.2, ha, hb, hx, hy, hq, hql, .inl w0⟩
      · exact ⟨hg.1, fun q => absurd q hg.2, ha, hb, hx, hy, hq, hql, .inl w0⟩
    | beg => exact ⟨hg.1, fun q => absurd q hg.2, ha, hb, hx, hy, hq, hql, .inl w0⟩
    | fin => exact ⟨hg.1, fun q => absurd q hg.2, ha, hb, hx, hy, hq, hql, .inl w0⟩

theorem ok_out {p : Prog} {s : MS} {t : Nat} (po : POk p) (w : WF p s) (h : en p s t = true) : ThOk (p.getD t []).length (at' p s t) (out p s t) (s.at t) t s.sh := by
  have ht : t < p.length := w.len ▸ en_lt h
  have h0 := en_iff.mp h
  exact act_ok (w.pc t ht h0.1) (en_mode w h) h0.2 (fun k e q => (po.go t _ k e q (w.pc t ht h0.1)).2) (fun e q => po.tr t _ e q) (w.va t) (w.vb t) w.vx w.vy w.vq w.ql w.nd

theorem wf_nxt {p : Prog} {s : MS} {t : Nat} (po : POk p) (w : WF p s) (h : en p s t = true) : WF p (nxt p s t) := by
  have hl := en_lt h
  have ht : t < p.length := w.len ▸ hl
  have O := ok_out po w h
  have hk := act_wk p.length (p.getD t []).length t (at' p s t) (s.at t) s.sh
  have hkw : ∀ k ∈ (out p s t).wk, k ∈ s.sh.w := fun k q => by
    rcases hk with e | ⟨_, e⟩
    · have e : (out p s t).wk = [] := e
      rw [e] at q; cases q
    · exact e k q
  have tw : t ∉ (out p s t).wk := fun q => en_notw w h (hkw t q)
  have A := fun k => nxt_at p s t k hl
  -- another thread: as it was, or woken
  have At : (nxt p s t).at t = (out p s t).th := by rw [A]; simp [tw]
  have Ao : ∀ k, k ≠ t → (nxt p s t).at k = s.at k ∨ ((nxt p s t).at k = { s.at k with md := .woken } ∧ k ∈ (out p s t).wk) := fun k hne => by
    rw [A]
    simp only [hne, if_false]
    split
    · rename_i q; exact .inr ⟨rfl, q.2⟩
    · exact .inl rfl
  refine ⟨by rw [nxt_len]; exact w.len, fun k hkp hmd => ?_, fun k hmd => ?_, fun k hkw' => ?_, ?_, O.vx, O.vy, O.vq, fun k => ?_, fun k => ?_, O.ql⟩
  · by_cases e : k = t
    · subst e; rw [At] at hmd ⊢; exact O.pc hmd
    · rcases Ao k e with q | ⟨q, q2⟩
      · rw [q] at hmd ⊢; exact w.pc k hkp hmd
      · rw [q]
        exact w.pc k hkp (by rw [w.inw k (hkw k q2)]; decide)
  · by_cases e : k = t
    · subst e
      rw [At] at hmd
      obtain ⟨h1, h2, _⟩ := O.wt hmd
      unfold at' at h1 ⊢
      rw [At, h2]
      exact h1
    · rcases Ao k e with q | ⟨q, q2⟩
      · have := w.wt k (by rw [q] at hmd; exact hmd)
        unfold at' at this ⊢
        rw [q]; exact this
      · have := w.wt k (.inl (w.inw k (hkw k q2)))
        unfold at' at this ⊢
        rw [q]; exact this
  · have hw' : k ∈ (out p s t).sh.w := hkw'
    rcases O.w with e | ⟨e, e0, e1⟩
    · rw [e] at hw'
      obtain ⟨h1, h2⟩ := List.mem_filter.mp hw'
      have h2 : k ∉ (out p s t).wk := by simpa using h2
      have hne : k ≠ t := fun q => en_notw w h (q ▸ h1)
      rcases Ao k hne with q | ⟨q, q2⟩
      · rw [q]; exact w.inw k h1
      · exact absurd q2 h2
    · rw [e] at hw'
      rcases List.mem_append.mp hw' with h1 | h1
      · have hne : k ≠ t := fun q => en_notw w h (q ▸ h1)
        rcases Ao k hne with q | ⟨q, q2⟩
        · rw [q]; exact w.inw k h1
        · rw [e0] at q2; cases q2
      · rw [List.mem_singleton.mp h1, At]; exact e1
  · show (out p s t).sh.w.Nodup
    rcases O.w with e | ⟨e, _, _⟩
    · rw [e]; exact List.Pairwise.filter _ w.nd
    · rw [e]
      refine List.nodup_append.mpr ⟨w.nd, by simp, fun a ha b hb => ?_⟩
      rw [List.mem_singleton.mp hb]
      exact fun q => en_notw w h (q ▸ ha)
  · by_cases e : k = t
    · subst e; rw [At]; exact O.va
    · rcases Ao k e with q | ⟨q, _⟩
      · rw [q]; exact w.va k
      · rw [q]; exact w.va k
  · by_cases e : k = t
    · subst e; rw [At]; exact O.vb
    · rcases Ao k e with q | ⟨q, _⟩
      · rw [q]; exact w.vb k
      · rw [q]; exact w.vb k

theorem first_at {p : Prog} {t : Nat} (h : t < p.length) : (first p).at t = ⟨0, 0, 0, .run, none⟩ := by
  simp [first, MS.at, List.getD, h]
theorem wf_first {p : Prog} (po : POk p) : WF p (first p) := by
  have z0 : Vok 0 := ⟨by decide, by decide⟩
  have cs : ∀ t, (first p).at t = ⟨0, 0, 0, .run, none⟩ ∨ (first p).at t = Thr.d := fun t => by
    rcases Nat.lt_or_ge t p.length with q | q
    · exact .inl (first_at q)
    · exact .inr (at_over (by simpa [first] using q))
  refine ⟨by simp [first], fun t ht hm => ?_, fun t hm => ?_, fun t ht => absurd ht (by simp [first]), by simp [first], z0, (show Vok 1 from ⟨by decide, by decide⟩), fun z hz => absurd hz (by simp [first]), fun t => ?_, fun t => ?_, by simp [first]⟩
  · rw [first_at ht]
    have := po.ne t ht
    show 0 < _
    omega
  · rcases cs t with e | e <;> rw [e] at hm <;> simp [Thr.d] at hm
  · rcases cs t with e | e <;> rw [e] <;> exact z0
  · rcases cs t with e | e <;> rw [e] <;> exact z0

theorem share_false {τ τ' : List (Thg × Bool)} (h : share τ τ' = false) {z : Thg} {k k' : Bool} (h1 : (z, k) ∈ τ) (h2 : (z, k') ∈ τ') : k = false ∧ k' = false := by
  unfold share at h
  rw [List.any_eq_false] at h
  have a := h _ h1
  have a' : (τ'.any fun g => decide ((z, k).1 = g.1) && ((z, k).2 || g.2)) = false := by simpa using a
  rw [List.any_eq_false] at a'
  have b := a' _ h2
  simpa using b
theorem share_comm (τ τ' : List (Thg × Bool)) : share τ τ' = share τ' τ := by
  cases h : share τ' τ with
  | false =>
    unfold share
    rw [List.any_eq_false]
    intro f hf
    rw [Bool.not_eq_true, List.any_eq_false]
    intro g hg
    by_cases e : f.1 = g.1
    · obtain ⟨z, k⟩ := f
      obtain ⟨z', k'⟩ := g
      have e : z = z' := e
      subst e
      obtain ⟨h1, h2⟩ := share_false h hg hf
      simp [h1, h2]
    · simp [e]
  | true =>
    unfold share at h ⊢
    obtain ⟨f, hf, h⟩ := List.any_eq_true.mp h
    obtain ⟨g, hg, h⟩ := List.any_eq_true.mp h
    refine List.any_eq_true.mpr ⟨g, hg, List.any_eq_true.mpr ⟨f, hf, ?_⟩⟩
    rw [Bool.and_eq_true, decide_eq_true_eq] at h ⊢
    exact ⟨h.1.symm, by rw [Bool.or_comm]; exact h.2⟩
theorem dep_comm (e f : Stp) : dep e f = dep f e := by
  unfold dep
  rw [share_comm]
  congr 1
  exact decide_eq_decide.mpr ⟨Eq.symm, Eq.symm⟩

/-- two neighbours that are independent exchange -/
theorem swap {p : Prog} {s : MS} {a b : Nat} (po : POk p) (w : WF p s) (ha : en p s a = true) (hb : en p (nxt p s a) b = true) (hd : dep (stp p s a) (stp p (nxt p s a) b) = false) :
    en p s b = true ∧ stp p s b = stp p (nxt p s a) b ∧ en p (nxt p s b) a = true ∧ stp p (nxt p s b) a = stp p s a ∧ nxt p (nxt p s b) a = nxt p (nxt p s a) b := by
  have w1 : WF p (nxt p s a) := wf_nxt po w ha
  have hla := en_lt ha
  have hlb : b < s.ts.length := nxt_len p s a ▸ en_lt hb
  have hd' : ¬ a = b ∧ share (stp p s a).to (stp p (nxt p s a) b).to = false := by
    unfold dep at hd
    rw [Bool.or_eq_false_iff] at hd
    exact ⟨of_decide_eq_false hd.1, hd.2⟩
  obtain ⟨hne, hsh⟩ := hd'
  have hne' : ¬ b = a := fun q => hne q.symm
  have hka := act_wk p.length (p.getD a []).length a (at' p s a) (s.at a) s.sh
  -- b was not woken by a
  have hbw : b ∉ (out p s a).wk := fun q => by
    rcases hka with e | ⟨e, e2⟩
    · have e : (out p s a).wk = [] := e
      rw [e] at q; cases q
    · have hbat : (nxt p s a).at b = { s.at b with md := .woken } := by rw [nxt_at p s a b hla]; simp [hlb, q, hne']
      have hi := w1.wt b (.inr (by rw [hbat]))
      have ht : (Thg.w, false) ∈ (stp p (nxt p s a) b).to := by
        show (Thg.w, false) ∈ touch (at' p (nxt p s a) b) ((nxt p s a).at b)
        rw [hi, hbat]
        simp [touch, bad, In.tree]
      have := (share_false hsh e ht).1
      cases this
  have hbat : (nxt p s a).at b = s.at b := by rw [nxt_at p s a b hla]; simp [hbw, hne']
  have hib : at' p (nxt p s a) b = at' p s b := by unfold at'; rw [hbat]
  -- what b touches a has not written
  have τ2 : (stp p (nxt p s a) b).to = touch (at' p s b) (s.at b) := by
    show touch (at' p (nxt p s a) b) ((nxt p s a).at b) = _
    rw [hib, hbat]
  have τ1 : (stp p s a).to = touch (at' p s a) (s.at a) := rfl
  rw [τ1, τ2] at hsh
  have hma := en_mode w ha
  have hag : Agree (touch (at' p s b) (s.at b)) (nxt p s a).sh s.sh := fun z ⟨k, hk⟩ => by
    refine act_frame p.length (p.getD a []).length a (at' p s a) (s.at a) s.sh z (fun hz => ?_) hma
    have := (share_false hsh hz hk).1
    cases this
  have hmb1 := en_mode w1 hb
  rw [hib, hbat] at hmb1
  have hbe := en_iff.mp hb
  rw [hib, hbat] at hbe
  have hb0 : en p s b = true := en_iff.mpr ⟨hbe.1, by rw [← need_agree (at' p s b) (s.at b) hag (hmb1.imp id And.left)]; exact hbe.2⟩
  have S2 := act_agree p.length (p.getD b []).length b (at' p s b) (s.at b) hag hmb1
  have ob1 : out p (nxt p s a) b = act p.length (p.getD b []).length b (at' p s b) (s.at b) (nxt p s a).sh := by
    unfold out
    rw [hib, hbat]
  have ob0 : out p s b = act p.length (p.getD b []).length b (at' p s b) (s.at b) s.sh := rfl
  rw [← ob1, ← ob0] at S2
  have est : stp p s b = stp p (nxt p s a) b := by
    unfold stp
    rw [hib, hbat, S2.wd]
  -- a behind b
  have hkb := act_wk p.length (p.getD b []).length b (at' p s b) (s.at b) s.sh
  have haw : a ∉ (out p s b).wk := fun q => by
    rcases hkb with e | ⟨_, e2⟩
    · have e : (out p s b).wk = [] := e
      rw [e] at q; cases q
    · exact en_notw w ha (e2 a q)
  have haat : (nxt p s b).at a = s.at a := by rw [nxt_at p s b a hlb]; simp [haw, hne]
  have hia : at' p (nxt p s b) a = at' p s a := by unfold at'; rw [haat]
  have hmb := en_mode w hb0
  have hag' : Agree (touch (at' p s a) (s.at a)) (nxt p s b).sh s.sh := fun z ⟨k, hk⟩ => by
    refine act_frame p.length (p.getD b []).length b (at' p s b) (s.at b) s.sh z (fun hz => ?_) hmb
    have := (share_false hsh hk hz).2
    cases this
  have hae := en_iff.mp ha
  have ha1 : en p (nxt p s b) a = true := en_iff.mpr ⟨by rw [haat]; exact hae.1, by rw [hia, haat, need_agree (at' p s a) (s.at a) hag' (hma.imp id And.left)]; exact hae.2⟩
  have S1 := act_agree p.length (p.getD a []).length a (at' p s a) (s.at a) hag' hma
  have oa1 : out p (nxt p s b) a = act p.length (p.getD a []).length a (at' p s a) (s.at a) (nxt p s b).sh := by
    unfold out
    rw [hia, haat]
  have oa0 : out p s a = act p.length (p.getD a []).length a (at' p s a) (s.at a) s.sh := rfl
  rw [← oa1, ← oa0] at S1
  have est' : stp p (nxt p s b) a = stp p s a := by
    unfold stp
    rw [hia, haat, S1.wd]
  refine ⟨hb0, est, ha1, est', ?_⟩
  -- the same state
  have one : (out p s a).wk = [] ∨ (out p s b).wk = [] := by
    rcases hka with e | ⟨e, _⟩
    · exact .inl e
    · rcases hkb with e' | ⟨e', _⟩
      · exact .inr e'
      · have := (share_false hsh e e').1
        cases this
  have shs : (out p (nxt p s b) a).sh = (out p (nxt p s a) b).sh := by
    refine Sh.ext_cell fun z => ?_
    have fa0 : (z, true) ∉ touch (at' p s a) (s.at a) → (out p s a).sh.cell z = s.sh.cell z := fun hz => act_frame p.length (p.getD a []).length a _ _ _ z hz hma
    have fb0 : (z, true) ∉ touch (at' p s b) (s.at b) → (out p s b).sh.cell z = s.sh.cell z := fun hz => act_frame p.length (p.getD b []).length b _ _ _ z hz hmb
    have fa1 : (z, true) ∉ touch (at' p s a) (s.at a) → (out p (nxt p s b) a).sh.cell z = (nxt p s b).sh.cell z := fun hz => by
      rw [oa1]; exact act_frame p.length (p.getD a []).length a _ _ _ z hz hma
    have fb1 : (z, true) ∉ touch (at' p s b) (s.at b) → (out p (nxt p s a) b).sh.cell z = (nxt p s a).sh.cell z := fun hz => by
      rw [ob1]; exact act_frame p.length (p.getD b []).length b _ _ _ z hz hmb
    by_cases h1 : (z, true) ∈ touch (at' p s a) (s.at a)
    · have h2 : (z, true) ∉ touch (at' p s b) (s.at b) := fun q => by
        have := (share_false hsh h1 q).1
        cases this
      rw [fb1 h2, S1.ag z ⟨_, h1⟩]
      rfl
    · by_cases h2 : (z, true) ∈ touch (at' p s b) (s.at b)
      · rw [fa1 h1, ← S2.ag z ⟨_, h2⟩] at *
        show (out p s b).sh.cell z = _
        rw [S2.ag z ⟨_, h2⟩]
      · rw [fa1 h1, fb1 h2]
        show (out p s b).sh.cell z = (out p s a).sh.cell z
        rw [fa0 h1, fb0 h2]
  have tss : (nxt p (nxt p s b) a).ts = (nxt p (nxt p s a) b).ts := by
    apply List.ext_getElem?
    intro k
    rcases Nat.lt_or_ge k s.ts.length with hk | hk
    · have e1 : (nxt p (nxt p s b) a).ts[k]? = some ((nxt p (nxt p s b) a).at k) := at_get (by rw [nxt_len, nxt_len]; exact hk)
      have e2 : (nxt p (nxt p s a) b).ts[k]? = some ((nxt p (nxt p s a) b).at k) := at_get (by rw [nxt_len, nxt_len]; exact hk)
      rw [e1, e2, nxt_at p (nxt p s b) a k (by rw [nxt_len]; exact hla), nxt_at p (nxt p s a) b k (by rw [nxt_len]; exact hlb), nxt_at p s b k hlb, nxt_at p s a k hla, nxt_len, nxt_len, S1.th, S1.wk, S2.th, S2.wk]
      congr 1
      by_cases ka : k = a
      · subst ka
        rcases one with z | z <;> simp [hne, haw, z, hk]
      · by_cases kb : k = b
        · subst kb
          rcases one with z | z <;> simp [hne', hbw, z, hk]
        · rcases one with z | z <;> simp [ka, kb, z, hk]
    · rw [List.getElem?_eq_none (by rw [nxt_len, nxt_len]; exact hk), List.getElem?_eq_none (by rw [nxt_len, nxt_len]; exact hk)]
  show MS.mk (out p (nxt p s b) a).sh (nxt p (nxt p s b) a).ts = MS.mk (out p (nxt p s a) b).sh (nxt p (nxt p s a) b).ts
  rw [shs, tss]
end Ev

-- part EvC
set_option maxHeartbeats 400000
set_option linter.all false
/-! Rows of steps, what happens before what, faults; all of it stays when independent neighbours exchange. -/
namespace Ev

def goAll (p : Prog) : MS → List Nat → MS
  | s, [] => s
  | s, t :: r => goAll p (nxt p s t) r
def stepsOf (p : Prog) : MS → List Nat → List Stp
  | _, [] => []
  | s, t :: r => stp p s t :: stepsOf p (nxt p s t) r
def okS (p : Prog) : MS → List Nat → Prop
  | _, [] => True
  | s, t :: r => en p s t = true ∧ okS p (nxt p s t) r
def isNote : In → Bool
  | .notify => true
  | .notifyall => true
  | _ => false
def unh (p : Prog) : MS → List Nat → List (Nat × Nat)
  | _, [] => []
  | s, t :: r => (if (isNote (at' p s t) && s.sh.w.isEmpty) = true then [(t, (s.at t).pc)] else []) ++ unh p (nxt p s t) r

theorem goAll_app (p : Prog) : ∀ (U V : List Nat) (s : MS), goAll p s (U ++ V) = goAll p (goAll p s U) V
  | [], _, _ => rfl
  | t :: U, V, s => goAll_app p U V (nxt p s t)
theorem stepsOf_app (p : Prog) : ∀ (U V : List Nat) (s : MS), stepsOf p s (U ++ V) = stepsOf p s U ++ stepsOf p (goAll p s U) V
  | [], _, _ => rfl
  | t :: U, V, s => congrArg (stp p s t :: ·) (stepsOf_app p U V (nxt p s t))
theorem okS_app (p : Prog) : ∀ (U V : List Nat) (s : MS), okS p s (U ++ V) ↔ okS p s U ∧ okS p (goAll p s U) V
  | [], V, s => by simp [okS, goAll]
  | t :: U, V, s => by
    simp only [List.cons_append, okS, goAll]
    rw [okS_app p U V (nxt p s t), and_assoc]
theorem unh_app (p : Prog) : ∀ (U V : List Nat) (s : MS), unh p s (U ++ V) = unh p s U ++ unh p (goAll p s U) V
  | [], _, _ => rfl
  | t :: U, V, s => by
    simp only [List.cons_append, unh, goAll]
    rw [unh_app p U V (nxt p s t), List.append_assoc]
theorem stepsOf_len (p : Prog) : ∀ (U : List Nat) (s : MS), (stepsOf p s U).length = U.length
  | [], _ => rfl
  | t :: U, s => congrArg (· + 1) (stepsOf_len p U (nxt p s t))
theorem wf_goAll {p : Prog} (po : POk p) : ∀ {U : List Nat} {s : MS}, WF p s → okS p s U → WF p (goAll p s U)
  | [], _, w, _ => w
  | t :: _, s, w, h => wf_goAll (s := nxt p s t) po (wf_nxt po w h.1) h.2
theorem stepsOf_th (p : Prog) : ∀ (U : List Nat) (s : MS), (stepsOf p s U).map (·.th) = U
  | [], _ => rfl
  | t :: U, s => congrArg (t :: ·) (stepsOf_th p U (nxt p s t))

/-! ### what happens before what -/
def Dpd (R : List Stp) (i j : Nat) : Prop := i < j ∧ ∃ e f, R[i]? = some e ∧ R[j]? = some f ∧ dep e f = true
inductive HB (R : List Stp) : Nat → Nat → Prop
  | base {i j : Nat} (h : Dpd R i j) : HB R i j
  | step {i k j : Nat} (h : HB R i k) (d : Dpd R k j) : HB R i j
theorem HB.lt {R : List Stp} {i j : Nat} (h : HB R i j) : i < j := by
  induction h with
  | base h => exact h.1
  | step _ d ih => exact Nat.lt_trans ih d.1
theorem HB.len {R : List Stp} {i j : Nat} (h : HB R i j) : j < R.length := by
  cases h with
  | base h => obtain ⟨_, _, f, _, e, _⟩ := h; exact (List.getElem?_eq_some_iff.mp e).1
  | step _ h => obtain ⟨_, _, f, _, e, _⟩ := h; exact (List.getElem?_eq_some_iff.mp e).1

def Stp.d : Stp := ⟨0, 0, [], none⟩
def row (R : List Stp) (F : List (List Nat)) (j : Nat) : List Nat :=
  (List.range j).filter fun k => (List.range j).any fun i => dep (R.getD i Stp.d) (R.getD j Stp.d) && (decide (k = i) || (F.getD i []).contains k)
def befTo (R : List Stp) : Nat → List (List Nat)
  | 0 => []
  | j + 1 => befTo R j ++ [row R (befTo R j) j]
def bef (R : List Stp) : List (List Nat) := befTo R R.length
theorem befTo_len (R : List Stp) : ∀ n, (befTo R n).length = n
  | 0 => rfl
  | n + 1 => by simp [befTo, befTo_len R n]
theorem befTo_get (R : List Stp) : ∀ (n j : Nat), j < n → (befTo R n).getD j [] = row R (befTo R j) j
  | 0, _, h => absurd h (Nat.not_lt_zero _)
  | n + 1, j, h => by
    show (befTo R n ++ [row R (befTo R n) n]).getD j [] = row R (befTo R j) j
    rcases Nat.lt_or_ge j n with q | q
    · rw [List.getD_eq_getElem?_getD, List.getElem?_append_left (by rw [befTo_len]; exact q), ← List.getD_eq_getElem?_getD]
      exact befTo_get R n j q
    · have e : j = n := by omega
      subst e
      rw [List.getD_eq_getElem?_getD, List.getElem?_append_right (by rw [befTo_len]; exact Nat.le_refl _), befTo_len]
      simp
theorem getD_some {α : Type} {l : List α} {i : Nat} {d e : α} (h : l[i]? = some e) : l.getD i d = e := by
  rw [List.getD_eq_getElem?_getD, h]; rfl
theorem row_iff (R : List Stp) : ∀ (j : Nat), j < R.length → ∀ k, k ∈ row R (befTo R j) j ↔ HB R k j := by
  intro j
  induction j using Nat.strongRecOn with
  | ind j ih =>
    intro hj k
    obtain ⟨f, hf⟩ : ∃ f, R[j]? = some f := ⟨_, List.getElem?_eq_getElem hj⟩
    unfold row
    rw [List.mem_filter, List.mem_range, List.any_eq_true]
    constructor
    · rintro ⟨hk, i, hi, h⟩
      rw [List.mem_range] at hi
      rw [Bool.and_eq_true, Bool.or_eq_true] at h
      obtain ⟨e, he⟩ : ∃ e, R[i]? = some e := ⟨_, List.getElem?_eq_getElem (Nat.lt_trans hi hj)⟩
      have hd : Dpd R i j := ⟨hi, e, f, he, hf, by rw [getD_some he, getD_some hf] at h; exact h.1⟩
      rcases h.2 with q | q
      · rw [of_decide_eq_true q]; exact .base hd
      · rw [List.contains_iff_mem, befTo_get R j i hi] at q
        exact .step ((ih i hi (Nat.lt_trans hi hj) k).mp q) hd
    · intro h
      refine ⟨h.lt, ?_⟩
      cases h with
      | base d =>
        obtain ⟨hlt, e, f', he, hf', hd⟩ := d
        refine ⟨k, List.mem_range.mpr hlt, ?_⟩
        rw [getD_some he, getD_some hf', hd]
        simp
      | step hb d =>
        rename_i i
        obtain ⟨hlt, e, f', he, hf', hd⟩ := d
        refine ⟨i, List.mem_range.mpr hlt, ?_⟩
        rw [getD_some he, getD_some hf', hd]
        have := (ih i hlt (Nat.lt_trans hlt hj) k).mpr hb
        rw [befTo_get R j i hlt]
        simp [this]
theorem bef_iff {R : List Stp} {j k : Nat} (hj : j < R.length) : k ∈ (bef R).getD j [] ↔ HB R k j := by
  unfold bef
  rw [befTo_get R R.length j hj]
  exact row_iff R j hj k

/-! ### two rows that are alike up to the places -/
structure Iso (R R' : List Stp) (π : Nat → Nat) : Prop where
  get : ∀ i, R'[π i]? = R[i]?
  inv : ∀ i, π (π i) = i
  dp : ∀ i j, Dpd R i j → Dpd R' (π i) (π j)
  dp' : ∀ i j, Dpd R' i j → Dpd R (π i) (π j)
theorem Iso.symm {R R' : List Stp} {π : Nat → Nat} (I : Iso R R' π) : Iso R' R π :=
  ⟨fun i => by rw [← I.get (π i), I.inv], I.inv, I.dp', I.dp⟩
theorem Iso.hb {R R' : List Stp} {π : Nat → Nat} (I : Iso R R' π) {i j : Nat} (h : HB R i j) : HB R' (π i) (π j) := by
  induction h with
  | base d => exact .base (I.dp _ _ d)
  | step _ d ih => exact .step ih (I.dp _ _ d)

def sw (n i : Nat) : Nat := if i = n then n + 1 else if i = n + 1 then n else i
theorem sw_inv (n i : Nat) : sw n (sw n i) = i := by
  unfold sw
  by_cases h1 : i = n
  · subst h1; simp
  · by_cases h2 : i = n + 1
    · subst h2; simp
    · simp [h1, h2]
theorem sw_get {U V : List Stp} {e f : Stp} (i : Nat) : (U ++ f :: e :: V)[sw U.length i]? = (U ++ e :: f :: V)[i]? := by
  unfold sw
  by_cases h1 : i = U.length
  · subst h1; simp
  · by_cases h2 : i = U.length + 1
    · subst h2; simp
    · simp only [h1, h2, if_false]
      rcases Nat.lt_or_ge i U.length with q | q
      · rw [List.getElem?_append_left q, List.getElem?_append_left q]
      · rw [List.getElem?_append_right q, List.getElem?_append_right q]
        obtain ⟨k, hk⟩ : ∃ k, i - U.length = k + 2 := ⟨i - U.length - 2, by omega⟩
        rw [hk]
        simp
theorem sw_lt {n i j : Nat} (h : i < j) (hne : ¬ (i = n ∧ j = n + 1)) : sw n i < sw n j := by
  unfold sw
  by_cases h1 : i = n
  · subst h1
    have : ¬ j = i + 1 := fun q => hne ⟨rfl, q⟩
    have h2 : ¬ j = i := by omega
    simp [this, h2]; omega
  · by_cases h2 : i = n + 1
    · subst h2
      have h3 : ¬ j = n := by omega
      have h4 : ¬ j = n + 1 := by omega
      simp [h3, h4]; omega
    · simp only [h1, h2, if_false]
      by_cases h3 : j = n
      · subst h3; simp; omega
      · by_cases h4 : j = n + 1
        · subst h4; simp; omega
        · simp [h3, h4, h]
theorem iso_half {U V : List Stp} {e f : Stp} (hd : dep e f = false) (i j : Nat) (h : Dpd (U ++ e :: f :: V) i j) : Dpd (U ++ f :: e :: V) (sw U.length i) (sw U.length j) := by
  obtain ⟨hlt, x, y, hx, hy, hxy⟩ := h
  refine ⟨sw_lt hlt fun ⟨h1, h2⟩ => ?_, x, y, by rw [sw_get]; exact hx, by rw [sw_get]; exact hy, hxy⟩
  subst h1 h2
  have ex : x = e := by simpa using hx.symm
  have ey : y = f := by simpa using hy.symm
  rw [ex, ey, hd] at hxy
  cases hxy
theorem iso_sw {U V : List Stp} {e f : Stp} (hd : dep e f = false) : Iso (U ++ e :: f :: V) (U ++ f :: e :: V) (sw U.length) :=
  ⟨sw_get, sw_inv _, iso_half hd, iso_half (by rw [dep_comm]; exact hd)⟩
/-- steps of one thread keep their order -/
theorem Iso.same {R R' : List Stp} {π : Nat → Nat} (I : Iso R R' π) {i j : Nat} {e f : Stp} (he : R[i]? = some e) (hf : R[j]? = some f) (hth : e.th = f.th) (h : i < j) : π i < π j :=
  (I.dp i j ⟨h, e, f, he, hf, by simp [dep, hth]⟩).1
theorem Iso.same_le {R R' : List Stp} {π : Nat → Nat} (I : Iso R R' π) {i j : Nat} {e f : Stp} (he : R[i]? = some e) (hf : R[j]? = some f) (hth : e.th = f.th) (h : i ≤ j) : π i ≤ π j := by
  rcases Nat.lt_or_ge i j with q | q
  · exact Nat.le_of_lt (I.same he hf hth q)
  · rw [Nat.le_antisymm h q]; exact Nat.le_refl _

/-! ### faults -/
inductive Ft
  | fail (t pc : Nat) (w : Wd) | dead (l : List (Nat × Thg)) | race (t pc o opc : Nat) (v : Thg) | lost (t pc : Nat) | broken (t pc o opc : Nat)
  deriving DecidableEq
def insOf (p : Prog) (e : Stp) : In := ins p e.th e.pc
def plain (p : Prog) (e : Stp) : Bool := match insOf p e with
  | .get _ _ => true
  | .put _ _ => true
  | _ => false
def clash (p : Prog) (e f : Stp) (v : Thg) : Prop := e.th ≠ f.th ∧ (plain p e = true ∨ plain p f = true) ∧ (v = .x ∨ v = .y) ∧ ∃ k k', (v, k) ∈ e.to ∧ (v, k') ∈ f.to ∧ (k = true ∨ k' = true)
def mkRace (e f : Stp) (v : Thg) : Ft := if f.th < e.th ∨ f.th = e.th ∧ f.pc < e.pc then .race f.th f.pc e.th e.pc v else .race e.th e.pc f.th f.pc v
def RaceAt (p : Prog) (R : List Stp) (F : Ft) : Prop := ∃ i j e f v, R[i]? = some e ∧ R[j]? = some f ∧ HB R i j ∧ (∀ k, HB R k j → ¬ HB R i k) ∧ clash p e f v ∧ F = mkRace e f v
def InBlk (p : Prog) (R : List Stp) (i k : Nat) : Prop := i ≤ k ∧ ∃ e f, R[i]? = some e ∧ R[k]? = some f ∧ f.th = e.th ∧ ∀ m g, i ≤ m → m < k → R[m]? = some g → g.th = e.th → insOf p g ≠ .fin
def BrokenAt (p : Prog) (R : List Stp) (F : Ft) : Prop := ∃ i k b b' e g, R[i]? = some e ∧ insOf p e = .beg ∧ R[k]? = some g ∧ g.th ≠ e.th ∧ InBlk p R i b ∧ InBlk p R i b' ∧ HB R b k ∧ HB R k b' ∧ F = .broken e.th e.pc g.th g.pc
def FailAt (R : List Stp) (F : Ft) : Prop := ∃ e w, e ∈ R ∧ e.wd = some w ∧ F = .fail e.th e.pc w
def DeadAt (p : Prog) (s : MS) (F : Ft) : Prop := isDead p s = true ∧ F = .dead (blockedL p s)
def LostAt (p : Prog) (s : MS) (u : List (Nat × Nat)) (F : Ft) : Prop := enabled p s = [] ∧ s.sh.w ≠ [] ∧ ∃ t pc, (t, pc) ∈ u ∧ F = .lost t pc
/-- the faults of an execution -/
def Told (p : Prog) (S : List Nat) (F : Ft) : Prop :=
  FailAt (stepsOf p (first p) S) F ∨ DeadAt p (goAll p (first p) S) F ∨ RaceAt p (stepsOf p (first p) S) F ∨ LostAt p (goAll p (first p) S) (unh p (first p) S) F ∨ BrokenAt p (stepsOf p (first p) S) F

theorem race_iso {p : Prog} {R R' : List Stp} {π : Nat → Nat} (I : Iso R R' π) {F : Ft} (h : RaceAt p R F) : RaceAt p R' F := by
  obtain ⟨i, j, e, f, v, he, hf, hb, hn, hc, rfl⟩ := h
  refine ⟨π i, π j, e, f, v, by rw [I.get]; exact he, by rw [I.get]; exact hf, I.hb hb, fun k h1 h2 => ?_, hc, rfl⟩
  have h1 := I.symm.hb h1
  have h2 := I.symm.hb h2
  rw [I.inv] at h1 h2
  exact hn _ h1 h2
theorem blk_iso {p : Prog} {R R' : List Stp} {π : Nat → Nat} (I : Iso R R' π) {i k : Nat} (h : InBlk p R i k) : InBlk p R' (π i) (π k) := by
  obtain ⟨hle, e, f, he, hf, hth, hno⟩ := h
  refine ⟨I.same_le he hf hth.symm hle, e, f, by rw [I.get]; exact he, by rw [I.get]; exact hf, hth, fun m g h1 h2 hg hgt => ?_⟩
  have J := I.symm
  have he' : R'[π i]? = some e := by rw [I.get]; exact he
  have hf' : R'[π k]? = some f := by rw [I.get]; exact hf
  have q1 := J.same_le he' hg hgt.symm h1
  have q2 := J.same hg hf' (hgt.trans hth.symm) h2
  rw [I.inv] at q1 q2
  exact hno (π m) g q1 q2 (by rw [← I.get, I.inv]; exact hg) hgt
theorem broken_iso {p : Prog} {R R' : List Stp} {π : Nat → Nat} (I : Iso R R' π) {F : Ft} (h : BrokenAt p R F) : BrokenAt p R' F := by
  obtain ⟨i, k, b, b', e, g, he, hi, hg, hne, h1, h2, h3, h4, rfl⟩ := h
  exact ⟨π i, π k, π b, π b', e, g, by rw [I.get]; exact he, hi, by rw [I.get]; exact hg, hne, blk_iso I h1, blk_iso I h2, I.hb h3, I.hb h4, rfl⟩

/-! ### an exchange within an execution -/
theorem unh_swap_mem {p : Prog} {s : MS} {a b : Nat} (po : POk p) (w : WF p s) (ha : en p s a = true) (hb : en p (nxt p s a) b = true) (hd : dep (stp p s a) (stp p (nxt p s a) b) = false) (x : Nat × Nat)
    (h : x ∈ unh p s [a, b]) : x ∈ unh p s [b, a] := by
  obtain ⟨hb0, e1, ha1, e2, e3⟩ := swap po w ha hb hd
  have k1 : (s.at b).pc = ((nxt p s a).at b).pc := congrArg Stp.pc e1
  have k2 : ((nxt p s b).at a).pc = (s.at a).pc := congrArg Stp.pc e2
  have i1 : at' p s b = at' p (nxt p s a) b := by unfold at'; rw [k1]
  have i2 : at' p (nxt p s b) a = at' p s a := by unfold at'; rw [k2]
  have hsh : share (stp p s a).to (stp p (nxt p s a) b).to = false := by
    unfold dep at hd
    rw [Bool.or_eq_false_iff] at hd
    exact hd.2
  have tw : ∀ {s' : MS} {t : Nat}, isNote (at' p s' t) = true → (Thg.w, true) ∈ (stp p s' t).to := fun {s' t} q => by
    show (Thg.w, true) ∈ touch (at' p s' t) (s'.at t)
    cases h : at' p s' t <;> rw [h] at q <;> simp [isNote] at q <;> simp [touch, bad, In.tree, In.thing]
  -- a notice sees w as it was
  have keepw : ∀ {s' : MS} {t : Nat}, WF p s' → en p s' t = true → (Thg.w, true) ∉ (stp p s' t).to → (nxt p s' t).sh.w = s'.sh.w := fun {s' t} w' h q =>
    cell_w (act_frame p.length (p.getD t []).length t (at' p s' t) (s'.at t) s'.sh .w q (en_mode w' h))
  simp only [unh, List.append_nil, List.mem_append] at h ⊢
  rcases h with h | h
  · right
    split at h
    · rename_i q
      rw [Bool.and_eq_true] at q
      have hw : (Thg.w, true) ∉ (stp p s b).to := fun z => by
        rw [e1] at z
        have := (share_false hsh (tw q.1) z).1
        cases this
      rw [i2, keepw w hb0 hw, k2, if_pos (by rw [Bool.and_eq_true]; exact q)]
      exact h
    · cases h
  · left
    split at h
    · rename_i q
      rw [Bool.and_eq_true] at q
      have hw : (Thg.w, true) ∉ (stp p s a).to := fun z => by
        have := (share_false hsh z (tw q.1)).1
        cases this
      rw [keepw w ha hw, ← i1] at q
      rw [if_pos (by rw [Bool.and_eq_true]; exact q), k1]
      exact h
    · cases h

/-- the exchange of two independent neighbours: possible, to the same state, with the same faults -/
theorem told_swap {p : Prog} (po : POk p) {U V : List Nat} {a b : Nat} (h : okS p (first p) (U ++ a :: b :: V))
    (hd : dep (stp p (goAll p (first p) U) a) (stp p (nxt p (goAll p (first p) U) a) b) = false) :
    okS p (first p) (U ++ b :: a :: V) ∧ goAll p (first p) (U ++ b :: a :: V) = goAll p (first p) (U ++ a :: b :: V) ∧ ∀ F, Told p (U ++ a :: b :: V) F → Told p (U ++ b :: a :: V) F := by
  rw [okS_app] at h
  obtain ⟨hU, ha, hb, hV⟩ := h
  have w := wf_goAll po (wf_first po) hU
  obtain ⟨hb0, e1, ha1, e2, e3⟩ := swap po w ha hb hd
  have hst : goAll p (first p) (U ++ b :: a :: V) = goAll p (first p) (U ++ a :: b :: V) := by
    rw [goAll_app, goAll_app]
    show goAll p (nxt p (nxt p (goAll p (first p) U) b) a) V = goAll p (nxt p (nxt p (goAll p (first p) U) a) b) V
    rw [e3]
  refine ⟨?_, hst, fun F hF => ?_⟩
  · rw [okS_app]
    exact ⟨hU, hb0, ha1, by show okS p (nxt p (nxt p (goAll p (first p) U) b) a) V; rw [e3]; exact hV⟩
  · have r1 : stepsOf p (first p) (U ++ a :: b :: V) = stepsOf p (first p) U ++ stp p (goAll p (first p) U) a :: stp p (nxt p (goAll p (first p) U) a) b :: stepsOf p (nxt p (nxt p (goAll p (first p) U) a) b) V := by
      rw [stepsOf_app]; rfl
    have r2 : stepsOf p (first p) (U ++ b :: a :: V) = stepsOf p (first p) U ++ stp p (nxt p (goAll p (first p) U) a) b :: stp p (goAll p (first p) U) a :: stepsOf p (nxt p (nxt p (goAll p (first p) U) a) b) V := by
      rw [stepsOf_app]
      show _ ++ stp p (goAll p (first p) U) b :: stp p (nxt p (goAll p (first p) U) b) a :: stepsOf p (nxt p (nxt p (goAll p (first p) U) b) a) V = _
      rw [e1, e2, e3]
    have I := iso_sw (U := stepsOf p (first p) U) (V := stepsOf p (nxt p (nxt p (goAll p (first p) U) a) b) V) hd
    rw [← r1, ← r2] at I
    unfold Told at hF ⊢
    rw [hst]
    rcases hF with q | q | q | q | q
    · left
      obtain ⟨e, wd, he, hw, rfl⟩ := q
      refine ⟨e, wd, ?_, hw, rfl⟩
      rw [r1] at he
      rw [r2]
      simp only [List.mem_append, List.mem_cons] at he ⊢
      rcases he with z | z | z | z
      · exact .inl z
      · exact .inr (.inr (.inl z))
      · exact .inr (.inl z)
      · exact .inr (.inr (.inr z))
    · exact .inr (.inl q)
    · exact .inr (.inr (.inl (race_iso I q)))
    · obtain ⟨q1, q2, t, pc, hu, rfl⟩ := q
      refine .inr (.inr (.inr (.inl ⟨q1, q2, t, pc, ?_, rfl⟩)))
      have u1 : unh p (first p) (U ++ a :: b :: V) = unh p (first p) U ++ (unh p (goAll p (first p) U) [a, b] ++ unh p (nxt p (nxt p (goAll p (first p) U) a) b) V) := by
        have : U ++ a :: b :: V = U ++ ([a, b] ++ V) := rfl
        rw [this, unh_app, unh_app]; rfl
      have u2 : unh p (first p) (U ++ b :: a :: V) = unh p (first p) U ++ (unh p (goAll p (first p) U) [b, a] ++ unh p (nxt p (nxt p (goAll p (first p) U) a) b) V) := by
        have : U ++ b :: a :: V = U ++ ([b, a] ++ V) := rfl
        rw [this, unh_app, unh_app, ← e3]; rfl
      rw [u1] at hu
      rw [u2]
      rcases List.mem_append.mp hu with z | z
      · exact List.mem_append_left _ z
      · refine List.mem_append_right _ ?_
        rcases List.mem_append.mp z with z | z
        · exact List.mem_append_left _ (unh_swap_mem po w ha hb hd _ z)
        · exact List.mem_append_right _ z
    · exact .inr (.inr (.inr (.inr (broken_iso I q))))

/-- a step that is independent of all of M comes ahead of M -/
theorem told_move {p : Prog} (po : POk p) {U V : List Nat} {b : Nat} : ∀ (n : Nat) (M : List Nat), M.length = n → okS p (first p) (U ++ M ++ b :: V) →
    (∀ e ∈ stepsOf p (goAll p (first p) U) M, dep e (stp p (goAll p (first p) (U ++ M)) b) = false) →
    okS p (first p) (U ++ b :: M ++ V) ∧ goAll p (first p) (U ++ b :: M ++ V) = goAll p (first p) (U ++ M ++ b :: V) ∧ ∀ F, Told p (U ++ M ++ b :: V) F → Told p (U ++ b :: M ++ V) F := by
  intro n
  induction n generalizing V with
  | zero =>
    intro M hM h _
    have e : M = [] := List.eq_nil_of_length_eq_zero hM
    subst e
    simp only [List.append_nil, List.append_assoc, List.cons_append, List.nil_append] at h ⊢
    exact ⟨h, trivial, fun _ q => q⟩
  | succ n ih =>
    intro M hM h hi
    obtain ⟨M', c, rfl⟩ : ∃ M' c, M = M' ++ [c] := by
      have hne : M ≠ [] := fun q => by rw [q] at hM; cases hM
      exact ⟨M.dropLast, M.getLast hne, (List.dropLast_concat_getLast hne).symm⟩
    have hM' : M'.length = n := by simpa using hM
    have e0 : U ++ (M' ++ [c]) ++ b :: V = (U ++ M') ++ c :: b :: V := by simp
    rw [e0] at h
    have egc : goAll p (first p) (U ++ (M' ++ [c])) = nxt p (goAll p (first p) (U ++ M')) c := by
      rw [← List.append_assoc, goAll_app]; rfl
    rw [egc] at hi
    have esM : stepsOf p (goAll p (first p) U) (M' ++ [c]) = stepsOf p (goAll p (first p) U) M' ++ [stp p (goAll p (first p) (U ++ M')) c] := by
      rw [stepsOf_app, ← goAll_app]; rfl
    rw [esM] at hi
    have hc : dep (stp p (goAll p (first p) (U ++ M')) c) (stp p (nxt p (goAll p (first p) (U ++ M')) c) b) = false := hi _ (by simp)
    obtain ⟨h1, h2, h3⟩ := told_swap po h hc
    have h1' := h1
    rw [okS_app] at h h1'
    have w := wf_goAll po (wf_first po) h.1
    obtain ⟨_, eb, _, _, _⟩ := swap po w h.2.1 h.2.2.1 hc
    obtain ⟨k1, k2, k3⟩ := ih (V := c :: V) M' hM' h1 fun e he => by
      rw [eb]
      exact hi e (List.mem_append_left _ he)
    have e1 : U ++ b :: M' ++ c :: V = U ++ b :: (M' ++ [c]) ++ V := by simp
    rw [e1] at k1 k2 k3
    rw [e0]
    exact ⟨k1, k2.trans h2, fun F q => k3 F (h3 F q)⟩

theorem soonerR_true : ∀ (R : List Stp) (e : Stp), soonerR R e = true → ∃ A c B, R = A ++ c :: B ∧ e.th < c.th ∧ dep c e = false ∧ ∀ k ∈ A, dep k e = false
  | [], _, h => by simp [soonerR] at h
  | k :: r, e, h => by
    unfold soonerR at h
    by_cases hd : dep k e = true
    · simp [hd] at h
    · have hd : dep k e = false := by simpa using hd
      simp only [hd, Bool.false_eq_true, if_false] at h
      by_cases ht : e.th < k.th
      · exact ⟨[], k, r, rfl, ht, hd, fun _ q => nomatch q⟩
      · simp only [ht, if_false] at h
        obtain ⟨A, c, B, rfl, h1, h2, h3⟩ := soonerR_true r e h
        refine ⟨k :: A, c, B, rfl, h1, h2, fun x hx => ?_⟩
        rcases List.mem_cons.mp hx with rfl | hx
        · exact hd
        · exact h3 x hx
theorem canSooner_true {R : List Stp} {e : Stp} (h : canSooner R e = true) : ∃ A c B, R = A ++ c :: B ∧ e.th < c.th ∧ ∀ k ∈ c :: B, dep k e = false := by
  obtain ⟨A, c, B, hR, h1, h2, h3⟩ := soonerR_true _ _ h
  refine ⟨B.reverse, c, A.reverse, ?_, h1, fun k hk => ?_⟩
  · have := congrArg List.reverse hR
    simpa using this
  · rcases List.mem_cons.mp hk with rfl | hk
    · exact h2
    · exact h3 k (List.mem_reverse.mp hk)

/-- no step of the schedule could come ahead of a step of a higher thread -/
def Unpr (p : Prog) (S : List Nat) : Prop := ∀ U t V, S = U ++ t :: V → canSooner (stepsOf p (first p) U) (stp p (goAll p (first p) U) t) = false

theorem lt_app {b c : Nat} (h : b < c) (X Y : List Nat) : ∀ U : List Nat, U ++ b :: X < U ++ c :: Y
  | [] => List.cons_lt_cons_iff.mpr (.inl h)
  | u :: U => List.cons_lt_cons_iff.mpr (.inr ⟨rfl, lt_app h X Y U⟩)

/-- what is left out has a lesser execution with the same faults -/
theorem lesser {p : Prog} (po : POk p) {S : List Nat} (h : okS p (first p) S) (hn : ¬ Unpr p S) :
    ∃ S', okS p (first p) S' ∧ S'.length = S.length ∧ goAll p (first p) S' = goAll p (first p) S ∧ S' < S ∧ ∀ F, Told p S F → Told p S' F := by
  have hn' : ∃ U t V, S = U ++ t :: V ∧ canSooner (stepsOf p (first p) U) (stp p (goAll p (first p) U) t) = true := by
    refine Classical.byContradiction fun q => hn fun U t V e => ?_
    cases hc : canSooner (stepsOf p (first p) U) (stp p (goAll p (first p) U) t) with
    | false => rfl
    | true => exact absurd ⟨U, t, V, e, hc⟩ q
  obtain ⟨U, t, V, rfl, hc⟩ := hn'
  obtain ⟨A, c, B, hR, hlt, hi⟩ := canSooner_true hc
  -- cut U where A ends
  have hlen := stepsOf_len p U (first p)
  have hAU : A.length + (B.length + 1) = U.length := by
    rw [← hlen, hR]; simp
  have hU : U = U.take A.length ++ U.drop A.length := (List.take_append_drop _ _).symm
  have hsp := stepsOf_app p (U.take A.length) (U.drop A.length) (first p)
  rw [← hU, hR] at hsp
  have hlA : (stepsOf p (first p) (U.take A.length)).length = A.length := by
    rw [stepsOf_len, List.length_take]; omega
  obtain ⟨hA, hB⟩ := List.append_inj hsp hlA.symm
  -- the thread of c
  obtain ⟨u, M, hM⟩ : ∃ u M, U.drop A.length = u :: M := by
    cases hq : U.drop A.length with
    | nil =>
      have := congrArg List.length hq
      rw [List.length_drop] at this
      simp at this
      omega
    | cons u M => exact ⟨u, M, rfl⟩
  have hcu : c.th = u := by
    rw [hM] at hB
    have := (List.cons.inj hB).1
    rw [this]; rfl
  have hUe : U = U.take A.length ++ (u :: M) := by rw [← hM]; exact hU
  have hok : okS p (first p) (U.take A.length ++ (u :: M) ++ t :: V) := by rw [← hUe]; exact h
  obtain ⟨k1, k2, k3⟩ := told_move po (U := U.take A.length) (V := V) (b := t) _ (u :: M) rfl hok fun e he => by
    rw [← hUe]
    rw [← hM, ← hB] at he
    exact hi e he
  refine ⟨U.take A.length ++ t :: (u :: M) ++ V, k1, ?_, ?_, ?_, fun F q => k3 F (by rw [← hUe]; exact q)⟩
  · have e1 := congrArg List.length hUe
    simp only [List.length_append, List.length_cons] at e1 ⊢
    omega
  · rw [k2, ← hUe]
  · have e2 : U ++ t :: V = U.take A.length ++ u :: (M ++ t :: V) := by
      rw [← List.cons_append, ← List.append_assoc, ← hUe]
    have e3 : U.take A.length ++ t :: (u :: M) ++ V = U.take A.length ++ t :: (u :: M ++ V) := by simp
    rw [e2, e3]
    exact lt_app (hcu ▸ hlt) _ _ _
end Ev

-- part EvD
set_option maxHeartbeats 400000
set_option linter.all false
/-! The search's trees, how many entries they have, and who is found first. -/
namespace Ev

structure Ent where
  S : List Nat
  R : List Stp
  s : MS
def mk (p : Prog) (S : List Nat) : Ent := ⟨S, stepsOf p (first p) S, goAll p (first p) S⟩
def kid (p : Prog) (e : Ent) (t : Nat) : Ent := ⟨e.S ++ [t], e.R ++ [stp p e.s t], nxt p e.s t⟩
theorem kid_mk (p : Prog) (S : List Nat) (t : Nat) : kid p (mk p S) t = mk p (S ++ [t]) := by
  unfold kid mk
  rw [stepsOf_app, goAll_app]
  rfl
def kidsA (p : Prog) (L : Nat) (e : Ent) : List Ent := if e.S.length < L then (enabled p e.s).map (kid p e) else []
def kidsT (p : Prog) (L : Nat) (e : Ent) : List Ent := if e.S.length < L then ((enabled p e.s).filter fun t => !canSooner e.R (stp p e.s t)).map (kid p e) else []
def kidsR (p : Prog) (L : Nat) (e : Ent) : List Ent := (kidsA p L e).reverse
def tree (K : Ent → List Ent) : Nat → Ent → List Ent
  | 0, e => [e]
  | n + 1, e => e :: (K e).flatMap (tree K n)
def dfs (K : Ent → List Ent) (L : Nat) (e : Ent) : List Ent := tree K (L - e.S.length) e

structure Grow (K : Ent → List Ent) (L : Nat) : Prop where
  len : ∀ e k, k ∈ K e → k.S.length = e.S.length + 1
  fin : ∀ e, L ≤ e.S.length → K e = []
theorem dfs_eq {K : Ent → List Ent} {L : Nat} (g : Grow K L) (e : Ent) : dfs K L e = e :: (K e).flatMap (dfs K L) := by
  unfold dfs
  rcases Nat.lt_or_ge e.S.length L with q | q
  · obtain ⟨n, hn⟩ : ∃ n, L - e.S.length = n + 1 := ⟨L - e.S.length - 1, by omega⟩
    rw [hn]
    show e :: (K e).flatMap (tree K n) = _
    congr 1
    have : ∀ l : List Ent, (∀ k ∈ l, k.S.length = e.S.length + 1) → l.flatMap (tree K n) = l.flatMap fun k => tree K (L - k.S.length) k := by
      intro l hl
      induction l with
      | nil => rfl
      | cons k r ih =>
        rw [List.flatMap_cons, List.flatMap_cons, ih fun x hx => hl x (List.mem_cons_of_mem _ hx)]
        have hk := hl k List.mem_cons_self
        have e1 : L - k.S.length = n := by omega
        rw [e1]
    exact this _ fun k hk => g.len e k hk
  · have e1 : L - e.S.length = 0 := by omega
    rw [e1, g.fin e q]
    rfl
theorem grow_A (p : Prog) (L : Nat) : Grow (kidsA p L) L := by
  refine ⟨fun e k hk => ?_, fun e h => ?_⟩
  · unfold kidsA at hk
    split at hk
    · obtain ⟨t, _, rfl⟩ := List.mem_map.mp hk
      simp [kid]
    · cases hk
  · unfold kidsA
    rw [if_neg (by omega)]
theorem grow_R (p : Prog) (L : Nat) : Grow (kidsR p L) L :=
  ⟨fun e k hk => (grow_A p L).len e k (List.mem_reverse.mp hk), fun e h => by unfold kidsR; rw [(grow_A p L).fin e h]; rfl⟩
theorem sub_T (p : Prog) (L : Nat) (e k : Ent) (h : k ∈ kidsT p L e) : k ∈ kidsA p L e := by
  unfold kidsT at h
  unfold kidsA
  split at h
  · rename_i q
    rw [if_pos q]
    obtain ⟨t, ht, rfl⟩ := List.mem_map.mp h
    exact List.mem_map.mpr ⟨t, (List.mem_filter.mp ht).1, rfl⟩
  · cases h
theorem grow_T (p : Prog) (L : Nat) : Grow (kidsT p L) L :=
  ⟨fun e k hk => (grow_A p L).len e k (sub_T p L e k hk), fun e h => by unfold kidsT; rw [if_neg (by omega)]⟩

theorem en_mem {p : Prog} {s : MS} {t : Nat} (w : WF p s) : t ∈ enabled p s ↔ en p s t = true := by
  unfold enabled
  rw [List.mem_filter, List.mem_range]
  exact ⟨fun h => h.2, fun h => ⟨w.len ▸ en_lt h, h⟩⟩

/-- what a tree holds -/
theorem mem_dfs {p : Prog} (po : POk p) {K : Ent → List Ent} {L : Nat} (g : Grow K L) (hK : ∀ e k, k ∈ K e → k ∈ kidsA p L e) : ∀ (n : Nat) (S : List Nat), L - S.length = n → okS p (first p) S → S.length ≤ L → ∀ e, e ∈ dfs K L (mk p S) → ∃ V, e = mk p (S ++ V) ∧ okS p (first p) (S ++ V) ∧ (S ++ V).length ≤ L
  | 0, S, hn, ho, hl, e, he => by
    have q : L ≤ (mk p S).S.length := by show L ≤ S.length; omega
    rw [dfs_eq g, g.fin _ q] at he
    have : e = mk p S := by simpa using he
    exact ⟨[], by rw [List.append_nil]; exact this, by rw [List.append_nil]; exact ho, by rw [List.append_nil]; exact hl⟩
  | n + 1, S, hn, ho, hl, e, he => by
    rw [dfs_eq g, List.mem_cons, List.mem_flatMap] at he
    rcases he with rfl | ⟨k, hk, he⟩
    · exact ⟨[], by rw [List.append_nil], by rw [List.append_nil]; exact ho, by rw [List.append_nil]; exact hl⟩
    · have hk := hK _ _ hk
      unfold kidsA at hk
      split at hk
      · rename_i q
        have q : S.length < L := q
        obtain ⟨t, ht, rfl⟩ := List.mem_map.mp hk
        rw [kid_mk] at he
        have w := wf_goAll po (wf_first po) ho
        have ht : en p (goAll p (first p) S) t = true := (en_mem w).mp ht
        have ho' : okS p (first p) (S ++ [t]) := (okS_app p S [t] _).mpr ⟨ho, ht, trivial⟩
        obtain ⟨V, h1, h2, h3⟩ := mem_dfs po g hK n (S ++ [t]) (by simp; omega) ho' (by simp; omega) e he
        exact ⟨t :: V, by rw [h1]; simp, by simpa using h2, by simpa using h3⟩
      · cases hk
theorem mem_A {p : Prog} (po : POk p) {L : Nat} : ∀ (V S : List Nat), okS p (first p) (S ++ V) → (S ++ V).length ≤ L → mk p (S ++ V) ∈ dfs (kidsR p L) L (mk p S)
  | [], S, _, _ => by rw [dfs_eq (grow_R p L), List.append_nil]; exact List.mem_cons_self
  | t :: V, S, ho, hl => by
    rw [dfs_eq (grow_R p L)]
    have e : S ++ t :: V = (S ++ [t]) ++ V := by simp
    have ho' := ho
    rw [okS_app] at ho'
    have w := wf_goAll po (wf_first po) ho'.1
    refine List.mem_cons_of_mem _ (List.mem_flatMap.mpr ⟨mk p (S ++ [t]), ?_, ?_⟩)
    · unfold kidsR kidsA
      rw [List.mem_reverse, if_pos (show (mk p S).S.length < L by show S.length < L; simp at hl; omega)]
      exact List.mem_map.mpr ⟨t, (en_mem w).mpr ho'.2.1, kid_mk p S t⟩
    · rw [e] at ho hl ⊢
      exact mem_A po V (S ++ [t]) ho hl
theorem mem_T {p : Prog} (po : POk p) {L : Nat} : ∀ (V S : List Nat), okS p (first p) (S ++ V) → (S ++ V).length ≤ L → Unpr p (S ++ V) → mk p (S ++ V) ∈ dfs (kidsT p L) L (mk p S)
  | [], S, _, _, _ => by rw [dfs_eq (grow_T p L), List.append_nil]; exact List.mem_cons_self
  | t :: V, S, ho, hl, hu => by
    rw [dfs_eq (grow_T p L)]
    have e : S ++ t :: V = (S ++ [t]) ++ V := by simp
    have ho' := ho
    rw [okS_app] at ho'
    have w := wf_goAll po (wf_first po) ho'.1
    refine List.mem_cons_of_mem _ (List.mem_flatMap.mpr ⟨mk p (S ++ [t]), ?_, ?_⟩)
    · unfold kidsT
      rw [if_pos (show (mk p S).S.length < L by show S.length < L; simp at hl; omega)]
      refine List.mem_map.mpr ⟨t, List.mem_filter.mpr ⟨(en_mem w).mpr ho'.2.1, ?_⟩, kid_mk p S t⟩
      have : canSooner (mk p S).R (stp p (mk p S).s t) = false := hu S t V rfl
      rw [this]
      rfl
    · rw [e] at ho hl hu ⊢
      exact mem_T po V (S ++ [t]) ho hl hu

/-! ### how many -/
def cnt (b : Nat) : Nat → Nat
  | 0 => 1
  | n + 1 => 1 + b * cnt b n
theorem cnt_pos (b n : Nat) : 1 ≤ cnt b n := by cases n <;> simp [cnt]
theorem cnt_mono (b : Nat) : ∀ {m n : Nat}, m ≤ n → cnt b m ≤ cnt b n
  | 0, n, _ => cnt_pos b n
  | m + 1, 0, h => absurd h (by omega)
  | m + 1, n + 1, h => by
    have := cnt_mono b (Nat.le_of_succ_le_succ h)
    have := Nat.mul_le_mul_left b this
    simp only [cnt]
    omega
theorem flat_len {f : Ent → List Ent} {m : Nat} : ∀ (l : List Ent), (∀ k ∈ l, (f k).length ≤ m) → (l.flatMap f).length ≤ l.length * m
  | [], _ => by simp
  | k :: r, h => by
    rw [List.flatMap_cons, List.length_append, List.length_cons]
    have h1 := h k List.mem_cons_self
    have h2 := flat_len r fun x hx => h x (List.mem_cons_of_mem _ hx)
    have h3 : (r.length + 1) * m = r.length * m + m := Nat.succ_mul _ _
    omega
theorem tree_len {K : Ent → List Ent} {b : Nat} (I : Ent → Prop) (rank : Ent → Nat) (hb : ∀ e, I e → (K e).length ≤ b) (hr : ∀ e k, I e → k ∈ K e → I k ∧ rank k < rank e) : ∀ (n : Nat) (e : Ent), I e → (tree K n e).length ≤ cnt b (rank e)
  | 0, e, _ => cnt_pos b _
  | n + 1, e, hI => by
    show (e :: (K e).flatMap (tree K n)).length ≤ _
    rw [List.length_cons]
    cases hk : K e with
    | nil => simpa using cnt_pos b _
    | cons k0 r0 =>
      have h0 := hr e k0 hI (by rw [hk]; exact List.mem_cons_self)
      obtain ⟨m, hm⟩ : ∃ m, rank e = m + 1 := ⟨rank e - 1, by omega⟩
      have := flat_len (f := tree K n) (m := cnt b m) (K e) fun k hk => by
        have h1 := hr e k hI hk
        exact Nat.le_trans (tree_len I rank hb hr n k h1.1) (cnt_mono b (by omega))
      have h2 : (K e).length * cnt b m ≤ b * cnt b m := Nat.mul_le_mul_right _ (hb e hI)
      rw [hm, ← hk]
      simp only [cnt]
      omega

def restOf (p : Prog) (s : MS) (t : Nat) : Nat := if (s.at t).md = .over then 0 else (p.getD t []).length - (s.at t).pc
def rk (p : Prog) (s : MS) : Nat := restOf p s 0 + restOf p s 1 + restOf p s 2
/-- no wait -/
def NoWait (p : Prog) : Prop := ∀ t pc, ins p t pc ≠ .wait
theorem act_rest {n len t : Nat} {i : In} {th : Thr} {sh : Sh} (hpc : th.pc < len) (hw : i ≠ .wait) (hgo : ∀ k e, i = .go k e → th.pc < k) :
    (act n len t i th sh).th.md = .over ∨ th.pc < (act n len t i th sh).th.pc := by
  have g : ∀ (th' : Thr) (k : Nat), th.pc < k → (goTo len th' k).md = .over ∨ th.pc < (goTo len th' k).pc := fun _ _ h => .inr h
  by_cases hb : bad i th.a = true
  · left
    unfold act
    rw [if_pos hb]
    rfl
  · unfold act
    rw [if_neg hb]
    cases i with
    | wait => exact absurd rfl hw
    | add v e => dsimp only; split <;> first | exact .inl rfl | exact g _ _ (Nat.lt_succ_self _)
    | unlock l => dsimp only; split <;> first | exact .inl rfl | exact g _ _ (Nat.lt_succ_self _)
    | check e => dsimp only; split <;> first | exact .inl rfl | exact g _ _ (Nat.lt_succ_self _)
    | go k e => dsimp only; split <;> first | exact g _ _ (hgo k e rfl) | exact g _ _ (Nat.lt_succ_self _)
    | _ => exact g _ _ (Nat.lt_succ_self _)
theorem rest_nxt {p : Prog} {s : MS} {t : Nat} (po : POk p) (nw : NoWait p) (w : WF p s) (h : en p s t = true) (k : Nat) : restOf p (nxt p s t) k ≤ restOf p s k ∧ (k = t → restOf p (nxt p s t) k < restOf p s k) := by
  have hl := en_lt h
  have ht : t < p.length := w.len ▸ hl
  have h0 := en_iff.mp h
  have hw0 : (out p s t).wk = [] := by
    rcases act_wk p.length (p.getD t []).length t (at' p s t) (s.at t) s.sh with e | ⟨_, e⟩
    · exact e
    · apply List.eq_nil_iff_forall_not_mem.mpr
      intro z hz
      have := w.inw z (e z hz)
      exact nw _ _ (w.wt z (.inl this))
  have A : (nxt p s t).at k = if k = t then (out p s t).th else s.at k := by
    rw [nxt_at p s t k hl, hw0]
    simp
  unfold restOf
  rw [A]
  by_cases e : k = t
  · subst e
    simp only [if_true]
    have hpc := w.pc k ht h0.1
    rw [if_neg h0.1]
    have q := act_rest (n := p.length) (t := k) (sh := s.sh) hpc (nw k (s.at k).pc) fun j e q => (po.go k _ j e q hpc).1
    have q : (out p s k).th.md = .over ∨ (s.at k).pc < (out p s k).th.pc := q
    have : (if (out p s k).th.md = .over then 0 else (p.getD k []).length - (out p s k).th.pc) < (p.getD k []).length - (s.at k).pc := by
      split
      · omega
      · rename_i hno
        have := q.resolve_left hno
        omega
    exact ⟨Nat.le_of_lt this, fun _ => this⟩
  · simp only [e, if_false]
    exact ⟨Nat.le_refl _, fun q => q.elim⟩
theorem rk_nxt {p : Prog} {s : MS} {t : Nat} (po : POk p) (nw : NoWait p) (w : WF p s) (h : en p s t = true) (h3 : p.length = 3) : rk p (nxt p s t) < rk p s := by
  have ht : t < 3 := h3 ▸ w.len ▸ en_lt h
  have r := rest_nxt po nw w h
  unfold rk
  have r0 := r 0
  have r1 := r 1
  have r2 := r 2
  have : t = 0 ∨ t = 1 ∨ t = 2 := by omega
  rcases this with rfl | rfl | rfl
  · have := r0.2 rfl; omega
  · have := r1.2 rfl; omega
  · have := r2.2 rfl; omega

theorem enabled_len (p : Prog) (s : MS) : (enabled p s).length ≤ p.length := by
  unfold enabled
  have := List.length_filter_le (en p s) (List.range p.length)
  rwa [List.length_range] at this
theorem kidsA_len (p : Prog) (L : Nat) (e : Ent) : (kidsA p L e).length ≤ p.length := by
  unfold kidsA
  split
  · rw [List.length_map]; exact enabled_len p e.s
  · exact Nat.zero_le _
theorem kidsT_len (p : Prog) (L : Nat) (e : Ent) : (kidsT p L e).length ≤ p.length := by
  unfold kidsT
  split
  · rw [List.length_map]; exact Nat.le_trans (List.length_filter_le _ _) (enabled_len p e.s)
  · exact Nat.zero_le _

/-- the sizes that are drawn -/
def Small (p : Prog) : Prop := p.length = 2 ∨ p.length = 3 ∧ NoWait p ∧ (p.getD 0 []).length + (p.getD 1 []).length + (p.getD 2 []).length ≤ 5
theorem rk_first (p : Prog) : rk p (first p) ≤ (p.getD 0 []).length + (p.getD 1 []).length + (p.getD 2 []).length := by
  have : ∀ t, restOf p (first p) t ≤ (p.getD t []).length := fun t => by
    unfold restOf
    split <;> omega
  have h0 := this 0
  have h1 := this 1
  have h2 := this 2
  unfold rk
  omega
theorem dfs_len {p : Prog} (po : POk p) (sm : Small p) {K : Ent → List Ent} {L : Nat} (hL : L ≤ 8) (g : Grow K L) (hK : ∀ e k, k ∈ K e → k ∈ kidsA p L e) (hb : ∀ e, (K e).length ≤ p.length) : (dfs K L (mk p [])).length ≤ 600 := by
  rcases sm with h2 | ⟨h3, nw, hs⟩
  · have q := tree_len (K := K) (b := 2) (fun _ => True) (fun e => L - e.S.length) (fun e _ => h2 ▸ hb e) (fun e k _ hk => ⟨trivial, by
      have h1 := g.len e k hk
      have h2 : e.S.length < L := by
        rcases Nat.lt_or_ge e.S.length L with z | z
        · exact z
        · rw [g.fin e z] at hk; cases hk
      show L - k.S.length < L - e.S.length
      omega⟩) (L - (mk p []).S.length) (mk p []) trivial
    have e1 : cnt 2 (L - (mk p []).S.length) ≤ cnt 2 8 := cnt_mono 2 (by omega)
    have e2 : cnt 2 8 = 511 := by decide
    unfold dfs
    omega
  · have q := tree_len (K := K) (b := 3) (fun e => WF p e.s) (fun e => rk p e.s) (fun e _ => h3 ▸ hb e) (fun e k w hk => by
      have hk := hK e k hk
      unfold kidsA at hk
      split at hk
      · obtain ⟨t, ht, rfl⟩ := List.mem_map.mp hk
        have ht := (en_mem w).mp ht
        exact ⟨wf_nxt po w ht, rk_nxt po nw w ht h3⟩
      · cases hk) (L - (mk p []).S.length) (mk p []) (wf_first po)
    have e1 : cnt 3 (rk p (mk p []).s) ≤ cnt 3 5 := cnt_mono 3 (Nat.le_trans (rk_first p) hs)
    have e2 : cnt 3 5 = 364 := by decide
    unfold dfs
    omega

/-! ### who is first -/
section
variable {κ : Type} [DecidableEq κ]
/-- d tells for each thing its first schedule in A (M: what a schedule has) -/
structure Firsts (M : List Nat → κ → Prop) (A : List (List Nat)) (d : List (κ × List Nat)) : Prop where
  nd : (d.map (·.1)).Nodup
  iff : ∀ f S, (f, S) ∈ d ↔ ∃ U V, A = U ++ S :: V ∧ M S f ∧ ∀ T ∈ U, ¬ M T f
theorem Firsts.nil (M : List Nat → κ → Prop) : Firsts M [] [] :=
  ⟨List.nodup_nil, fun f S => ⟨(fun h => nomatch h), fun h => by
    obtain ⟨U, V, h, _⟩ := h
    have := congrArg List.length h
    simp at this⟩⟩
theorem Firsts.key_iff {M : List Nat → κ → Prop} {A : List (List Nat)} {d : List (κ × List Nat)} (h : Firsts M A d) (f : κ) : f ∈ d.map (·.1) ↔ ∃ T ∈ A, M T f := by
  constructor
  · intro q
    obtain ⟨⟨f', S⟩, hm, rfl⟩ := List.mem_map.mp q
    obtain ⟨U, V, rfl, h1, _⟩ := (h.iff f' S).mp hm
    exact ⟨S, by simp, h1⟩
  · rintro ⟨T, hT, hf⟩
    have : ∃ U S V, A = U ++ S :: V ∧ M S f ∧ ∀ T ∈ U, ¬ M T f := by
      clear h
      induction A with
      | nil => cases hT
      | cons X A ih =>
        by_cases hX : M X f
        · exact ⟨[], X, A, rfl, hX, fun _ q => nomatch q⟩
        · rcases List.mem_cons.mp hT with rfl | hT
          · exact absurd hf hX
          · obtain ⟨U, S, V, rfl, h1, h2⟩ := ih hT
            refine ⟨X :: U, S, V, rfl, h1, fun Y hY => ?_⟩
            rcases List.mem_cons.mp hY with rfl | hY
            · exact hX
            · exact h2 Y hY
    obtain ⟨U, S, V, h1, h2, h3⟩ := this
    exact List.mem_map.mpr ⟨(f, S), (h.iff f S).mpr ⟨U, V, h1, h2, h3⟩, rfl⟩
/-- in the turn of the schedule S, the things L1 done -/
structure Turn (M : List Nat → κ → Prop) (A : List (List Nat)) (S : List Nat) (L1 : List κ) (d : List (κ × List Nat)) : Prop where
  nd : (d.map (·.1)).Nodup
  iff : ∀ f T, (f, T) ∈ d ↔ (∃ U V, A = U ++ T :: V ∧ M T f ∧ ∀ T' ∈ U, ¬ M T' f) ∨ (T = S ∧ f ∈ L1 ∧ ∀ T' ∈ A, ¬ M T' f)
theorem Firsts.turn {M : List Nat → κ → Prop} {A : List (List Nat)} {d : List (κ × List Nat)} (h : Firsts M A d) (S : List Nat) : Turn M A S [] d :=
  ⟨h.nd, fun f T => by rw [h.iff f T]; exact ⟨.inl, fun q => q.elim id fun ⟨_, q, _⟩ => nomatch q⟩⟩
theorem Turn.key_iff {M : List Nat → κ → Prop} {A : List (List Nat)} {S : List Nat} {L1 : List κ} {d : List (κ × List Nat)} (h : Turn M A S L1 d) (f : κ) : f ∈ d.map (·.1) ↔ f ∈ L1 ∨ ∃ T ∈ A, M T f := by
  constructor
  · intro q
    obtain ⟨⟨f', T⟩, hm, rfl⟩ := List.mem_map.mp q
    rcases (h.iff f' T).mp hm with ⟨U, V, rfl, h1, _⟩ | ⟨rfl, h1, _⟩
    · exact .inr ⟨T, by simp, h1⟩
    · exact .inl h1
  · intro q
    by_cases hA : ∃ T ∈ A, M T f
    · obtain ⟨T, hT, hf⟩ := hA
      have : ∃ U S V, A = U ++ S :: V ∧ M S f ∧ ∀ T ∈ U, ¬ M T f := by
        clear h q
        induction A with
        | nil => cases hT
        | cons X A ih =>
          by_cases hX : M X f
          · exact ⟨[], X, A, rfl, hX, fun _ q => nomatch q⟩
          · rcases List.mem_cons.mp hT with rfl | hT
            · exact absurd hf hX
            · obtain ⟨U, S, V, rfl, h1, h2⟩ := ih hT
              refine ⟨X :: U, S, V, rfl, h1, fun Y hY => ?_⟩
              rcases List.mem_cons.mp hY with rfl | hY
              · exact hX
              · exact h2 Y hY
      obtain ⟨U, S', V, h1, h2, h3⟩ := this
      exact List.mem_map.mpr ⟨(f, S'), (h.iff f S').mpr (.inl ⟨U, V, h1, h2, h3⟩), rfl⟩
    · have q := q.resolve_right hA
      exact List.mem_map.mpr ⟨(f, S), (h.iff f S).mpr (.inr ⟨rfl, q, fun T hT hm => hA ⟨T, hT, hm⟩⟩), rfl⟩
/-- it was there -/
theorem Turn.old {M : List Nat → κ → Prop} {A : List (List Nat)} {S : List Nat} {L1 : List κ} {d : List (κ × List Nat)} (h : Turn M A S L1 d) {f : κ} (q : f ∈ d.map (·.1)) : Turn M A S (L1 ++ [f]) d := by
  refine ⟨h.nd, fun g T => ?_⟩
  rw [h.iff g T]
  constructor
  · exact fun z => z.imp id fun ⟨a, b, c⟩ => ⟨a, List.mem_append_left _ b, c⟩
  · rintro (z | ⟨a, b, c⟩)
    · exact .inl z
    · rcases List.mem_append.mp b with b | b
      · exact .inr ⟨a, b, c⟩
      · have e := List.mem_singleton.mp b
        subst e
        rcases (h.key_iff g).mp q with q | ⟨T', hT, hm⟩
        · exact .inr ⟨a, q, c⟩
        · exact absurd hm (c T' hT)
/-- it was not -/
theorem Turn.new {M : List Nat → κ → Prop} {A : List (List Nat)} {S : List Nat} {L1 : List κ} {d : List (κ × List Nat)} (h : Turn M A S L1 d) {f : κ} (q : f ∉ d.map (·.1)) : Turn M A S (L1 ++ [f]) (d ++ [(f, S)]) := by
  have hno : f ∉ L1 ∧ ∀ T ∈ A, ¬ M T f := ⟨fun z => q ((h.key_iff f).mpr (.inl z)), fun T hT hm => q ((h.key_iff f).mpr (.inr ⟨T, hT, hm⟩))⟩
  refine ⟨?_, fun g T => ?_⟩
  · rw [List.map_append]
    refine List.nodup_append.mpr ⟨h.nd, by simp, fun a ha b hb => ?_⟩
    have : b = f := by simpa using hb
    subst this
    exact fun e => q (e ▸ ha)
  · rw [List.mem_append, h.iff g T]
    constructor
    · rintro (z | z)
      · exact z.imp id fun ⟨a, b, c⟩ => ⟨a, List.mem_append_left _ b, c⟩
      · have z := List.mem_singleton.mp z
        cases z
        exact .inr ⟨rfl, by simp, hno.2⟩
    · rintro (z | ⟨a, b, c⟩)
      · exact .inl (.inl z)
      · rcases List.mem_append.mp b with b | b
        · exact .inl (.inr ⟨a, b, c⟩)
        · have e := List.mem_singleton.mp b
          subst e
          subst a
          exact .inr (by simp)
theorem Turn.done {M : List Nat → κ → Prop} {A : List (List Nat)} {S : List Nat} {L1 : List κ} {d : List (κ × List Nat)} (h : Turn M A S L1 d) (hL : ∀ f, f ∈ L1 ↔ M S f) : Firsts M (A ++ [S]) d := by
  refine ⟨h.nd, fun f T => ?_⟩
  rw [h.iff f T]
  constructor
  · rintro (⟨U, V, rfl, h1, h2⟩ | ⟨rfl, h1, h2⟩)
    · exact ⟨U, V ++ [S], by simp, h1, h2⟩
    · exact ⟨A, [], rfl, (hL f).mp h1, h2⟩
  · rintro ⟨U, V, e, h1, h2⟩
    rcases List.eq_nil_or_concat V with rfl | ⟨V', z, rfl⟩
    · have e' := List.append_inj' e rfl
      obtain ⟨rfl, e2⟩ := e'
      have e2 : S = T := by simpa using e2
      subst e2
      exact .inr ⟨rfl, (hL f).mpr h1, h2⟩
    · have e1 : A ++ [S] = (U ++ T :: V') ++ [z] := by rw [e]; simp
      obtain ⟨rfl, _⟩ := List.append_inj' e1 rfl
      exact .inl ⟨U, V', rfl, h1, h2⟩

theorem sorted_pos {A U V : List (List Nat)} {S X : List Nat} (hs : A.Pairwise (· ≤ ·)) (e : A = U ++ S :: V) (hX : X ∈ A) (hn : X ∉ U) : S ≤ X := by
  subst e
  rcases List.mem_append.mp hX with q | q
  · exact absurd q hn
  · rcases List.mem_cons.mp q with rfl | q
    · exact List.le_refl _
    · have := (List.pairwise_append.mp hs).2.1
      exact (List.pairwise_cons.mp this).1 X q

/-- the same things with the same schedules, whether all are looked at or those that are tried -/
theorem firsts_same {M : List Nat → κ → Prop} {A B : List (List Nat)} {d d' : List (κ × List Nat)} (h : Firsts M A d) (h' : Firsts M B d') (sA : A.Pairwise (· ≤ ·)) (sB : B.Pairwise (· ≤ ·)) (hBA : ∀ S ∈ B, S ∈ A)
    (hl : ∀ S ∈ A, ∀ f, M S f → S ∉ B → ∃ S' ∈ A, S' < S ∧ M S' f) : d.Perm d' := by
  have fwd : ∀ f S, (f, S) ∈ d → (f, S) ∈ d' := fun f S hm => by
    obtain ⟨U, V, e, h1, h2⟩ := (h.iff f S).mp hm
    have hSA : S ∈ A := by rw [e]; simp
    have hSB : S ∈ B := Classical.byContradiction fun hn => by
      obtain ⟨S', hS', hlt, hf'⟩ := hl S hSA f h1 hn
      exact List.not_lt.mpr (sorted_pos sA e hS' fun q => h2 S' q hf') hlt
    obtain ⟨⟨f', S0⟩, hm0, e0⟩ := List.mem_map.mp ((h'.key_iff f).mpr ⟨S, hSB, h1⟩)
    have e0 : f' = f := e0
    subst e0
    obtain ⟨U', V', e', h1', h2'⟩ := (h'.iff f' S0).mp hm0
    have l1 : S0 ≤ S := sorted_pos sB e' hSB fun q => h2' S q h1
    have l2 : S ≤ S0 := sorted_pos sA e (hBA S0 (by rw [e']; simp)) fun q => h2 S0 q h1'
    have : S = S0 := List.le_antisymm l2 l1
    rw [this]
    exact hm0
  have nd1 : d.Nodup := by
    have := h.nd
    rw [List.nodup_iff_pairwise_ne, List.pairwise_map] at this
    rw [List.nodup_iff_pairwise_ne]
    exact this.imp fun q e => q (congrArg Prod.fst e)
  have nd2 : d'.Nodup := by
    have := h'.nd
    rw [List.nodup_iff_pairwise_ne, List.pairwise_map] at this
    rw [List.nodup_iff_pairwise_ne]
    exact this.imp fun q e => q (congrArg Prod.fst e)
  refine (List.perm_ext_iff_of_nodup nd1 nd2).mpr fun ⟨f, S⟩ => ⟨fwd f S, fun hm => ?_⟩
  obtain ⟨U, V, e, h1, h2⟩ := (h'.iff f S).mp hm
  obtain ⟨⟨f', S0⟩, hm0, e0⟩ := List.mem_map.mp ((h.key_iff f).mpr ⟨S, hBA S (by rw [e]; simp), h1⟩)
  have e0 : f' = f := e0
  subst e0
  have hm1 := fwd f' S0 hm0
  -- one schedule a thing
  obtain ⟨i, hi, ei⟩ := List.getElem_of_mem hm
  obtain ⟨j, hj, ej⟩ := List.getElem_of_mem hm1
  have hij : i = j := by
    have n := h'.nd
    have a1 : (d'.map (·.1))[i]'(by simpa using hi) = f' := by rw [List.getElem_map, ei]
    have a2 : (d'.map (·.1))[j]'(by simpa using hj) = f' := by rw [List.getElem_map, ej]
    exact (List.getElem_inj n).mp (a1.trans a2.symm)
  subst hij
  rw [ei] at ej
  rw [ej]
  exact hm0
end

/-- a schedule is complete -/
def full (p : Prog) (L : Nat) (S : List Nat) : Prop := S.length = L ∨ enabled p (goAll p (first p) S) = []
/-- what is left out has a lesser one among all -/
theorem left_out {p : Prog} (po : POk p) {L : Nat} {S : List Nat} {F : Ft} (ho : okS p (first p) S) (hl : S.length ≤ L) (hf : full p L S) (ht : Told p S F) (hn : ¬ Unpr p S) :
    ∃ S', okS p (first p) S' ∧ S'.length ≤ L ∧ full p L S' ∧ S' < S ∧ Told p S' F := by
  obtain ⟨S', h1, h2, h3, h4, h5⟩ := lesser po ho hn
  exact ⟨S', h1, by omega, by unfold full at hf ⊢; rw [h2, h3]; exact hf, h4, h5 F ht⟩
end Ev

-- part EvL
set_option maxHeartbeats 400000
set_option Elab.async false
set_option linter.all false
set_option maxRecDepth 100000
/-! Data that never change: what stands for them, and rules that speak of them alone. -/
namespace Ev
open PySem L2

mutual
/-- v stands for the datum d: scalars, and tuples of such, nested -/
inductive Rp (K : PySem.W.Frag) (H : Hp) : V → PyData → Prop
  | non : Rp K H .non .none
  | bl (b : Bool) : Rp K H (.bl b) (.bool b)
  | int (i : Int) : Rp K H (.int i) (.int i)
  | str (x : Str) : Rp K H (.str x) (.str x)
  | tup {a : Addr} {xs : List V} {ds : List PyData} : SqT K H a xs → RpAll K H xs ds → Rp K H (.ref a) (.tuple ds)
inductive RpAll (K : PySem.W.Frag) (H : Hp) : List V → List PyData → Prop
  | nil : RpAll K H [] []
  | cons {v : V} {vs : List V} {d : PyData} {ds : List PyData} : Rp K H v d → RpAll K H vs ds → RpAll K H (v :: vs) (d :: ds)
end

/-- every tuple that is read stays -/
def Tle (K : PySem.W.Frag) (H H' : Hp) : Prop := ∀ a xs, SqT K H a xs → SqT K H' a xs
section
variable {K : PySem.W.Frag} {H H0 H1 H' : Hp} {a l : Addr} {o : HO} {v : V} {d : PyData} {vs : List V} {ds : List PyData}
theorem Tle.refl : Tle K H H := fun _ _ h => h
theorem Tle.trans (x : Tle K H H1) (y : Tle K H1 H') : Tle K H H' := fun a xs h => y a xs (x a xs h)
theorem Tle.same (s : Same H H') : Tle K H H' := fun a xs h => by
  rcases h with (h | ⟨o, h⟩) | h
  · exact .inl (.inl (s _ _ h))
  · exact .inl (.inr ⟨o, s _ _ h⟩)
  · exact .inr h
/-- what is written over is no tuple -/
def NT : Option HO → Prop
  | some (.tup _) => False
  | some (.frz _ _) => False
  | _ => True
theorem Tle.upd (h : NT (H l)) : Tle K H (upd H l o) := fun a xs q => by
  rcases q with (q | ⟨ob, q⟩) | q
  · have n : a ≠ l := fun e => by subst e; rw [q] at h; exact h
    exact .inl (.inl (by rw [upd_ne n]; exact q))
  · have n : a ≠ l := fun e => by subst e; rw [q] at h; exact h
    exact .inl (.inr ⟨ob, by rw [upd_ne n]; exact q⟩)
  · exact .inr q
theorem Tle.new (h : H l = none) : Tle K H (L2.upd H l o) := Tle.upd (by rw [h]; trivial)
theorem Tle.lst {xs : List V} (h : H l = some (.lst xs)) : Tle K H (L2.upd H l o) := Tle.upd (by rw [h]; trivial)
theorem _root_.L2.Same.new (s : Same H0 H) (h : H l = none) : Same H0 (upd H l o) := fun b u e => by rw [upd_ne (ne_of_none (s _ _ e) h)]; exact s _ _ e
theorem _root_.L2.Same.new0 (h : H l = none) : Same H (upd H l o) := Same.new (Same.refl H) h
theorem _root_.L2.Same.wr (s : Same H0 H) (h : H0 l = none) : Same H0 (upd H l o) := fun b u e => by
  have n : b ≠ l := fun q => by subst q; rw [h] at e; cases e
  rw [upd_ne n]; exact s _ _ e

mutual
theorem Rp.mono (t : Tle K H H') : ∀ (d : PyData) (v : V), Rp K H v d → Rp K H' v d
  | .none, _, h => by cases h; exact .non
  | .bool b, _, h => by cases h; exact .bl b
  | .int i, _, h => by cases h; exact .int i
  | .str x, _, h => by cases h; exact .str x
  | .tuple ds, _, h => by
    cases h with
    | tup hs ha => exact .tup (t _ _ hs) (RpAll.mono t ds _ ha)
  | .list _, _, h => by cases h
  | .dict _, _, h => by cases h
theorem RpAll.mono (t : Tle K H H') : ∀ (ds : List PyData) (vs : List V), RpAll K H vs ds → RpAll K H' vs ds
  | [], _, h => by cases h; exact .nil
  | d :: ds, _, h => by
    cases h with
    | cons h1 h2 => exact .cons (Rp.mono t d _ h1) (RpAll.mono t ds _ h2)
end
theorem Rp.tle (h : Rp K H v d) (t : Tle K H H') : Rp K H' v d := Rp.mono t d v h
theorem RpAll.tle (h : RpAll K H vs ds) (t : Tle K H H') : RpAll K H' vs ds := RpAll.mono t ds vs h
theorem Rp.sm (h : Rp K H v d) (t : Same H H') : Rp K H' v d := Rp.mono (Tle.same t) d v h
theorem RpAll.sm (h : RpAll K H vs ds) (t : Same H H') : RpAll K H' vs ds := RpAll.mono (Tle.same t) ds vs h

mutual
theorem Rp.dp : ∀ (d : PyData) (v : V), Rp K H v d → Dp K H v d
  | .none, _, h => by cases h; exact .non
  | .bool b, _, h => by cases h; exact .bl b
  | .int i, _, h => by cases h; exact .int i
  | .str x, _, h => by cases h; exact .str x
  | .tuple ds, _, h => by
    cases h with
    | tup hs ha => exact .tup hs (RpAll.dp ds _ ha)
  | .list _, _, h => by cases h
  | .dict _, _, h => by cases h
theorem RpAll.dp : ∀ (ds : List PyData) (vs : List V), RpAll K H vs ds → DpAll K H vs ds
  | [], _, h => by cases h; exact .nil
  | d :: ds, _, h => by
    cases h with
    | cons h1 h2 => exact .cons (Rp.dp d _ h1) (RpAll.dp ds _ h2)
end
theorem Rp.toInt {i : Int} (h : Rp K H v (.int i)) : v = .int i := by cases h; rfl
theorem Rp.toStr {x : Str} (h : Rp K H v (.str x)) : v = .str x := by cases h; rfl
theorem Rp.toBl {b : Bool} (h : Rp K H v (.bool b)) : v = .bl b := by cases h; rfl
theorem Rp.toNon (h : Rp K H v .none) : v = .non := by cases h; rfl
theorem Rp.toTup (h : Rp K H v (.tuple ds)) : ∃ a xs, v = .ref a ∧ SqT K H a xs ∧ RpAll K H xs ds := by
  cases h with
  | tup hs ha => exact ⟨_, _, rfl, hs, ha⟩
theorem RpAll.length : ∀ {ds : List PyData} {vs : List V}, RpAll K H vs ds → vs.length = ds.length
  | [], _, h => by cases h; rfl
  | _ :: ds, _, h => by cases h with | cons _ h2 => exact congrArg (· + 1) (RpAll.length h2)
theorem RpAll.get : ∀ {ds : List PyData} {vs : List V} {i : Nat} {d : PyData}, RpAll K H vs ds → ds[i]? = some d → ∃ v, vs[i]? = some v ∧ Rp K H v d
  | [], _, i, d, _, e => by simp at e
  | x :: ds, _, 0, d, h, e => by
    cases h with
    | cons h1 h2 =>
      have : x = d := by simpa using e
      subst this
      exact ⟨_, rfl, h1⟩
  | x :: ds, _, i + 1, d, h, e => by
    cases h with
    | cons h1 h2 =>
      obtain ⟨v, e1, r⟩ := RpAll.get (i := i) h2 (by simpa using e)
      exact ⟨v, by simpa using e1, r⟩
theorem RpAll.get' : ∀ {ds : List PyData} {vs : List V} {i : Nat} {v : V}, RpAll K H vs ds → vs[i]? = some v → ∃ d, ds[i]? = some d ∧ Rp K H v d
  | _, [], i, d, _, e => by simp at e
  | _, x :: vs, 0, v, h, e => by
    cases h with
    | cons h1 h2 =>
      have : x = v := by simpa using e
      subst this
      exact ⟨_, rfl, h1⟩
  | _, x :: vs, i + 1, v, h, e => by
    cases h with
    | cons h1 h2 =>
      obtain ⟨d, e1, r⟩ := RpAll.get' (i := i) h2 (by simpa using e)
      exact ⟨d, by simpa using e1, r⟩
theorem RpAll.app : ∀ {ds : List PyData} {vs : List V} {es : List PyData} {ws : List V}, RpAll K H vs ds → RpAll K H ws es → RpAll K H (vs ++ ws) (ds ++ es)
  | [], _, _, _, h, q => by cases h; exact q
  | _ :: _, _, _, _, h, q => by cases h with | cons h1 h2 => exact .cons h1 (RpAll.app h2 q)
theorem RpAll.snoc (h : RpAll K H vs ds) (q : Rp K H v d) : RpAll K H (vs ++ [v]) (ds ++ [d]) := h.app (.cons q .nil)
theorem RpAll.drop : ∀ {ds : List PyData} {vs : List V} (n : Nat), RpAll K H vs ds → RpAll K H (vs.drop n) (ds.drop n)
  | _, _, 0, h => by simpa using h
  | [], _, n + 1, h => by cases h; simpa using RpAll.nil
  | _ :: _, _, n + 1, h => by cases h with | cons _ h2 => simpa using RpAll.drop n h2
theorem RpAll.take : ∀ {ds : List PyData} {vs : List V} (n : Nat), RpAll K H vs ds → RpAll K H (vs.take n) (ds.take n)
  | _, _, 0, h => by simpa using RpAll.nil
  | [], _, n + 1, h => by cases h; simpa using RpAll.nil
  | _ :: _, _, n + 1, h => by cases h with | cons h1 h2 => simpa using RpAll.cons h1 (RpAll.take n h2)
theorem RpAll.set : ∀ {ds : List PyData} {vs : List V} (n : Nat), RpAll K H vs ds → Rp K H v d → RpAll K H (vs.set n v) (ds.set n d)
  | [], _, _, h, _ => by cases h; simpa using RpAll.nil
  | _ :: _, _, 0, h, q => by cases h with | cons _ h2 => simpa using RpAll.cons q h2
  | _ :: _, _, n + 1, h, q => by cases h with | cons h1 h2 => simpa using RpAll.cons h1 (RpAll.set n h2 q)
theorem RpAll.rev : ∀ {ds : List PyData} {vs : List V}, RpAll K H vs ds → RpAll K H vs.reverse ds.reverse
  | [], _, h => by cases h; exact .nil
  | _ :: _, _, h => by cases h with | cons h1 h2 => rw [List.reverse_cons, List.reverse_cons]; exact (RpAll.rev h2).snoc h1
theorem RpAll.int : ∀ {ns : List Int} {vs : List V}, RpAll K H vs (ns.map .int) → vs = ns.map V.int
  | [], _, h => by cases h; rfl
  | n :: ns, _, h => by cases h with | cons h1 h2 => rw [h1.toInt, RpAll.int h2]; rfl
theorem RpAll.ofInt (K : PySem.W.Frag) (H : Hp) : ∀ (ns : List Int), RpAll K H (ns.map V.int) (ns.map .int)
  | [] => .nil
  | n :: ns => .cons (.int n) (RpAll.ofInt K H ns)
theorem RpAll.str : ∀ {ns : List Str} {vs : List V}, RpAll K H vs (ns.map .str) → vs = ns.map V.str
  | [], _, h => by cases h; rfl
  | n :: ns, _, h => by cases h with | cons h1 h2 => rw [h1.toStr, RpAll.str h2]; rfl
theorem RpAll.ofStr (K : PySem.W.Frag) (H : Hp) : ∀ (ns : List Str), RpAll K H (ns.map V.str) (ns.map .str)
  | [] => .nil
  | n :: ns => .cons (.str n) (RpAll.ofStr K H ns)
/-- a new tuple -/
theorem Rp.newT (h : H l = none) (q : RpAll K H vs ds) : Rp K (upd H l (.tup vs)) (.ref l) (.tuple ds) := .tup (SqT.of upd_same) (q.tle (Tle.new h))
end

section
variable {X : Cx}
theorem IxR.imp {r r' : R2} (h : IxR X r) (hi : ∀ x y H Q, r' x y H Q → r x y H Q) : IxR X r' := fun value slice pins s σ H x y v u Q I rx ry q hs => h value slice pins s σ H x y v u Q I rx ry (hi _ _ _ _ q) hs
theorem OpR.imp {f : Value → Value → Sem Value} {r r' : R2} (h : OpR X f r) (hi : ∀ x y H Q, r' x y H Q → r x y H Q) : OpR X f r' := fun pins s σ H x y v u Q I rx ry q => h pins s σ H x y v u Q I rx ry (hi _ _ _ _ q)
theorem CallR.imp {f : Value} {r r' : List V → Hp → VK → Prop} (h : CallR X f r) (hi : ∀ xs H Q, r' xs H Q → r xs H Q) : CallR X f r' := fun pins s σ H xs us Q I rx q => h pins s σ H xs us Q I rx (hi _ _ _ q)
/-- t[i] of a tuple that stands for a datum -/
def rIxD (K : PySem.W.Frag) : R2 := fun x y H Q => ∃ ds i d, Rp K H x (.tuple ds) ∧ y = .int i ∧ atI ds i = some d ∧ ∀ v, Rp K H v d → Q v H
theorem atI_lift {α β : Type} {xs : List α} {ys : List β} (hl : xs.length = ys.length) {i : Int} {d : β} (h : atI ys i = some d) : ∃ j : Nat, ys[j]? = some d ∧ atI xs i = xs[j]? := by
  unfold atI at h ⊢
  rw [hl]
  cases e : ixN ys.length i with
  | none => rw [e] at h; cases h
  | some j => rw [e] at h; exact ⟨j, h, rfl⟩
theorem ix_D : IxR X (rIxD X.K) := IxR.imp ix_tup fun x y H Q h => by
  obtain ⟨ds, i, d, hx, rfl, hd, q⟩ := h
  obtain ⟨a, xs, rfl, hs, ha⟩ := hx.toTup
  obtain ⟨j, e1, e2⟩ := atI_lift ha.length hd
  obtain ⟨w, e3, r⟩ := ha.get e1
  exact ⟨a, xs, i, w, rfl, rfl, hs, e2.trans e3, q w r⟩
/-- xs[i] of a list of data that stands in H -/
def rIxLD (K : PySem.W.Frag) : R2 := fun x y H Q => ∃ l vs ds i d, x = .ref l ∧ y = .int i ∧ SqL K H l vs ∧ RpAll K H vs ds ∧ atI ds i = some d ∧ ∀ v, Rp K H v d → Q v H
theorem ix_LD : IxR X (rIxLD X.K) := IxR.imp ix_list fun x y H Q h => by
  obtain ⟨l, vs, ds, i, d, rfl, rfl, hs, ha, hd, q⟩ := h
  obtain ⟨j, e1, e2⟩ := atI_lift ha.length hd
  obtain ⟨w, e3, r⟩ := ha.get e1
  exact ⟨l, vs, i, w, rfl, rfl, hs, e2.trans e3, q w r⟩
/-- a new tuple of data -/
def tTupD (K : PySem.W.Frag) (t : TA) : TE := fun σ H Q => t σ H fun vs H1 => vs.length ≤ sizeLine ∧ ∀ p, H1 p = none → Q (.ref p) (upd H1 p (.tup vs))
/-- t + u -/
def rCatD (K : PySem.W.Frag) : R2 := fun x y H Q => ∃ ds es, Rp K H x (.tuple ds) ∧ Rp K H y (.tuple es) ∧ ds.length + es.length ≤ sizeLine ∧ ∀ v H', Same H H' → Rp K H' v (.tuple (ds ++ es)) → Q v H'
theorem op_catD : OpR X (binaryOp .Add) (rCatD X.K) := by
  intro pins s σ H x y v u Q I rx ry h
  obtain ⟨ds, es, hx, hy, hz, q⟩ := h
  obtain ⟨a, xs, rfl, hs, ha⟩ := hx.toTup
  obtain ⟨b, ys, rfl, hs', hb⟩ := hy.toTup
  refine op_catA pins s σ H _ _ v u Q I rx ry ⟨a, b, xs, ys, rfl, rfl, hs, hs', by rw [ha.length, hb.length]; exact hz, fun e => ?_, fun _ e => ?_, fun _ _ p hp => ?_⟩
  · subst e
    cases ha
    exact q _ _ (Same.refl H) hy
  · subst e
    cases hb
    rw [List.append_nil] at q
    exact q _ _ (Same.refl H) hx
  · exact q _ _ (Same.new0 hp) (Rp.newT hp (ha.app hb))
/-- t[lo:hi] -/
def rSlD (K : PySem.W.Frag) : V → Option Int → Option Int → Hp → VK → Prop := fun x lo hi H Q => ∃ ds, Rp K H x (.tuple ds) ∧ ∀ v H', Same H H' → Rp K H' v (.tuple ((ds.drop (HT.sIx ds.length 0 lo)).take (HT.sIx ds.length ds.length hi - HT.sIx ds.length 0 lo))) → Q v H'
theorem sl_D : SlR X (rSlD X.K) := by
  intro pins s σ H x v vl vu lo hi sl Q I rx hs pl pu h
  obtain ⟨ds, hx, q⟩ := h
  obtain ⟨a, xs, rfl, hq, ha⟩ := hx.toTup
  have el := ha.length
  refine sl_tupA pins s σ H _ v vl vu lo hi sl Q I rx hs pl pu ⟨a, xs, rfl, hq, fun hw => ?_, fun _ p hp => ?_⟩
  · rw [el] at hw
    rw [hw.1, hw.2] at q
    refine q _ _ (Same.refl H) ?_
    simpa using hx
  · refine q _ _ (Same.new0 hp) (Rp.newT hp ?_)
    unfold cutV
    rw [el]
    exact (ha.drop _).take _
/-- len(t) -/
theorem call_lenD' : CallR X (.builtin "len") (fun xs H Q => ∃ x ds, xs = [x] ∧ Rp X.K H x (.tuple ds) ∧ Q (.int ds.length) H) := by
  intro pins s σ H xs us Q I r h
  obtain ⟨x, ds, rfl, hx, q⟩ := h
  obtain ⟨a, ys, rfl, hq, ha⟩ := hx.toTup
  exact call_len_seq pins s σ H _ us Q I r ⟨a, ys, rfl, .inr hq, by rw [ha.length]; exact q⟩
/-- a, b, .. = t -/
theorem gtup_D {K : PySem.W.Frag} {n : Nat} {t : TGs} {v : V} {σ : St} {H : Hp} {Q : St → Hp → Prop} {ds : List PyData} (h : Rp K H v (.tuple ds)) (hn : ds.length = n) (q : ∀ xs, RpAll K H xs ds → t xs σ H Q) : gTup K n t v σ H Q := by
  obtain ⟨a, xs, rfl, hq, ha⟩ := h.toTup
  exact ⟨a, xs, rfl, hq, ha.length.trans hn, q xs ha⟩
/-- for x in t -/
theorem for_D {K : PySem.W.Frag} {v : V} {ds : List PyData} {g : TG} {tb : TS} {D : Ends} {σ : St} {H : Hp} (Pv : Nat → St → Hp → Prop) (hx : Rp K H v (.tuple ds)) (h0 : Pv 0 σ H) (ht : ∀ i σ' H', Pv i σ' H' → Tle K H H')
    (hs : ∀ i x d σ' H', ds[i]? = some d → Rp K H' x d → Pv i σ' H' → g x σ' H' fun σ2 H2 => tb { D with nx := Pv (i + 1), ct := Pv (i + 1), bk := D.nx } σ2 H2) (hd : ∀ σ' H', Pv ds.length σ' H' → D.nx σ' H') :
    ∃ a, v = .ref a ∧ (∃ xs, SqT K H a xs) ∧ ∃ W : Nat → Nat → St → Hp → Prop, (∃ m, W 0 m σ H) ∧ ∀ i m σ H, W i m σ H →
      ((Itt K a).stop i H ∧ D.nx σ H) ∨ ((Itt K a).go i H ∧ ∃ N : St → Hp → Prop, (∀ σ' H', N σ' H' → ∃ m', m' < m ∧ W (i + 1) m' σ' H') ∧ ∀ x H', (Itt K a).yld i H x H' → g x σ H' fun σ2 H2 => tb { D with nx := N, ct := N, bk := D.nx } σ2 H2) := by
  obtain ⟨a, xs, rfl, hq, ha⟩ := hx.toTup
  refine ⟨a, rfl, ⟨xs, hq⟩, for_tup (xs := xs) Pv h0 (fun i σ' H' _ p => ht i σ' H' p a xs hq) (fun i x σ' H' e p => ?_) (fun σ' H' p => hd σ' H' (by rw [← ha.length]; exact p))⟩
  obtain ⟨d, e1, r⟩ := (ha.tle (ht i σ' H' p)).get' e
  exact hs i x d σ' H' e1 r p
/-- for x in xs, xs a list of data at l -/
theorem for_LD {K : PySem.W.Frag} {l : Addr} {vs : List V} {ds : List PyData} {g : TG} {tb : TS} {D : Ends} {σ : St} {H : Hp} (Pv : Nat → St → Hp → Prop) (hq : SqL K H l vs) (ha : RpAll K H vs ds) (h0 : Pv 0 σ H)
    (hl : ∀ i σ' H', Pv i σ' H' → SqL K H' l vs ∧ Tle K H H')
    (hs : ∀ i x d σ' H', ds[i]? = some d → Rp K H' x d → Pv i σ' H' → g x σ' H' fun σ2 H2 => tb { D with nx := Pv (i + 1), ct := Pv (i + 1), bk := D.nx } σ2 H2) (hd : ∀ σ' H', Pv ds.length σ' H' → D.nx σ' H') :
    ∃ a, V.ref l = .ref a ∧ (∃ xs, SqL K H a xs) ∧ ∃ W : Nat → Nat → St → Hp → Prop, (∃ m, W 0 m σ H) ∧ ∀ i m σ H, W i m σ H →
      ((Itl K a).stop i H ∧ D.nx σ H) ∨ ((Itl K a).go i H ∧ ∃ N : St → Hp → Prop, (∀ σ' H', N σ' H' → ∃ m', m' < m ∧ W (i + 1) m' σ' H') ∧ ∀ x H', (Itl K a).yld i H x H' → g x σ H' fun σ2 H2 => tb { D with nx := N, ct := N, bk := D.nx } σ2 H2) := by
  refine ⟨l, rfl, ⟨vs, hq⟩, for_list (xs := vs) Pv h0 (fun i σ' H' _ p => (hl i σ' H' p).1) (fun i x σ' H' e p => ?_) (fun σ' H' p => hd σ' H' (by rw [← ha.length]; exact p))⟩
  obtain ⟨d, e1, r⟩ := (ha.tle (hl i σ' H' p).2).get' e
  exact hs i x d σ' H' e1 r p
end
end Ev

-- part EvM
set_option maxHeartbeats 400000
set_option Elab.async false
set_option linter.all false
set_option maxRecDepth 100000
/-! Comprehensions over data; defs of the text, bundled; calls of them. -/
namespace Ev
open PySem L2

section
variable {K : PySem.W.Frag}
theorem sizeLine_small {n : Nat} (h : n < 16777216) : n < sizeLine := by rw [sizeLine_eq]; exact h
theorem sizeLine_le {n : Nat} (h : n ≤ 16777216) : n ≤ sizeLine := by rw [sizeLine_eq]; exact h
theorem filterMap_take {α β : Type} {f : α → Option β} {ds : List α} {i : Nat} {d : α} (e : ds[i]? = some d) : (ds.take (i + 1)).filterMap f = (ds.take i).filterMap f ++ (f d).toList := by
  rw [List.take_add_one, e]
  simp only [Option.toList_some, List.filterMap_append, List.filterMap_cons, List.filterMap_nil]
  cases f d <;> rfl
theorem lc_core_D {ds : List PyData} {vs : List V} {g : TG} {tt : TT} {te : TE} {ix : List Nat} {σ : St} {H1 : Hp} {D : Addr} (f : PyData → Option PyData) (hD : H1 D = none) (hz : ds.length < 16777216)
    (body : ∀ (x : V) (d : PyData) (H' : Hp) (C : V → Hp → Prop) (N : Hp → Prop), d ∈ ds → Rp K H' x d → Same H1 H' → (∀ y H4 e, f d = some e → Rp K H4 y e → Same H' H4 → C y H4) → (f d = none → ∀ H3, Same H' H3 → N H3) →
      g x (wipe σ ix) H' fun σ2 H2 => wipe σ2 ix = wipe σ ix ∧ tt σ2 H2 fun b H3 => if b = true then te σ2 H3 C else N H3)
    (ha : RpAll K H1 vs ds) :
    ∃ Pv : Nat → Hp → Prop, Pv 0 (upd H1 D (.lst [])) ∧ (∀ i H, Pv i H → Same H1 H) ∧ (∀ i x H, vs[i]? = some x → Pv i H → g x (wipe σ ix) H fun σ2 H2 => wipe σ2 ix = wipe σ ix ∧ tt σ2 H2 fun b H3 =>
      if b = true then te σ2 H3 fun y H4 => ∃ acc, H4 D = some (.lst acc) ∧ acc.length < sizeLine ∧ Pv (i + 1) (upd H4 D (.lst (acc ++ [y]))) else Pv (i + 1) H3) ∧
      ∀ H, Pv vs.length H → Same H1 H ∧ ∃ acc, H D = some (.lst acc) ∧ RpAll K H acc (ds.filterMap f) := by
  refine ⟨fun i H => Same H1 H ∧ ∃ acc, H D = some (.lst acc) ∧ acc.length ≤ i ∧ RpAll K H acc ((ds.take i).filterMap f), ⟨Same.new0 hD, [], upd_same, Nat.le_refl _, by simpa using RpAll.nil⟩, fun i H p => p.1, ?_, ?_⟩
  · rintro i x H e ⟨s, acc, hacc, hl, hr⟩
    obtain ⟨d, e1, r⟩ := (ha.sm s).get' e
    have hi : i < ds.length := (List.getElem?_eq_some_iff.mp e1).1
    refine body x d H _ _ (List.mem_of_getElem? e1) r s (fun y H4 ev hf ry s4 => ?_) (fun hf H3 s3 => ?_)
    · have h4 := s4 _ _ hacc
      have st : Same H1 H4 := s.trans s4
      refine ⟨acc, h4, sizeLine_small (by omega), st.wr hD, acc ++ [y], upd_same, by simp; omega, ?_⟩
      rw [filterMap_take e1, hf]
      exact ((hr.sm s4).snoc ry).tle (Tle.lst h4)
    · refine ⟨s.trans s3, acc, s3 _ _ hacc, by omega, ?_⟩
      rw [filterMap_take e1, hf]
      simpa using hr.sm s3
  · rintro H ⟨s, acc, hacc, _, hr⟩
    refine ⟨s, acc, hacc, ?_⟩
    rw [ha.length, List.take_length] at hr
    exact hr
/-- [elt for x in t if ..], t a tuple of data -/
theorem lc_D {v : V} {ds : List PyData} {g : TG} {tt : TT} {te : TE} {ix : List Nat} {σ : St} {H1 : Hp} {Q : Addr → Hp → Prop} (f : PyData → Option PyData) (hx : Rp K H1 v (.tuple ds)) (hz : ds.length < 16777216)
    (body : ∀ (x : V) (d : PyData) (H' : Hp) (C : V → Hp → Prop) (N : Hp → Prop), d ∈ ds → Rp K H' x d → Same H1 H' → (∀ y H4 e, f d = some e → Rp K H4 y e → Same H' H4 → C y H4) → (f d = none → ∀ H3, Same H' H3 → N H3) →
      g x (wipe σ ix) H' fun σ2 H2 => wipe σ2 ix = wipe σ ix ∧ tt σ2 H2 fun b H3 => if b = true then te σ2 H3 C else N H3)
    (done : ∀ l acc H', H1 l = none → Same H1 H' → H' l = some (.lst acc) → RpAll K H' acc (ds.filterMap f) → Q l H') :
    ∃ a, v = .ref a ∧ (∃ xs, SqT K H1 a xs) ∧ ∀ D, H1 D = none → ∃ W : Nat → Nat → Hp → Prop, (∃ m, W 0 m (upd H1 D (.lst []))) ∧ ∀ i m H, W i m H →
      ((Itt K a).stop i H ∧ Q D H) ∨ ((Itt K a).go i H ∧ ∃ Nx : Hp → Prop, (∀ H', Nx H' → ∃ m', m' < m ∧ W (i + 1) m' H') ∧ ∀ x H', (Itt K a).yld i H x H' → g x (wipe σ ix) H' fun σ2 H2 => wipe σ2 ix = wipe σ ix ∧ tt σ2 H2 fun b H3 =>
        if b = true then te σ2 H3 fun y H4 => ∃ acc, H4 D = some (.lst acc) ∧ acc.length < sizeLine ∧ Nx (upd H4 D (.lst (acc ++ [y]))) else Nx H3) := by
  obtain ⟨a, xs, rfl, hq, ha⟩ := hx.toTup
  refine ⟨a, rfl, ⟨xs, hq⟩, fun D hD => ?_⟩
  obtain ⟨Pv, p0, ps, pt, pd⟩ := lc_core_D (K := K) (tt := tt) (te := te) f hD hz body ha
  refine lc_tup (xs := xs) Pv p0 (fun i H _ p => Tle.same (ps i H p) a xs hq) pt fun H p => ?_
  obtain ⟨s, acc, h1, h2⟩ := pd H p
  exact done D acc H hD s h1 h2
/-- .. l a list of data -/
theorem lc_LD {l : Addr} {vs : List V} {ds : List PyData} {g : TG} {tt : TT} {te : TE} {ix : List Nat} {σ : St} {H1 : Hp} {Q : Addr → Hp → Prop} (f : PyData → Option PyData) (hq : SqL K H1 l vs) (ha : RpAll K H1 vs ds) (hz : ds.length < 16777216)
    (body : ∀ (x : V) (d : PyData) (H' : Hp) (C : V → Hp → Prop) (N : Hp → Prop), d ∈ ds → Rp K H' x d → Same H1 H' → (∀ y H4 e, f d = some e → Rp K H4 y e → Same H' H4 → C y H4) → (f d = none → ∀ H3, Same H' H3 → N H3) →
      g x (wipe σ ix) H' fun σ2 H2 => wipe σ2 ix = wipe σ ix ∧ tt σ2 H2 fun b H3 => if b = true then te σ2 H3 C else N H3)
    (done : ∀ l acc H', H1 l = none → Same H1 H' → H' l = some (.lst acc) → RpAll K H' acc (ds.filterMap f) → Q l H') :
    ∃ a, V.ref l = .ref a ∧ (∃ xs, SqL K H1 a xs) ∧ ∀ D, H1 D = none → ∃ W : Nat → Nat → Hp → Prop, (∃ m, W 0 m (upd H1 D (.lst []))) ∧ ∀ i m H, W i m H →
      ((Itl K a).stop i H ∧ Q D H) ∨ ((Itl K a).go i H ∧ ∃ Nx : Hp → Prop, (∀ H', Nx H' → ∃ m', m' < m ∧ W (i + 1) m' H') ∧ ∀ x H', (Itl K a).yld i H x H' → g x (wipe σ ix) H' fun σ2 H2 => wipe σ2 ix = wipe σ ix ∧ tt σ2 H2 fun b H3 =>
        if b = true then te σ2 H3 fun y H4 => ∃ acc, H4 D = some (.lst acc) ∧ acc.length < sizeLine ∧ Nx (upd H4 D (.lst (acc ++ [y]))) else Nx H3) := by
  refine ⟨l, rfl, ⟨vs, hq⟩, fun D hD => ?_⟩
  obtain ⟨Pv, p0, ps, pt, pd⟩ := lc_core_D (K := K) (tt := tt) (te := te) f hD hz body ha
  refine lc_list (xs := vs) Pv p0 (fun i H _ p => (ps i H p).seq hq) pt fun H p => ?_
  obtain ⟨s, acc, h1, h2⟩ := pd H p
  exact done D acc H hD s h1 h2
end

/-! ### rules with the written part told (within a comprehension) -/
section
variable {X : Cx} {K : PySem.W.Frag}
theorem ix_DK (h : X.K = K) : IxR X (rIxD K) := h ▸ ix_D
theorem ix_LDK (h : X.K = K) : IxR X (rIxLD K) := h ▸ ix_LD
theorem sl_DK (h : X.K = K) : SlR X (rSlD K) := h ▸ sl_D
theorem call_lenDK (h : X.K = K) : CallR X (.builtin "len") (fun xs H Q => ∃ x ds, xs = [x] ∧ Rp K H x (.tuple ds) ∧ Q (.int ds.length) H) := h ▸ call_lenD'
end
/-! ### what is new, without its place -/
section
variable {X : Cx} {es : List Expr} {t : TA} {pos : Pos}
def tTupN (K : PySem.W.Frag) (t : TA) : TE := fun σ H Q => t σ H fun vs H1 => ∃ ds, RpAll K H1 vs ds ∧ ds.length < 1000 ∧ ∀ v H2, Same H1 H2 → Rp K H2 v (.tuple ds) → Q v H2
theorem pe_tupN {x1} (h : PA X es t) : PE X (.Tuple es x1 pos) (tTupN X.K t) := ⟨fun pins s σ H Q I hq => by
  refine wpAny_Tuple_spliced (thn (h.run pos pins s σ H _ I hq) fun us s1 z => ?_)
  obtain ⟨ys, G, I1, r, ds, ra, hz, q⟩ := z
  have hl : ys.length ≤ sizeLine := by rw [ra.length]; exact Nat.le_trans (Nat.le_of_lt hz) (by decide)
  refine ⟨by rw [← r.length]; exact hl, ?_⟩
  have hf : G s1.heap.objs.size = none := I1.hok.fresh (Nat.le_refl _)
  have I2 : Inv X pins σ (upd G s1.heap.objs.size (.tup ys)) { s1 with heap := s1.heap.push { cls := .type "tuple", data := .seq us.toArray } } :=
    I1.laid (t' := s1.toks) (fun b u e => Heap.get?_push_of_some _ e) (Nat.le_refl _) ⟨hl, us, r, ⟨_, Heap.get?_push_size _ rfl, rfl, _, rfl⟩⟩
  exact ⟨.ref s1.heap.objs.size, _, I2, rfl, q _ _ (Same.new0 hf) (Rp.newT hf ra)⟩⟩
/-- tuple(xs) of a list of data -/
theorem call_tuple_N : CallR X (.type "tuple") (fun xs H Q => ∃ l vs ds, xs = [.ref l] ∧ SqL X.K H l vs ∧ RpAll X.K H vs ds ∧ ∀ v H2, Same H H2 → Rp X.K H2 v (.tuple ds) → Q v H2) := CallR.imp call_tuple_of fun xs H Q h => by
  obtain ⟨l, vs, ds, e, hs, ra, q⟩ := h
  exact ⟨l, vs, e, .inl ⟨hs, fun p hp => q _ _ (Same.new0 hp) (Rp.newT hp ra)⟩⟩
/-- list(t) of a tuple of data -/
theorem call_list_N : CallR X (.type "list") (fun xs H Q => ∃ x ds, xs = [x] ∧ Rp X.K H x (.tuple ds) ∧ ∀ l vs H2, H l = none → Same H H2 → H2 l = some (.lst vs) → RpAll X.K H2 vs ds → Q (.ref l) H2) := CallR.imp call_list_of fun xs H Q h => by
  obtain ⟨x, ds, e, hx, q⟩ := h
  obtain ⟨a, vs, rfl, hs, ha⟩ := hx.toTup
  exact ⟨a, vs, e, .inr hs, fun l hl => q l vs _ hl (Same.new0 hl) upd_same (ha.sm (Same.new0 hl))⟩
end
/-! ### defs of the text -/
/-- the def st stands as x of the module -/
def Def (K : PySem.W.Frag) (mg : Str → Option Value) (x : Str) (st : Stmt) (ps : List Str) : Prop := ∃ f fd, Fun K x x st f fd ∧ mg x = some (.ref f) ∧ Binds K fd ps []
/-- .. and keeps a promise -/
def Cal (P : Program) (w : World) (K : PySem.W.Frag) (mg : Str → Option Value) (base : Heap) (k : Nat) (x : Str) (ps : List Str) (sp : Sp) : Prop :=
  ∃ f fd, FnOk P w K mg base CX0 k f fd ps sp ∧ mg x = some (.ref f) ∧ PySem.W.keepIn K (.ref f) = true ∧ Binds K fd ps []
section
variable {P : Program} {w : World} {K : PySem.W.Frag} {mg : Str → Option Value} {base : Heap}
theorem Def.ok {x : Str} {st : Stmt} {ps N : List Str} {k : Nat} {sp : Sp} (D : Def K mg x st ps) (S : FnScope N ps (defScope st)) (len : ∀ vs H Q E, sp vs H Q E → vs.length = ps.length)
    (hbody : ∀ (f : Addr) (cdv : Value) (A : Around) (outer : List Env) (s : Shared) (H : Hp) (vs : List V) (Q : VK) (E : XK), Room k (A.deeper (PyProof.Rows.envOfC x (defScope st) s.heap.objs.size f cdv)) → sp vs H Q E →
      ∃ t, PSs (cxOf CX0 P w K mg base N x (defScope st) f cdv A outer s H E).nox (defBody st) t ∧ t { nx := fun _ H' => Q .non H', rt := Q } (start N vs) H) : Cal P w K mg base (k + 1) x ps sp := by
  obtain ⟨f, fd, F, m, b⟩ := D
  exact ⟨f, fd, F.ok S len (hbody f), m, F.kp, b⟩
theorem Cal.mono {j k : Nat} {x : Str} {ps : List Str} {sp : Sp} (C : Cal P w K mg base j x ps sp) (h : j ≤ k) : Cal P w K mg base k x ps sp := by
  obtain ⟨f, fd, F, m, kp, b⟩ := C
  exact ⟨f, fd, F.mono h, m, kp, b⟩
theorem Cal.imp {k : Nat} {x : Str} {ps : List Str} {sp sp' : Sp} (C : Cal P w K mg base k x ps sp) (h : ∀ vs H Q E, sp' vs H Q E → sp vs H Q E) : Cal P w K mg base k x ps sp' := by
  obtain ⟨f, fd, F, m, kp, b⟩ := C
  exact ⟨f, fd, F.imp h, m, kp, b⟩
end
section
variable {X : Cx} {k : Nat} {x : Str} {ps : List Str} {sp : Sp} {e : Expr} {es : List Expr} {t : TA} {p pos : Pos}
theorem pe_own (C : Cal X.prog X.w X.K X.mg X.base k x ps sp) (hr : Room k X.A) (hg : Gl X x) (ha : PA X (e :: es) t) (hd : (x == ("__debug__" : Str)) = false := by decide) (he : starEach (e :: es) X.env = (false, eval e X.env) :: starEach es X.env := by rfl) (hpl : (backTo pos (starEach es X.env)).any (·.1) = false := by rfl) : PE X (.Call (.Name x p) (e :: es) [] pos) (tCall sp [] E0 t) := by
  obtain ⟨f, fd, F, m, kp, b⟩ := C
  exact pe_call F hr hg m kp b .nil pass0 ha hd he hpl
theorem pe_own0 (C : Cal X.prog X.w X.K X.mg X.base k x ps sp) (hr : Room k X.A) (hg : Gl X x) (hd : (x == ("__debug__" : Str)) = false := by decide) : PE X (.Call (.Name x p) [] [] pos) (tCall sp [] E0 tNil) := by
  obtain ⟨f, fd, F, m, kp, b⟩ := C
  exact pe_call0 F hr hg m kp b .nil pass0 hd
/-- a promise about data alone: what is handed in, what comes back; all that stood stands -/
def spR (K : PySem.W.Frag) (P : List PyData → PyData → Prop) : Sp := fun vs H Q _ => ∃ ds d, RpAll K H vs ds ∧ P ds d ∧ ∀ H' v, Same H H' → Rp K H' v d → Q v H'
/-- .. a new list comes back -/
def spL (K : PySem.W.Frag) (P : List PyData → List PyData → Prop) : Sp := fun vs H Q _ => ∃ ds es, RpAll K H vs ds ∧ P ds es ∧ ∀ H' l xs, Same H H' → H l = none → H' l = some (.lst xs) → RpAll K H' xs es → Q (.ref l) H'
/-- .. a bool -/
theorem RpAll.len_of {K : PySem.W.Frag} {H : Hp} {vs : List V} {ds : List PyData} {n : Nat} (h : RpAll K H vs ds) (e : ds.length = n) : vs.length = n := h.length.trans e
end
end Ev

-- part EvN
set_option maxHeartbeats 400000
set_option Elab.async false
set_option linter.all false
set_option maxRecDepth 100000
/-! A new tuple that is known to have no dict of its own: its method index. -/
namespace Ev
open PySem L2 PyProof.Rows
def TupX (l : Addr) (ys : List V) : HO := .ext fun h => ∃ (its : List Value), Vals ys its ∧ ys.length ≤ sizeLine ∧ h.get? l = some { cls := .type "tuple", data := .seq its.toArray }
section
variable {X : Cx}
theorem call_tuple_X : CallR X (.type "tuple") (fun xs H Q => ∃ p ys, xs = [.ref p] ∧ SqL X.K H p ys ∧ ∀ l, H l = none → Q (.ref l) (upd H l (TupX l ys))) := fun pins s σ H xs us Q I r h => by
  obtain ⟨p, ys, e, hq, q⟩ := h
  subst e
  obtain ⟨u, eu, rx⟩ := vals1 r
  subst eu
  cases rx
  obtain ⟨its, r', pl, hz⟩ := I.list hq
  have hn : its.length ≤ sizeLine := r'.length ▸ hz
  refine call_tuple_list pl.isList (fun h' kp => ?_) (by rw [List.size_toArray]; exact Nat.le_trans hn (Nat.le_refl _))
  have I1 : Inv X pins σ H { s with heap := h' } := I.kept (t' := s.toks) kp
  have new : (h'.push { cls := .type "tuple", data := .seq its.toArray }).get? h'.objs.size = some { cls := .type "tuple", data := .seq its.toArray } := Heap.get?_push_size _ rfl
  have o : ObjOk X.prog X.w (upd H h'.objs.size (TupX h'.objs.size ys)) (h'.push { cls := .type "tuple", data := .seq its.toArray }) h'.objs.size (TupX h'.objs.size ys) :=
    ⟨⟨its, r', hz, new⟩, ⟨_, new⟩, fun h1 h2 q k => by
      obtain ⟨j, a, b, c⟩ := q
      exact ⟨j, a, b, k _ c⟩⟩
  exact ⟨.ref h'.objs.size, _, I1.laid (t' := s.toks) (fun b ob z => Heap.get?_push_of_some _ z) (Nat.le_refl _) o, rfl, q _ (I1.hok.fresh (Nat.le_refl _))⟩
theorem tupX_get {pins : List (Addr × Obj)} {σ : L2.St} {H : Hp} {s : Shared} {l : Addr} {ys : List V} (I : Inv X pins σ H s) (h : H l = some (TupX l ys)) :
    (∃ its : List Value, s.heap.get? l = some { cls := .type "tuple", data := .seq its.toArray }) ∧ Inv X pins σ (upd H l (.tup ys)) s := by
  obtain ⟨⟨its, r, z, e⟩, _, _⟩ := I.hok l _ h
  refine ⟨⟨its, e⟩, ?_⟩
  have o : ObjOk X.prog X.w (upd H l (.tup ys)) s.heap l (.tup ys) := ⟨z, its, r, ⟨_, e, rfl, 0, rfl⟩⟩
  exact I.write (t' := s.toks) (by rw [h]; trivial) (.inl rfl) (fun _ _ _ q => q) ⟨_, e⟩ o
def tBMX (r : V → List V → Hp → VK → Prop) (to : TE) (t : TA) : TE := fun σ H Q => to σ H fun x H1 => ∃ p ys, x = .ref p ∧ H1 p = some (TupX p ys) ∧ t σ (upd H1 p (.tup ys)) fun xs H2 => r x xs H2 Q
theorem pe_bmX {o e : Expr} {es : List Expr} {to : TE} {t : TA} {name : Str} {apos cpos : Pos} {id : String} {r : V → List V → Hp → VK → Prop} (pa : PlainAttrs "tuple") (slot : Slot "tuple" name id) (hty : typeOf (.builtin id) = pure (.type "method_descriptor")) (hm : MtR X id r) (ho : PE X o to) (ha : PA X (e :: es) t)
    (h1 : attributeBase o name X.env (eval o X.env) = eval o X.env := by rfl)
    (h2 : ((backTo cpos (starEach (e :: es) X.env)).all (fun x => !x.1) && (backToKw cpos (keywordEach [] X.env)).all (fun x => x.1.isSome) && decide ((e :: es).length + ([] : List Keyword).length + (if ([] : List Keyword).isEmpty then 0 else 1) < 30)) = true := by rfl)
    (h3 : (apos.endLine == cpos.line) = true := by rfl) (h4 : starEach (e :: es) X.env = (false, eval e X.env) :: starEach es X.env := by rfl) (h5 : (backTo cpos (starEach es X.env)).any (·.1) = false := by rfl) :
    PE X (.Call (.Attribute o name apos) (e :: es) [] cpos) (tBMX r to t) := ⟨fun pins s σ H Q I h => by
  refine wpAny_Call_method_late h1 h2 h3 rfl (thn (ho.run pins s σ H _ I h) fun v s1 q1 => ?_)
  obtain ⟨x, H1, I1, r1, p, ys, ex, hx, q⟩ := q1
  subst ex
  obtain rfl : v = Value.ref p := r1
  obtain ⟨⟨its, ho'⟩, I2⟩ := tupX_get I1 hx
  refine ⟨"tuple", id, pa, slot, hty, ⟨_, ho', rfl⟩, fun a ea => ?_, ?_⟩
  · cases ea
    exact ⟨_, ho', rfl⟩
  · have hA := ha.run cpos pins s1 σ _ _ I2 q
    rw [h4] at hA ⊢
    refine Calls.callWith_builtin (by show (false || (backTo cpos (starEach es X.env)).any fun z => z.1) = false; rw [h5]; rfl) (Calls.evalArgs_plain ?_)
    exact thn hA fun us s2 ⟨vs, H2, I3, r2, q2⟩ => hm pins s2 σ H2 (.ref p) vs _ us Q I3 rfl r2 q2⟩
end
end Ev

-- part EvE
set_option maxHeartbeats 400000
set_option Elab.async false
set_option linter.all false
set_option maxRecDepth 100000
/-! What stands in Python for the mirror's data. -/
namespace Ev
open PySem L2

def Thg.s : Thg → Str
  | .m => "m" | .x => "x" | .w => "w" | .q => "q" | .y => "y" | .n => "n"
def Wd.s : Wd → Str
  | .range => "range" | .owner => "owner" | .check => "check"
def Md.s : Md → Str
  | .run => "run" | .wait => "wait" | .woken => "woken" | .over => "over"
def Rg.s : Rg → Str
  | .a => "a" | .b => "b"
abbrev D := PyData
def dI (n : Nat) : D := .int (n : Int)
def dS (x : Str) : D := .str x
def dT (l : List D) : D := .tuple l
def eRa : D := .tuple [.str "reg", .str "a"]
def eTr : Tr → D
  | .num n => .tuple [.str "num", .int n]
  | .ra => eRa
  | .inc => .tuple [.str "op", .str "+", eRa, .tuple [.str "num", .int 1]]
  | .less => .tuple [.str "op", .str "<", eRa, .tuple [.str "num", .int 2]]
/-- the word of an instruction -/
def In.k : In → Str
  | .lett _ => "let" | .get _ _ => "get" | .put _ _ => "put" | .add _ _ => "add" | .lock _ => "lock" | .unlock _ => "unlock" | .wait => "wait" | .notify => "notify"
  | .notifyall => "notifyall" | .send _ => "send" | .take => "take" | .check _ => "check" | .go _ _ => "go" | .beg => "begin" | .fin => "end"
def In.rest : In → List D
  | .lett t => [.str "a", eTr t]
  | .get r v => [.str r.s, .str v.g.s]
  | .put v t => [.str v.g.s, eTr t]
  | .add v t => [.str v.g.s, eTr t]
  | .lock l => [.str l.g.s]
  | .unlock l => [.str l.g.s]
  | .wait => [.str "w"]
  | .notify => [.str "w"]
  | .notifyall => [.str "w"]
  | .send t => [.str "q", eTr t]
  | .take => [.str "a", .str "q"]
  | .check t => [eTr t]
  | .go n t => [.int (n : Int), eTr t]
  | .beg => []
  | .fin => []
def eIn (i : In) : D := .tuple (.str i.k :: i.rest)
def things : List D := [.tuple [.str "lock", .str "m"], .tuple [.str "var", .str "x", .int 0], .tuple [.str "cond", .str "w", .str "m"], .tuple [.str "queue", .str "q", .int 1], .tuple [.str "var", .str "y", .int 1], .tuple [.str "lock", .str "n"]]
def eCode (c : List In) : D := .tuple (c.map eIn)
def eProg (p : Prog) : D := .tuple [.tuple things, .tuple (p.map eCode)]
def eOpt {α : Type} (f : α → D) : Option α → D
  | none => .none
  | some a => f a
def eWd (w : Option Wd) : D := eOpt (fun w => .str w.s) w
def eOwn (o : Option Nat) : D := eOpt dI o
def eRegs (t : Thr) : D := .tuple [.int t.a, .int t.b, .int 0, .int 0]
def eTS (t : Thr) : D := .tuple [.int (t.pc : Int), eRegs t, .str t.md.s, eWd t.wd]
def eSt (s : MS) : D := .tuple [.tuple [.int s.sh.x, .int s.sh.y], .tuple [eOwn s.sh.m, eOwn s.sh.n], .tuple [.tuple (s.sh.q.map .int)], .tuple [.tuple (s.sh.w.map dI)], .tuple (s.ts.map eTS)]
def eTo (l : List (Thg × Bool)) : D := .tuple (l.map fun z => .tuple [.str z.1.s, .bool z.2])
def eSp (e : Stp) : D := .tuple [.int (e.th : Int), .int (e.pc : Int), eTo e.to, eWd e.wd]
def eSch (S : List Nat) : D := .tuple (S.map dI)
def eRow (R : List Stp) : D := .tuple (R.map eSp)
def eEnt (e : Ent) : D := .tuple [eSch e.S, eRow e.R, eSt e.s]

theorem Thg.s_inj {a b : Thg} (h : a.s = b.s) : a = b := by
  revert h
  cases a <;> cases b <;> first | exact fun _ => rfl | (intro h; exact absurd h (by decide +kernel))
theorem Md.s_inj {a b : Md} (h : a.s = b.s) : a = b := by
  revert h
  cases a <;> cases b <;> first | exact fun _ => rfl | (intro h; exact absurd h (by decide +kernel))
theorem Thg.s_dec (a b : Thg) : decide (V.str a.s = V.str b.s) = decide (a = b) := by
  by_cases e : a = b
  · subst e; simp
  · rw [decide_eq_false e, decide_eq_false]
    intro q
    exact e (Thg.s_inj (V.str.inj q))

/-! ### the text -/
def top (i : Nat) : Stmt := PySem.Challenge.pw_everyturn_k46_whole_finds.main.body.getD i (.Pass ⟨0, 0, 0, 0⟩)
end Ev

-- part EvX
set_option maxHeartbeats 400000
set_option Elab.async false
set_option linter.all false
set_option maxRecDepth 100000
/-! What the top has written: where each def stands, the constants, the class Draft, the built-in names. (Printed by wip/gentxt.py.) -/
namespace Ev
open PySem L2
/-- a method of the class at C -/
def MDef (K : PySem.W.Frag) (C : Addr) (m qual : Str) (st : Stmt) (ps : List Str) : Prop := ∃ f fd, Fun K m qual st f fd ∧ Meth K C m f ∧ Binds K fd ps []
/-- a written dict of whole numbers by texts -/
def IsOptI : Option Int → Option Value → Prop
  | some i, r => ∃ t, r = some (.int i t)
  | none, r => r = none
def KTab (K : PySem.W.Frag) (w : World) (mg : Str → Option Value) (x : Str) (l : List (Str × Option Int)) : Prop := ∃ d es n, mg x = some (.ref d) ∧ KDict K w d es n ∧ ∀ p ∈ l, ∃ r, PySem.W.nsIn K d p.1 = some r ∧ IsOptI p.2 r
def kindsAll : List Str := ["let", "get", "put", "add", "lock", "unlock", "wait", "notify", "notifyall", "send", "take", "check", "go", "begin", "end"]
def tabTree : List (Str × Option Int) := kindsAll.map fun z => (z, ([("let", 2), ("put", 2), ("add", 2), ("send", 2), ("check", 1), ("go", 2)] : List (Str × Int)).lookup z)
def tabThing : List (Str × Option Int) := kindsAll.map fun z => (z, ([("get", 2), ("put", 1), ("add", 1), ("lock", 1), ("unlock", 1), ("wait", 1), ("notify", 1), ("notifyall", 1), ("send", 1), ("take", 2)] : List (Str × Int)).lookup z)
/-- a written tuple of texts -/
def KTupS (K : PySem.W.Frag) (mg : Str → Option Value) (x : Str) (l : List Str) : Prop := ∃ a, mg x = some (.ref a) ∧ (∃ o, K.lookup a = some o ∧ o.cls = .type "tuple" ∧ o.dict = none) ∧ ∀ H, SqT K H a (l.map V.str)
/-- where the class makes its instances -/
def MkDraft (K : PySem.W.Frag) (C : Addr) (st : Stmt) (ps : List Str) : Prop := ∃ f fd, Mk K C f ∧ Fun K "__init__" "Draft.__init__" st f fd ∧ Binds K fd ps []
structure Txt (w : World) (K : PySem.W.Frag) (mg : Str → Option Value) (C : Addr) : Prop where
  d_share : Def K mg "share" (top 1) ["one", "other"]
  d_dependent : Def K mg "dependent" (top 2) ["one", "other"]
  d_before : Def K mg "before" (top 3) ["steps"]
  d_kind_of_step : Def K mg "kind_of_step" (top 5) ["program", "step"]
  d_block_from : Def K mg "block_from" (top 6) ["program", "steps", "start"]
  d_block_steps : Def K mg "block_steps" (top 7) ["program", "steps"]
  d_breaks : Def K mg "breaks" (top 8) ["earlier", "block", "index"]
  d_broken_blocks : Def K mg "broken_blocks" (top 9) ["program", "steps"]
  d_can_come_sooner : Def K mg "can_come_sooner" (top 16) ["steps", "step"]
  d_is_value : Def K mg "is_value" (top 19) ["n"]
  d_operate : Def K mg "operate" (top 20) ["sign", "x", "y"]
  d_evaluate : Def K mg "evaluate" (top 23) ["tree", "registers"]
  d_expression_of : Def K mg "expression_of" (top 27) ["instruction"]
  d_thing_of : Def K mg "thing_of" (top 28) ["instruction"]
  d_names_of : Def K mg "names_of" (top 30) ["program", "kind"]
  d_lock_of : Def K mg "lock_of" (top 31) ["program", "cond"]
  d_first_state : Def K mg "first_state" (top 37) ["program"]
  d_place_of : Def K mg "place_of" (top 38) ["program", "kind", "name"]
  d_owner_of : Def K mg "owner_of" (top 39) ["program", "state", "lock"]
  d_instruction_at : Def K mg "instruction_at" (top 40) ["program", "state", "thread"]
  d_worth : Def K mg "_worth" (top 41) ["program", "state", "thread"]
  d_items_of : Def K mg "_items_of" (top 42) ["program", "state", "name"]
  d_needed : Def K mg "needed" (top 43) ["program", "state", "thread"]
  d_blocked : Def K mg "blocked" (top 44) ["program", "state"]
  d_enabled : Def K mg "enabled" (top 45) ["program", "state"]
  d_is_deadlock : Def K mg "is_deadlock" (top 46) ["program", "state"]
  d_touches : Def K mg "_touches" (top 47) ["program", "instruction", "mode"]
  d_owns : Def K mg "_owns" (top 49) ["draft", "lock"]
  d_do_data : Def K mg "_do_data" (top 50) ["draft", "instruction", "worth"]
  d_do_lock : Def K mg "_do_lock" (top 51) ["draft", "instruction"]
  d_next_pc : Def K mg "_next_pc" (top 52) ["instruction", "pc", "worth"]
  d_do : Def K mg "_do" (top 53) ["draft", "instruction", "mode", "worth"]
  d_make_step : Def K mg "make_step" (top 54) ["program", "state", "thread"]
  d_beginnings : Def K mg "beginnings" (top 56) ["program", "limit", "entry"]
  d_tried : Def K mg "tried" (top 57) ["program", "limit", "most"]
  d_is_complete : Def K mg "is_complete" (top 58) ["program", "limit", "entry"]
  d_complete_ones : Def K mg "complete_ones" (top 59) ["program", "limit", "entries"]
  d_executions : Def K mg "executions" (top 60) ["program", "limit", "most"]
  d_failures : Def K mg "failures" (top 62) ["steps"]
  d_deadlocks : Def K mg "deadlocks" (top 63) ["program", "state"]
  d_waiting_for : Def K mg "waiting_for" (top 65) ["program", "state", "name"]
  d_unheard : Def K mg "unheard" (top 66) ["program", "schedule"]
  d_lost_notices : Def K mg "lost_notices" (top 67) ["program", "schedule"]
  d_instruction_of : Def K mg "instruction_of" (top 69) ["program", "step"]
  d_is_plain : Def K mg "is_plain" (top 70) ["program", "step"]
  d_clashing : Def K mg "clashing" (top 71) ["program", "one", "other"]
  d_is_neighbour : Def K mg "is_neighbour" (top 72) ["earlier", "i", "j"]
  d_race_pairs : Def K mg "race_pairs" (top 73) ["program", "steps"]
  d_races : Def K mg "races" (top 74) ["program", "steps"]
  d_run : Def K mg "run" (top 76) ["program", "schedule"]
  d_fault_key : Def K mg "fault_key" (top 79) ["fault"]
  d_faults_of : Def K mg "faults_of" (top 80) ["program", "schedule"]
  d_finds_of : Def K mg "finds_of" (top 81) ["program", "schedules"]
  d_finds : Def K mg "finds" (top 82) ["program", "limit", "most"]
  d_law_cell : Def K mg "_law_cell" (top 84) ["_law_script", "_law_k"]
  d_law_digits : Def K mg "_law_digits" (top 85) ["_law_cell_here", "_law_k", "_law_most"]
  d_law_padded : Def K mg "_law_padded" (top 86) ["_law_cell_here", "_law_k"]
  d_law_things : Def K mg "_law_things" (top 87) []
  d_law_piece : Def K mg "_law_piece" (top 88) ["_law_digit", "_law_pc"]
  d_law_program : Def K mg "_law_program" (top 89) ["_law_script", "_law_sizes"]
  d_law_drawn : Def K mg "_law_drawn" (top 90) ["_law_script"]
  d_law_all : Def K mg "_law_all" (top 91) ["_law_program_here", "_law_limit"]
  d_law_complete : Def K mg "_law_complete" (top 92) ["_law_program_here", "_law_limit", "_law_entries"]
  d_law : Def K mg "law" (top 93) ["_law_script"]
  mkD : MkDraft K C (inClass (top 48) 0) ["self", "program", "state", "thread"]
  m_state : MDef K C "state" "Draft.state" (inClass (top 48) 1) ["self"]
  m_place : MDef K C "place" "Draft.place" (inClass (top 48) 2) ["self", "kind", "name"]
  m_go : MDef K C "go" "Draft.go" (inClass (top 48) 3) ["self", "pc"]
  m_store : MDef K C "store" "Draft.store" (inClass (top 48) 4) ["self", "letter", "value"]
  m_end : MDef K C "end" "Draft.end" (inClass (top 48) 5) ["self", "word"]
  m_wake : MDef K C "wake" "Draft.wake" (inClass (top 48) 6) ["self", "name", "many"]
  m_begin_wait : MDef K C "begin_wait" "Draft.begin_wait" (inClass (top 48) 7) ["self", "name"]
  cl : Cls K C
  mgC : mg "Draft" = some (.ref C)
  n_program : NoAttr K C "program"
  n_thread : NoAttr K C "thread"
  n_cells : NoAttr K C "cells"
  n_owners : NoAttr K C "owners"
  n_queues : NoAttr K C "queues"
  n_waiting : NoAttr K C "waiting"
  n_threads : NoAttr K C "threads"
  g_RUN : ∃ t, mg "RUN" = some (.str "run" t)
  g_WAIT : ∃ t, mg "WAIT" = some (.str "wait" t)
  g_WOKEN : ∃ t, mg "WOKEN" = some (.str "woken" t)
  g_OVER : ∃ t, mg "OVER" = some (.str "over" t)
  g_MOST : ∃ t, mg "MOST" = some (.int 99 t)
  g_REGISTERS : KTupS K mg "REGISTERS" ["a", "b", "c", "d"]
  g_KINDS : KTupS K mg "KINDS" ["failure", "deadlock", "race", "lost", "broken"]
  g_WITH_TREE : KTab K w mg "WITH_TREE" tabTree
  g_WITH_THING : KTab K w mg "WITH_THING" tabThing
  len : mg "len" = none
  range : mg "range" = none
  tuple : mg "tuple" = none
  list : mg "list" = none
  int : mg "int" = none
  sorted : mg "sorted" = none
  enumerate : mg "enumerate" = none
end Ev

-- part EvZ1
set_option maxHeartbeats 400000
set_option Elab.async false
set_option linter.all false
set_option maxRecDepth 100000
set_option maxHeartbeats 0
/-! The head: what the top leaves, by one run. (Printed by wip/genhead.py.) -/
namespace Ev
open PySem PySem.Spec PyProof.Rows L2
def tupX (K : PySem.W.Frag) (x : Str) (l : List Str) : Bool := match K.lookup (He.ga K x) with
  | some ⟨.type c, none, .seq its _, _⟩ => decide (c = "tuple") && (decide (its.size ≤ sizeLine) && He.relAll (l.map V.str) its.toList)
  | _ => false
def tabX (K : PySem.W.Frag) (x : Str) (l : List (Str × Option Int)) : Bool := l.all fun p => match PySem.W.nsIn K (He.ga K x) p.1 with
  | some (some (.int j _)) => decide (p.2 = some j)
  | some none => decide (p.2 = none)
  | _ => false
def xtra (K : PySem.W.Frag) : Bool := tupX K "REGISTERS" ["a", "b", "c", "d"] && (tupX K "KINDS" ["failure", "deadlock", "race", "lost", "broken"] && (tabX K "WITH_TREE" tabTree && tabX K "WITH_THING" tabThing))
def dd (x : Str) (st : Stmt) : He.DefD := ⟨(x, none), x, x, defArgs st, defBody st, defScope st, [], []⟩
def dm (m q : Str) (st : Stmt) : He.DefD := ⟨("Draft", some m), m, q, defArgs st, defBody st, defScope st, [], []⟩
def fnL : List He.DefD := [dd "share" (top 1),
  dd "dependent" (top 2),
  dd "before" (top 3),
  dd "kind_of_step" (top 5),
  dd "block_from" (top 6),
  dd "block_steps" (top 7),
  dd "breaks" (top 8),
  dd "broken_blocks" (top 9),
  dd "can_come_sooner" (top 16),
  dd "is_value" (top 19),
  dd "operate" (top 20),
  dd "evaluate" (top 23),
  dd "expression_of" (top 27),
  dd "thing_of" (top 28),
  dd "names_of" (top 30),
  dd "lock_of" (top 31),
  dd "first_state" (top 37),
  dd "place_of" (top 38),
  dd "owner_of" (top 39),
  dd "instruction_at" (top 40),
  dd "_worth" (top 41),
  dd "_items_of" (top 42),
  dd "needed" (top 43),
  dd "blocked" (top 44),
  dd "enabled" (top 45),
  dd "is_deadlock" (top 46),
  dd "_touches" (top 47),
  dd "_owns" (top 49),
  dd "_do_data" (top 50),
  dd "_do_lock" (top 51),
  dd "_next_pc" (top 52),
  dd "_do" (top 53),
  dd "make_step" (top 54),
  dd "beginnings" (top 56),
  dd "tried" (top 57),
  dd "is_complete" (top 58),
  dd "complete_ones" (top 59),
  dd "executions" (top 60),
  dd "failures" (top 62),
  dd "deadlocks" (top 63),
  dd "waiting_for" (top 65),
  dd "unheard" (top 66),
  dd "lost_notices" (top 67),
  dd "instruction_of" (top 69),
  dd "is_plain" (top 70),
  dd "clashing" (top 71),
  dd "is_neighbour" (top 72),
  dd "race_pairs" (top 73),
  dd "races" (top 74),
  dd "run" (top 76),
  dd "fault_key" (top 79),
  dd "faults_of" (top 80),
  dd "finds_of" (top 81),
  dd "finds" (top 82),
  dd "_law_cell" (top 84),
  dd "_law_digits" (top 85),
  dd "_law_padded" (top 86),
  dd "_law_things" (top 87),
  dd "_law_piece" (top 88),
  dd "_law_program" (top 89),
  dd "_law_drawn" (top 90),
  dd "_law_all" (top 91),
  dd "_law_complete" (top 92),
  dd "law" (top 93),
  dm "__init__" "Draft.__init__" (inClass (top 48) 0),
  dm "state" "Draft.state" (inClass (top 48) 1),
  dm "place" "Draft.place" (inClass (top 48) 2),
  dm "go" "Draft.go" (inClass (top 48) 3),
  dm "store" "Draft.store" (inClass (top 48) 4),
  dm "end" "Draft.end" (inClass (top 48) 5),
  dm "wake" "Draft.wake" (inClass (top 48) 6),
  dm "begin_wait" "Draft.begin_wait" (inClass (top 48) 7)]
def faL : List He.Fa := [.glo "share",
  .glo "dependent",
  .glo "before",
  .glo "kind_of_step",
  .glo "block_from",
  .glo "block_steps",
  .glo "breaks",
  .glo "broken_blocks",
  .glo "can_come_sooner",
  .glo "is_value",
  .glo "operate",
  .glo "evaluate",
  .glo "expression_of",
  .glo "thing_of",
  .glo "names_of",
  .glo "lock_of",
  .glo "first_state",
  .glo "place_of",
  .glo "owner_of",
  .glo "instruction_at",
  .glo "_worth",
  .glo "_items_of",
  .glo "needed",
  .glo "blocked",
  .glo "enabled",
  .glo "is_deadlock",
  .glo "_touches",
  .glo "_owns",
  .glo "_do_data",
  .glo "_do_lock",
  .glo "_next_pc",
  .glo "_do",
  .glo "make_step",
  .glo "beginnings",
  .glo "tried",
  .glo "is_complete",
  .glo "complete_ones",
  .glo "executions",
  .glo "failures",
  .glo "deadlocks",
  .glo "waiting_for",
  .glo "unheard",
  .glo "lost_notices",
  .glo "instruction_of",
  .glo "is_plain",
  .glo "clashing",
  .glo "is_neighbour",
  .glo "race_pairs",
  .glo "races",
  .glo "run",
  .glo "fault_key",
  .glo "faults_of",
  .glo "finds_of",
  .glo "finds",
  .glo "_law_cell",
  .glo "_law_digits",
  .glo "_law_padded",
  .glo "_law_things",
  .glo "_law_piece",
  .glo "_law_program",
  .glo "_law_drawn",
  .glo "_law_all",
  .glo "_law_complete",
  .glo "law",
  .glo "Draft",
  .glo "REGISTERS",
  .glo "KINDS",
  .glo "WITH_TREE",
  .glo "WITH_THING",
  .cls "Draft",
  .noat "Draft" "program",
  .noat "Draft" "thread",
  .noat "Draft" "cells",
  .noat "Draft" "owners",
  .noat "Draft" "queues",
  .noat "Draft" "waiting",
  .noat "Draft" "threads",
  .mkr "Draft",
  .meth "Draft" "state",
  .meth "Draft" "place",
  .meth "Draft" "go",
  .meth "Draft" "store",
  .meth "Draft" "end",
  .meth "Draft" "wake",
  .meth "Draft" "begin_wait",
  .str "RUN" "run",
  .str "WAIT" "wait",
  .str "WOKEN" "woken",
  .str "OVER" "over",
  .int "MOST" 99,
  .free "len",
  .free "range",
  .free "tuple",
  .free "list",
  .free "int",
  .free "sorted",
  .free "enumerate"]
def tsL : List He.Tab := [(fun K => He.ga K "WITH_TREE", ["let", "put", "add", "send", "check", "go"]), (fun K => He.ga K "WITH_THING", ["get", "put", "add", "lock", "unlock", "wait", "notify", "notifyall", "send", "take"])]
abbrev AlX : Type := He.AlT × Bool
def obX (K : PySem.W.Frag) : AlX := (He.obsT faL fnL tsL K, xtra K)
def vaX (w : World) : AlX := (He.valT fnL tsL w, true)
/-- what the addresses name, one step on -/
def refA (g : Addr → Option Obj) (as : List Addr) : List Addr := as.flatMap fun a => match g a with
  | some o => He.refsO o
  | none => []
def asM (g : Addr → Option Obj) : Nat → List Addr → List Addr
  | 0, as => as
  | n + 1, as => as ++ asM g n (refA g as)
def obG (n : Nat) (g : Addr → Option Obj) : AlX := obX (He.frG g (asM g n [mainGlobals]))
def hkX : PySem.W.Hook where
  α := AlX
  obs := fun s => obG 4 s.heap.get?
  val := fun w => vaX w
  says := fun w h => ∃ K : PySem.W.Frag, K.In h ∧ obX K = vaX w
  of := fun _ _ e => ⟨_, He.frG_in, e⟩
  keeps := fun _ _ _ ⟨K, hK, c⟩ k => ⟨K, PySem.W.Frag.In.keeps hK k, c⟩
abbrev rowX : PySem.W.OpenRow := PySem.W.OpenLaw.row PySem.Challenge.rw_everyturn_k46_whole_finds
def obS (s : PySem.W.SharedT) : AlX := obG 4 (HandSHeadRun.getT s)
theorem obS_eq (s : PySem.W.SharedT) : obS s = hkX.obs s.abs := by
  have e : HandSHeadRun.getT s = s.abs.heap.get? := funext (HandSHeadRun.getT_eq s)
  unfold obS
  rw [e]
  rfl
def loose0 : List Str := ["share", "dependent", "before", "kind_of_step", "block_from", "block_steps", "breaks", "broken_blocks", "TurnError", "NotEnabled", "TooMany", "NoSuchPlace", "can_come_sooner", "MOST", "is_value", "operate", "REGISTERS", "evaluate", "WITH_TREE", "WITH_THING", "expression_of", "thing_of", "names_of", "lock_of", "RUN", "WAIT", "WOKEN", "OVER", "first_state", "place_of"]
def loose1 : List Str := ["owner_of", "instruction_at", "_worth", "_items_of", "needed", "blocked", "enabled", "is_deadlock", "_touches", "Draft", "_owns", "_do_data", "_do_lock", "_next_pc", "_do", "make_step", "beginnings", "tried", "is_complete", "complete_ones", "executions", "failures", "deadlocks", "waiting_for", "unheard", "lost_notices", "instruction_of", "is_plain", "clashing", "is_neighbour"]
def loose2 : List Str := ["race_pairs", "races", "run", "KINDS", "fault_key", "faults_of", "finds_of", "finds", "_law_cell", "_law_digits", "_law_padded", "_law_things", "_law_piece", "_law_program", "_law_drawn", "_law_all", "_law_complete"]
abbrev looseL : List Str := loose0 ++ loose1 ++ loose2
theorem runF (w : World) : HandSHeadRun.RunEq rowX (PySem.W.view rowX.prog [93]) hkX obS 5000 looseL (w.withFollow "special-get-raises" false) := by
  intro os
  kernel_rfl
theorem runT (w : World) : HandSHeadRun.RunEq rowX (PySem.W.view rowX.prog [93]) hkX obS 5000 looseL (w.withFollow "special-get-raises" true) := by
  intro os
  kernel_rfl
theorem runX (w : World) : HandSHeadRun.RunEq rowX (PySem.W.view rowX.prog [93]) hkX obS 5000 looseL w :=
  PySem.W.byRow2 "special-get-raises" (P := fun w => HandSHeadRun.RunEq rowX (PySem.W.view rowX.prog [93]) hkX obS 5000 looseL w) runF runT w
end Ev

-- part EvZ2
set_option maxHeartbeats 400000
set_option Elab.async false
set_option linter.all false
set_option maxRecDepth 100000
set_option maxHeartbeats 4000000
/-! The facts of the top, from the run. (Printed by wip/genhead.py.) -/
namespace Ev
open PySem PySem.Spec PyProof.Rows L2
theorem fun_ofD {K : PySem.W.Frag} {x q : Str} {st : Stmt} {f : Addr} {fd : FuncData} (F : FunD K x q (defArgs st) (defBody st) (defScope st) [] [] f fd) : Fun K x q st f fd := by
  obtain ⟨oc, od, dV, kV, doc, pm, an, cdv, ct, osl, e, lk, hcd, hD, hK⟩ := F.ex
  rcases hD with ⟨_, rfl⟩ | ⟨e, _⟩
  · exact ⟨⟨oc, od, kV, doc, pm, an, cdv, ct, osl, e, lk, hcd⟩, F.kp⟩
  · exact absurd rfl e
section
variable {w : World} {K : PySem.W.Frag} {mg : Str → Option Value} {h : Heap}
theorem def_mk (X : K.In h) (G : h.Ns mainGlobals mg) (c : He.SaysD faL fnL K) {x : Str} {st : Stmt} {ps : List Str} (i j : Nat) (hi : fnL[i]? = some (dd x st)) (hj : faL[j]? = some (.glo x))
    (b : ∀ (kV doc pm : Value) (an : Option Addr) (cdv ct : Value) (us : List Value), us.length = ps.length → bindArgs (PySem.W.fnOf x x (defArgs st) (defBody st) (defScope st) .none kV doc pm an cdv ct) ⟨us, []⟩ = pure (ps.zip us)) : Def K mg x st ps := by
  obtain ⟨fd, F⟩ := c.def_ i hi
  have F : FunD K x x (defArgs st) (defBody st) (defScope st) [] [] (He.ga K x) fd := F
  have F := fun_ofD F
  exact ⟨_, fd, F, He.glo_ok X G (c.fact j hj), F.binds b⟩
theorem mdef_mk (c : He.SaysD faL fnL K) {m q : Str} {st : Stmt} {ps : List Str} (i j : Nat) (hi : fnL[i]? = some (dm m q st)) (hj : faL[j]? = some (.meth "Draft" m))
    (b : ∀ (kV doc pm : Value) (an : Option Addr) (cdv ct : Value) (us : List Value), us.length = ps.length → bindArgs (PySem.W.fnOf m q (defArgs st) (defBody st) (defScope st) .none kV doc pm an cdv ct) ⟨us, []⟩ = pure (ps.zip us)) : MDef K (He.ga K "Draft") m q st ps := by
  obtain ⟨fd, F⟩ := c.def_ i hi
  have F : FunD K m q (defArgs st) (defBody st) (defScope st) [] [] (He.ma K (He.ga K "Draft") m) fd := F
  have F := fun_ofD F
  exact ⟨_, fd, F, He.meth_ok (c.fact j hj), F.binds b⟩
theorem mk_mk (c : He.SaysD faL fnL K) {st : Stmt} {ps : List Str} (i j : Nat) (hi : fnL[i]? = some (dm "__init__" "Draft.__init__" st)) (hj : faL[j]? = some (.mkr "Draft"))
    (b : ∀ (kV doc pm : Value) (an : Option Addr) (cdv ct : Value) (us : List Value), us.length = ps.length → bindArgs (PySem.W.fnOf "__init__" "Draft.__init__" (defArgs st) (defBody st) (defScope st) .none kV doc pm an cdv ct) ⟨us, []⟩ = pure (ps.zip us)) : MkDraft K (He.ga K "Draft") st ps := by
  obtain ⟨fd, F⟩ := c.def_ i hi
  have F : FunD K "__init__" "Draft.__init__" (defArgs st) (defBody st) (defScope st) [] [] (He.ma K (He.ga K "Draft") "__init__") fd := F
  have F := fun_ofD F
  exact ⟨_, fd, He.mkr_ok (c.fact j hj), F, F.binds b⟩
theorem tup_mk (X : K.In h) (G : h.Ns mainGlobals mg) {x : Str} {l : List Str} (g : (He.Fa.glo x).ok K = true) (t : tupX K x l = true) : KTupS K mg x l := by
  refine ⟨He.ga K x, He.glo_ok X G g, ?_⟩
  unfold tupX at t
  cases q : K.lookup (He.ga K x) with
  | none =>
    rw [q] at t
    cases t
  | some o =>
    obtain ⟨oc, od, dt, osl⟩ := o
    rw [q] at t
    cases oc with
    | type c =>
      cases od with
      | none =>
        cases dt with
        | seq its n =>
          obtain ⟨h1, h2⟩ := He.ba (show (decide (c = "tuple") && (decide (its.size ≤ sizeLine) && He.relAll (l.map V.str) its.toList)) = true from t)
          obtain ⟨h3, h4⟩ := He.ba h2
          have e1 : c = "tuple" := of_decide_eq_true h1
          subst e1
          exact ⟨⟨_, rfl, rfl, rfl⟩, fun H => .inr ⟨_, its, n, q, rfl, rfl, of_decide_eq_true h3, He.relAll_ok h4⟩⟩
        | _ => cases t
      | some a => cases dt <;> cases t
    | _ => cases od <;> cases dt <;> cases t
theorem tab_mk (X : K.In h) (G : h.Ns mainGlobals mg) {x : Str} {l : List (Str × Option Int)} (g : (He.Fa.glo x).ok K = true) (d : ∃ es n, KDict K w (He.ga K x) es n) (t : tabX K x l = true) : KTab K w mg x l := by
  obtain ⟨es, n, d⟩ := d
  refine ⟨He.ga K x, es, n, He.glo_ok X G g, d, fun p hp => ?_⟩
  have t := List.all_eq_true.mp t p hp
  cases q : PySem.W.nsIn K (He.ga K x) p.1 with
  | none =>
    rw [q] at t
    cases t
  | some r =>
    rw [q] at t
    refine ⟨r, rfl, ?_⟩
    cases r with
    | none =>
      have e : p.2 = none := of_decide_eq_true t
      rw [e]
      rfl
    | some v =>
      cases v with
      | int j u =>
        have e : p.2 = some j := of_decide_eq_true t
        rw [e]
        exact ⟨u, rfl⟩
      | _ => cases t
theorem txt_mk (X : K.In h) (G : h.Ns mainGlobals mg) (c : obX K = vaX w) : Txt w K mg (He.ga K "Draft") := by
  have cT : He.SaysT faL fnL tsL w K := congrArg (fun z : AlX => z.1) c
  have cX : xtra K = true := congrArg (fun z : AlX => z.2) c
  have cD := cT.d
  obtain ⟨x1, cX⟩ := He.ba cX
  obtain ⟨x2, cX⟩ := He.ba cX
  obtain ⟨x3, x4⟩ := He.ba cX
  exact {
    d_share := def_mk X G cD 0 0 rfl rfl (fun _ _ _ _ _ _ us hl => match us, hl with | [_, _], _ => rfl)
    d_dependent := def_mk X G cD 1 1 rfl rfl (fun _ _ _ _ _ _ us hl => match us, hl with | [_, _], _ => rfl)
    d_before := def_mk X G cD 2 2 rfl rfl (fun _ _ _ _ _ _ us hl => match us, hl with | [_], _ => rfl)
    d_kind_of_step := def_mk X G cD 3 3 rfl rfl (fun _ _ _ _ _ _ us hl => match us, hl with | [_, _], _ => rfl)
    d_block_from := def_mk X G cD 4 4 rfl rfl (fun _ _ _ _ _ _ us hl => match us, hl with | [_, _, _], _ => rfl)
    d_block_steps := def_mk X G cD 5 5 rfl rfl (fun _ _ _ _ _ _ us hl => match us, hl with | [_, _], _ => rfl)
    d_breaks := def_mk X G cD 6 6 rfl rfl (fun _ _ _ _ _ _ us hl => match us, hl with | [_, _, _], _ => rfl)
    d_broken_blocks := def_mk X G cD 7 7 rfl rfl (fun _ _ _ _ _ _ us hl => match us, hl with | [_, _], _ => rfl)
    d_can_come_sooner := def_mk X G cD 8 8 rfl rfl (fun _ _ _ _ _ _ us hl => match us, hl with | [_, _], _ => rfl)
    d_is_value := def_mk X G cD 9 9 rfl rfl (fun _ _ _ _ _ _ us hl => match us, hl with | [_], _ => rfl)
    d_operate := def_mk X G cD 10 10 rfl rfl (fun _ _ _ _ _ _ us hl => match us, hl with | [_, _, _], _ => rfl)
    d_evaluate := def_mk X G cD 11 11 rfl rfl (fun _ _ _ _ _ _ us hl => match us, hl with | [_, _], _ => rfl)
    d_expression_of := def_mk X G cD 12 12 rfl rfl (fun _ _ _ _ _ _ us hl => match us, hl with | [_], _ => rfl)
    d_thing_of := def_mk X G cD 13 13 rfl rfl (fun _ _ _ _ _ _ us hl => match us, hl with | [_], _ => rfl)
    d_names_of := def_mk X G cD 14 14 rfl rfl (fun _ _ _ _ _ _ us hl => match us, hl with | [_, _], _ => rfl)
    d_lock_of := def_mk X G cD 15 15 rfl rfl (fun _ _ _ _ _ _ us hl => match us, hl with | [_, _], _ => rfl)
    d_first_state := def_mk X G cD 16 16 rfl rfl (fun _ _ _ _ _ _ us hl => match us, hl with | [_], _ => rfl)
    d_place_of := def_mk X G cD 17 17 rfl rfl (fun _ _ _ _ _ _ us hl => match us, hl with | [_, _, _], _ => rfl)
    d_owner_of := def_mk X G cD 18 18 rfl rfl (fun _ _ _ _ _ _ us hl => match us, hl with | [_, _, _], _ => rfl)
    d_instruction_at := def_mk X G cD 19 19 rfl rfl (fun _ _ _ _ _ _ us hl => match us, hl with | [_, _, _], _ => rfl)
    d_worth := def_mk X G cD 20 20 rfl rfl (fun _ _ _ _ _ _ us hl => match us, hl with | [_, _, _], _ => rfl)
    d_items_of := def_mk X G cD 21 21 rfl rfl (fun _ _ _ _ _ _ us hl => match us, hl with | [_, _, _], _ => rfl)
    d_needed := def_mk X G cD 22 22 rfl rfl (fun _ _ _ _ _ _ us hl => match us, hl with | [_, _, _], _ => rfl)
    d_blocked := def_mk X G cD 23 23 rfl rfl (fun _ _ _ _ _ _ us hl => match us, hl with | [_, _], _ => rfl)
    d_enabled := def_mk X G cD 24 24 rfl rfl (fun _ _ _ _ _ _ us hl => match us, hl with | [_, _], _ => rfl)
    d_is_deadlock := def_mk X G cD 25 25 rfl rfl (fun _ _ _ _ _ _ us hl => match us, hl with | [_, _], _ => rfl)
    d_touches := def_mk X G cD 26 26 rfl rfl (fun _ _ _ _ _ _ us hl => match us, hl with | [_, _, _], _ => rfl)
    d_owns := def_mk X G cD 27 27 rfl rfl (fun _ _ _ _ _ _ us hl => match us, hl with | [_, _], _ => rfl)
    d_do_data := def_mk X G cD 28 28 rfl rfl (fun _ _ _ _ _ _ us hl => match us, hl with | [_, _, _], _ => rfl)
    d_do_lock := def_mk X G cD 29 29 rfl rfl (fun _ _ _ _ _ _ us hl => match us, hl with | [_, _], _ => rfl)
    d_next_pc := def_mk X G cD 30 30 rfl rfl (fun _ _ _ _ _ _ us hl => match us, hl with | [_, _, _], _ => rfl)
    d_do := def_mk X G cD 31 31 rfl rfl (fun _ _ _ _ _ _ us hl => match us, hl with | [_, _, _, _], _ => rfl)
    d_make_step := def_mk X G cD 32 32 rfl rfl (fun _ _ _ _ _ _ us hl => match us, hl with | [_, _, _], _ => rfl)
    d_beginnings := def_mk X G cD 33 33 rfl rfl (fun _ _ _ _ _ _ us hl => match us, hl with | [_, _, _], _ => rfl)
    d_tried := def_mk X G cD 34 34 rfl rfl (fun _ _ _ _ _ _ us hl => match us, hl with | [_, _, _], _ => rfl)
    d_is_complete := def_mk X G cD 35 35 rfl rfl (fun _ _ _ _ _ _ us hl => match us, hl with | [_, _, _], _ => rfl)
    d_complete_ones := def_mk X G cD 36 36 rfl rfl (fun _ _ _ _ _ _ us hl => match us, hl with | [_, _, _], _ => rfl)
    d_executions := def_mk X G cD 37 37 rfl rfl (fun _ _ _ _ _ _ us hl => match us, hl with | [_, _, _], _ => rfl)
    d_failures := def_mk X G cD 38 38 rfl rfl (fun _ _ _ _ _ _ us hl => match us, hl with | [_], _ => rfl)
    d_deadlocks := def_mk X G cD 39 39 rfl rfl (fun _ _ _ _ _ _ us hl => match us, hl with | [_, _], _ => rfl)
    d_waiting_for := def_mk X G cD 40 40 rfl rfl (fun _ _ _ _ _ _ us hl => match us, hl with | [_, _, _], _ => rfl)
    d_unheard := def_mk X G cD 41 41 rfl rfl (fun _ _ _ _ _ _ us hl => match us, hl with | [_, _], _ => rfl)
    d_lost_notices := def_mk X G cD 42 42 rfl rfl (fun _ _ _ _ _ _ us hl => match us, hl with | [_, _], _ => rfl)
    d_instruction_of := def_mk X G cD 43 43 rfl rfl (fun _ _ _ _ _ _ us hl => match us, hl with | [_, _], _ => rfl)
    d_is_plain := def_mk X G cD 44 44 rfl rfl (fun _ _ _ _ _ _ us hl => match us, hl with | [_, _], _ => rfl)
    d_clashing := def_mk X G cD 45 45 rfl rfl (fun _ _ _ _ _ _ us hl => match us, hl with | [_, _, _], _ => rfl)
    d_is_neighbour := def_mk X G cD 46 46 rfl rfl (fun _ _ _ _ _ _ us hl => match us, hl with | [_, _, _], _ => rfl)
    d_race_pairs := def_mk X G cD 47 47 rfl rfl (fun _ _ _ _ _ _ us hl => match us, hl with | [_, _], _ => rfl)
    d_races := def_mk X G cD 48 48 rfl rfl (fun _ _ _ _ _ _ us hl => match us, hl with | [_, _], _ => rfl)
    d_run := def_mk X G cD 49 49 rfl rfl (fun _ _ _ _ _ _ us hl => match us, hl with | [_, _], _ => rfl)
    d_fault_key := def_mk X G cD 50 50 rfl rfl (fun _ _ _ _ _ _ us hl => match us, hl with | [_], _ => rfl)
    d_faults_of := def_mk X G cD 51 51 rfl rfl (fun _ _ _ _ _ _ us hl => match us, hl with | [_, _], _ => rfl)
    d_finds_of := def_mk X G cD 52 52 rfl rfl (fun _ _ _ _ _ _ us hl => match us, hl with | [_, _], _ => rfl)
    d_finds := def_mk X G cD 53 53 rfl rfl (fun _ _ _ _ _ _ us hl => match us, hl with | [_, _, _], _ => rfl)
    d_law_cell := def_mk X G cD 54 54 rfl rfl (fun _ _ _ _ _ _ us hl => match us, hl with | [_, _], _ => rfl)
    d_law_digits := def_mk X G cD 55 55 rfl rfl (fun _ _ _ _ _ _ us hl => match us, hl with | [_, _, _], _ => rfl)
    d_law_padded := def_mk X G cD 56 56 rfl rfl (fun _ _ _ _ _ _ us hl => match us, hl with | [_, _], _ => rfl)
    d_law_things := def_mk X G cD 57 57 rfl rfl (fun _ _ _ _ _ _ us hl => match us, hl with | [], _ => rfl)
    d_law_piece := def_mk X G cD 58 58 rfl rfl (fun _ _ _ _ _ _ us hl => match us, hl with | [_, _], _ => rfl)
    d_law_program := def_mk X G cD 59 59 rfl rfl (fun _ _ _ _ _ _ us hl => match us, hl with | [_, _], _ => rfl)
    d_law_drawn := def_mk X G cD 60 60 rfl rfl (fun _ _ _ _ _ _ us hl => match us, hl with | [_], _ => rfl)
    d_law_all := def_mk X G cD 61 61 rfl rfl (fun _ _ _ _ _ _ us hl => match us, hl with | [_, _], _ => rfl)
    d_law_complete := def_mk X G cD 62 62 rfl rfl (fun _ _ _ _ _ _ us hl => match us, hl with | [_, _, _], _ => rfl)
    d_law := def_mk X G cD 63 63 rfl rfl (fun _ _ _ _ _ _ us hl => match us, hl with | [_], _ => rfl)
    mkD := mk_mk cD 64 77 rfl rfl (fun _ _ _ _ _ _ us hl => match us, hl with | [_, _, _, _], _ => rfl)
    m_state := mdef_mk cD 65 78 rfl rfl (fun _ _ _ _ _ _ us hl => match us, hl with | [_], _ => rfl)
    m_place := mdef_mk cD 66 79 rfl rfl (fun _ _ _ _ _ _ us hl => match us, hl with | [_, _, _], _ => rfl)
    m_go := mdef_mk cD 67 80 rfl rfl (fun _ _ _ _ _ _ us hl => match us, hl with | [_, _], _ => rfl)
    m_store := mdef_mk cD 68 81 rfl rfl (fun _ _ _ _ _ _ us hl => match us, hl with | [_, _, _], _ => rfl)
    m_end := mdef_mk cD 69 82 rfl rfl (fun _ _ _ _ _ _ us hl => match us, hl with | [_, _], _ => rfl)
    m_wake := mdef_mk cD 70 83 rfl rfl (fun _ _ _ _ _ _ us hl => match us, hl with | [_, _, _], _ => rfl)
    m_begin_wait := mdef_mk cD 71 84 rfl rfl (fun _ _ _ _ _ _ us hl => match us, hl with | [_, _], _ => rfl)
    cl := He.cls_ok (cD.fact 69 rfl)
    mgC := He.glo_ok X G (cD.fact 64 rfl)
    n_program := He.noat_ok (cD.fact 70 rfl)
    n_thread := He.noat_ok (cD.fact 71 rfl)
    n_cells := He.noat_ok (cD.fact 72 rfl)
    n_owners := He.noat_ok (cD.fact 73 rfl)
    n_queues := He.noat_ok (cD.fact 74 rfl)
    n_waiting := He.noat_ok (cD.fact 75 rfl)
    n_threads := He.noat_ok (cD.fact 76 rfl)
    g_RUN := He.str_ok X G (cD.fact 85 rfl)
    g_WAIT := He.str_ok X G (cD.fact 86 rfl)
    g_WOKEN := He.str_ok X G (cD.fact 87 rfl)
    g_OVER := He.str_ok X G (cD.fact 88 rfl)
    g_MOST := He.int_ok X G (cD.fact 89 rfl)
    g_REGISTERS := tup_mk X G (cD.fact 65 rfl) x1
    g_KINDS := tup_mk X G (cD.fact 66 rfl) x2
    g_WITH_TREE := tab_mk X G (cD.fact 67 rfl) (cT.tab 0 rfl) x3
    g_WITH_THING := tab_mk X G (cD.fact 68 rfl) (cT.tab 1 rfl) x4
    len := He.free_ok X G (cD.fact 90 rfl)
    range := He.free_ok X G (cD.fact 91 rfl)
    tuple := He.free_ok X G (cD.fact 92 rfl)
    list := He.free_ok X G (cD.fact 93 rfl)
    int := He.free_ok X G (cD.fact 94 rfl)
    sorted := He.free_ok X G (cD.fact 95 rfl)
    enumerate := He.free_ok X G (cD.fact 96 rfl)
  }
end
end Ev

-- part EvH
set_option maxHeartbeats 400000
set_option Elab.async false
set_option linter.all false
set_option maxRecDepth 100000
/-! Short words for readings; the constants of the module; instructions as they are asked. -/
namespace Ev
open PySem L2

theorem at0 {d : D} {l : List D} : atI (d :: l) 0 = some d := atI_nat (j := 0) rfl
theorem at1 {c d : D} {l : List D} : atI (c :: d :: l) 1 = some d := atI_nat (j := 1) rfl
theorem at_map {α : Type} {f : α → D} {l : List α} {j : Nat} {a : α} (h : l[j]? = some a) : atI (l.map f) (j : Int) = some (f a) := atI_nat (by rw [List.getElem?_map, h]; rfl)
theorem at_mapD {α : Type} {f : α → D} {l : List α} {j : Nat} {d : α} (h : j < l.length) : atI (l.map f) (j : Int) = some (f (l.getD j d)) := at_map (by rw [List.getD_eq_getElem?_getD, List.getElem?_eq_getElem h]; rfl)

/-! ### tests on texts -/
section
variable {a b : Str} {A B : Prop}
theorem ifS (h : a = b) (q : A) : if decide (V.str a = V.str b) = true then A else B := by rw [decide_eq_true (by rw [h]), if_pos rfl]; exact q
theorem ifN (h : a ≠ b) (q : B) : if decide (V.str a = V.str b) = true then A else B := by rw [decide_eq_false (fun e => h (V.str.inj e)), if_neg Bool.false_ne_true]; exact q
end
section
variable {σ : St} {H : Hp} {Q : Bool → Hp → Prop} {i : Nat} {a b : Str}
/-- name == 'text' -/
theorem tst_eq (h : σ[i]? = some (some (V.str a))) (e : a = b) (q : Q true H) : tTest (tOp rEq (tVar i) (tC (.str b))) σ H Q := ⟨_, h, rfl, true, by rw [decide_eq_true (by rw [e])], q⟩
theorem tst_ne (h : σ[i]? = some (some (V.str a))) (e : a ≠ b) (q : Q false H) : tTest (tOp rEq (tVar i) (tC (.str b))) σ H Q := ⟨_, h, rfl, false, by rw [decide_eq_false fun z => e (V.str.inj z)], q⟩
/-- t[0] == 'text' -/
theorem txt_eq {K : PySem.W.Frag} {ds : List D} {v : V} {j : Int} (h : σ[i]? = some (some v)) (hv : Rp K H v (.tuple ds)) (hd : atI ds j = some (.str a)) (e : a = b) (q : Q true H) : tTest (tOp rEq (tOp (rIxD K) (tVar i) (tC (.int j))) (tC (.str b))) σ H Q :=
  ⟨_, h, _, _, _, hv, rfl, hd, fun u hu => by cases hu.toStr; exact ⟨rfl, true, by rw [decide_eq_true (by rw [e])], q⟩⟩
theorem txt_ne {K : PySem.W.Frag} {ds : List D} {v : V} {j : Int} (h : σ[i]? = some (some v)) (hv : Rp K H v (.tuple ds)) (hd : atI ds j = some (.str a)) (e : a ≠ b) (q : Q false H) : tTest (tOp rEq (tOp (rIxD K) (tVar i) (tC (.int j))) (tC (.str b))) σ H Q :=
  ⟨_, h, _, _, _, hv, rfl, hd, fun u hu => by cases hu.toStr; exact ⟨rfl, false, by rw [decide_eq_false fun z => e (V.str.inj z)], q⟩⟩
end

/-! ### the constants of the module -/
section
variable {X : Cx} {x : Str} {pos : Pos}
theorem pe_gs {z : Str} (hg : Gl X x) (h : ∃ t, X.mg x = some (.str z t)) (hd : (x == ("__debug__" : Str)) = false := by decide) : PE X (.Name x pos) (tC (.str z)) := by
  obtain ⟨t, h⟩ := h
  exact pe_glob hg h ⟨t, rfl⟩ hd
theorem pe_gi {z : Int} (hg : Gl X x) (h : ∃ t, X.mg x = some (.int z t)) (hd : (x == ("__debug__" : Str)) = false := by decide) : PE X (.Name x pos) (tC (.int z)) := by
  obtain ⟨t, h⟩ := h
  exact pe_glob hg h ⟨t, rfl⟩ hd
end
end Ev

-- part EvW1
set_option maxHeartbeats 400000
set_option Elab.async false
set_option linter.all false
set_option maxRecDepth 100000
/-! The walks: order, values, expressions, instructions. -/
namespace Ev
open PySem L2
section
variable {P : Program} {w : World} {K : PySem.W.Frag} {mg : Str → Option Value} {base : Heap} {C : Addr}

/-- share: 0 one, 1 other, 2 first, 3 second -/
abbrev s_share : Stmt := top 1
theorem sc_share : FnScope ["one", "other", "first", "second"] ["one", "other"] (defScope s_share) := ⟨rfl, rfl, rfl, by decide +kernel, rfl, by decide +kernel, by decide +kernel⟩
def pShare (ds : List D) (d : D) : Prop := ∃ a b, ds = [eTo a, eTo b] ∧ d = .bool (share a b)
theorem ok_share (T : Txt w K mg C) : Cal P w K mg base 1 "share" ["one", "other"] (spR K pShare) := by
  refine T.d_share.ok sc_share (fun vs H Q E h => ?_) (fun f cdv A outer s H vs Q E hr h => ?_)
  · obtain ⟨ds, d, hd, ⟨a, b, rfl, _⟩, _⟩ := h
    exact hd.length
  · obtain ⟨ds, d, hd, ⟨a, b, rfl, rfl⟩, k⟩ := h
    rcases hd with _ | ⟨h1, _ | ⟨h2, _ | _⟩⟩
    rename_i v1 v2
    refine ⟨_, (pss_cons (ps_for PassesOwn.never rfl (pi_tup (pv 0)) (pg_name (i := 2) sc_share.nd rfl (Or.inl rfl))
          (pss_one (ps_for PassesOwn.never rfl (pi_tup (pv 1)) (pg_name (i := 3) sc_share.nd rfl (Or.inl rfl))
            (pss_one (ps_if (PW.pt (pw_and (pt_cmpR op_eq (pe_ix ix_D (pv 2) pe_int (fun _ _ => rfl)) (pe_ix ix_D (pv 3) pe_int (fun _ _ => rfl)) (nomark _)) (pw_and1 (PW.pt (pw_or (pt_val (pe_ix ix_D (pv 2) pe_int (fun _ _ => rfl))) (pw_or1 (pt_val (pe_ix ix_D (pv 3) pe_int (fun _ _ => rfl)))))))))
              (pss_one (ps_ret pe_bl))
              pss_nil)))))
        (pss_one (ps_ret pe_bl))), ?_⟩
    refine ⟨_, rfl, for_D (fun i σ H' => H' = H ∧ (∃ x y, σ = [some v1, some v2, x, y]) ∧ ∀ z ∈ a.take i, (b.any fun g => decide (z.1 = g.1) && (z.2 || g.2)) = false) h1 ⟨rfl, ⟨_, _, rfl⟩, by simp⟩ (fun i σ' H' p => p.1 ▸ Tle.refl) ?_ ?_⟩
    · rintro i x d σ' H' e r ⟨rfl, ⟨x1, y1, rfl⟩, hn⟩
      rw [List.getElem?_map] at e
      obtain ⟨z, hz, rfl⟩ := Option.map_eq_some_iff.mp e
      refine ⟨_, rfl, for_D (fun j σ H'' => H'' = H' ∧ (∃ y, σ = [some v1, some v2, some x, y]) ∧ ∀ g ∈ b.take j, (decide (z.1 = g.1) && (z.2 || g.2)) = false) h2 ⟨rfl, ⟨_, rfl⟩, by simp⟩ (fun i σ' H' p => p.1 ▸ Tle.refl) ?_ ?_⟩
      · rintro j x2 d2 σ2 H2 e2 r2 ⟨rfl, ⟨y2, rfl⟩, hn2⟩
        rw [List.getElem?_map] at e2
        obtain ⟨g, hg, rfl⟩ := Option.map_eq_some_iff.mp e2
        refine ⟨_, rfl, _, _, _, r, rfl, rfl, fun u1 hu1 => ⟨_, rfl, _, _, _, r2, rfl, rfl, fun u2 hu2 => ?_⟩⟩
        cases hu1.toStr
        cases hu2.toStr
        refine ⟨rfl, _, rfl, ?_⟩
        rw [Thg.s_dec]
        have next : (decide (z.1 = g.1) && (z.2 || g.2)) = false → ∀ h ∈ b.take (j + 1), (decide (z.1 = h.1) && (z.2 || h.2)) = false := fun q h hh => by
          rw [List.take_add_one, hg] at hh
          rcases List.mem_append.mp hh with hh | hh
          · exact hn2 h hh
          · have : h = g := by simpa using hh
            rw [this]; exact q
        have hit : (decide (z.1 = g.1) && (z.2 || g.2)) = true → Q (.bl true) H2 := fun q => by
          have es : share a b = true := List.any_eq_true.mpr ⟨z, List.mem_of_getElem? hz, List.any_eq_true.mpr ⟨g, List.mem_of_getElem? hg, q⟩⟩
          exact k H2 _ (Same.refl _) (by rw [es]; exact .bl true)
        by_cases e : z.1 = g.1
        · simp only [e, decide_true, if_true, Bool.true_and] at next hit ⊢
          refine ⟨_, rfl, _, _, _, r, rfl, rfl, fun u3 hu3 => ?_⟩
          cases hu3.toBl
          refine ⟨_, rfl, ?_⟩
          cases hz2 : z.2 with
          | true =>
            rw [hz2] at hit
            exact iteT (hit rfl)
          | false =>
            rw [hz2] at hit next
            refine iteF ?_
            refine ⟨_, rfl, _, _, _, r2, rfl, rfl, fun u4 hu4 => ?_⟩
            cases hu4.toBl
            refine ⟨_, rfl, ?_⟩
            cases hg2 : g.2 with
            | true => rw [hg2] at hit; exact iteT (hit rfl)
            | false => rw [hg2] at next; exact iteF ⟨rfl, ⟨_, rfl⟩, next rfl⟩
        · simp only [e, decide_false, Bool.false_and] at next ⊢
          exact iteF (iteF ⟨rfl, ⟨_, rfl⟩, next trivial⟩)
      · rintro σ2 H2 ⟨rfl, ⟨y2, rfl⟩, hn2⟩
        refine ⟨rfl, ⟨_, _, rfl⟩, fun h hh => ?_⟩
        rw [List.take_add_one, hz] at hh
        rcases List.mem_append.mp hh with hh | hh
        · exact hn h hh
        · have : h = z := by simpa using hh
          rw [this, List.any_eq_false]
          intro g hg
          rw [hn2 g (by simpa using hg)]
          exact Bool.false_ne_true
    · rintro σ' H' ⟨rfl, ⟨x1, y1, rfl⟩, hn⟩
      have es : share a b = false := by
        unfold share
        rw [List.any_eq_false]
        intro z hz
        rw [hn z (by simpa using hz)]
        exact Bool.false_ne_true
      exact k H' _ (Same.refl _) (by rw [es]; exact .bl false)

/-- dependent: 0 one, 1 other -/
abbrev s_dependent : Stmt := top 2
theorem sc_dependent : FnScope ["one", "other"] ["one", "other"] (defScope s_dependent) := ⟨rfl, rfl, rfl, by decide +kernel, rfl, by decide +kernel, by decide +kernel⟩
def pDep (ds : List D) (d : D) : Prop := ∃ a b, ds = [eSp a, eSp b] ∧ d = .bool (dep a b)
theorem ok_dependent (T : Txt w K mg C) : Cal P w K mg base 2 "dependent" ["one", "other"] (spR K pDep) := by
  refine T.d_dependent.ok sc_dependent (fun vs H Q E h => ?_) (fun f cdv A outer s H vs Q E hr h => ?_)
  · obtain ⟨ds, d, hd, ⟨a, b, rfl, _⟩, _⟩ := h
    exact hd.length
  · obtain ⟨ds, d, hd, ⟨a, b, rfl, rfl⟩, k⟩ := h
    rcases hd with _ | ⟨h1, _ | ⟨h2, _ | _⟩⟩
    refine ⟨_, (pss_one (ps_ret (pe_or (pe_cmpR op_eq (pe_ix ix_D (pv 0) pe_int (fun _ _ => rfl)) (pe_ix ix_D (pv 1) pe_int (fun _ _ => rfl)) (nomark _)) (pe_one (pe_own (ok_share T) (hr.mono (by decide)) rfl (pa_cons (pe_ix ix_D (pv 0) pe_int (fun _ _ => rfl)) (pa_cons (pe_ix ix_D (pv 1) pe_int (fun _ _ => rfl)) pa_nil))))))), ?_⟩
    refine ⟨_, rfl, _, _, _, h1, rfl, rfl, fun u1 hu1 => ⟨_, rfl, _, _, _, h2, rfl, rfl, fun u2 hu2 => ?_⟩⟩
    cases hu1.toInt
    cases hu2.toInt
    refine ⟨rfl, _, rfl, ?_⟩
    have e : decide (V.int (a.th : Int) = V.int (b.th : Int)) = decide (a.th = b.th) := decide_eq_decide.mpr ⟨fun q => by have := V.int.inj q; omega, fun q => by rw [q]⟩
    rw [e]
    by_cases h : a.th = b.th
    · rw [decide_eq_true h]
      refine iteT ?_
      have ed : dep a b = true := by simp [dep, h]
      exact k H _ (Same.refl _) (by rw [ed]; exact .bl true)
    · rw [decide_eq_false h]
      refine iteF ?_
      have ed : dep a b = share a.to b.to := by simp [dep, h]
      refine ⟨_, rfl, _, _, _, h1, rfl, rfl, fun u3 hu3 => ⟨_, rfl, _, _, _, h2, rfl, rfl, fun u4 hu4 => ?_⟩⟩
      exact ⟨_, _, .cons hu3 (.cons hu4 .nil), ⟨a.to, b.to, rfl, rfl⟩, fun H' v s' hv => k H' v s' (by rw [ed]; exact hv)⟩

/-- can_come_sooner: 0 steps, 1 step, 2 k -/
abbrev s_can_come_sooner : Stmt := top 16
theorem sc_can_come_sooner : FnScope ["steps", "step", "k"] ["steps", "step"] (defScope s_can_come_sooner) := ⟨rfl, rfl, rfl, by decide +kernel, rfl, by decide +kernel, by decide +kernel⟩
def pSoon (ds : List D) (d : D) : Prop := ∃ R e, ds = [eRow R, eSp e] ∧ R.length < 1000 ∧ d = .bool (canSooner R e)
theorem ok_can_come_sooner (T : Txt w K mg C) : Cal P w K mg base 3 "can_come_sooner" ["steps", "step"] (spR K pSoon) := by
  refine T.d_can_come_sooner.ok sc_can_come_sooner (fun vs H Q E h => ?_) (fun f cdv A outer s H vs Q E hr h => ?_)
  · obtain ⟨ds, d, hd, ⟨a, b, rfl, _⟩, _⟩ := h
    exact hd.length
  · obtain ⟨ds, d, hd, ⟨R, st, rfl, hlen, rfl⟩, k⟩ := h
    rcases hd with _ | ⟨h1, _ | ⟨h2, _ | _⟩⟩
    rename_i v1 v2
    refine ⟨_, (pss_cons (ps_for PassesOwn.never rfl (pi_range3 rfl T.range (pa_cons (pe_op op_sub (pe_callB call_lenD' (by rfl) T.len PySem.boot_len (pa_cons (pv 0) pa_nil)) pe_int) (pa_cons (pe_un un_neg pe_int) (pa_cons (pe_un un_neg pe_int) pa_nil)))) (pg_name (i := 2) sc_can_come_sooner.nd rfl (Or.inl rfl))
          (pss_cons (ps_if (pt_val (pe_own (ok_dependent T) (hr.mono (by decide)) rfl (pa_cons (pe_ix ix_D (pv 0) (pv 2) (fun _ _ => rfl)) (pa_cons (pv 1) pa_nil))))
            (pss_one (ps_ret pe_bl))
            pss_nil)
          (pss_one (ps_if (pt_cmpR op_lt (pe_ix ix_D (pv 1) pe_int (fun _ _ => rfl)) (pe_ix ix_D (pe_ix ix_D (pv 0) (pv 2) (fun _ _ => rfl)) pe_int (fun _ _ => rfl)) (nomark _))
            (pss_one (ps_ret pe_bl))
            pss_nil))))
        (pss_one (ps_ret pe_bl))), ?_⟩
    have hl : (R.map eSp).length = R.length := List.length_map _
    refine ⟨_, rfl, _, _, rfl, h1, _, _, rfl, rfl, _, rfl, _, rfl, ?_⟩
    refine ⟨_, _, _, _, rfl, RgC.neg (by rw [hl]; omega) (by rw [hl]; omega) (by decide) (by decide), ?_⟩
    have en : ((((R.map eSp).length : Int) - 1) - -1).toNat = R.length := by rw [hl]; omega
    rw [en]
    refine for_rangeC (fun i σ H' => Same H H' ∧ (∃ x, σ = [some v1, some v2, x]) ∧ canSooner R st = soonerR (R.reverse.drop i) st) ⟨Same.refl H, ⟨_, rfl⟩, rfl⟩ ?_ ?_
    · rintro i σ' H' hi ⟨s0, ⟨x, rfl⟩, hn⟩
      have hj : R.length - 1 - i < R.length := by omega
      have ej : ((((R.map eSp).length : Int) - 1) + (i : Nat) * -1) = ((R.length - 1 - i : Nat) : Int) := by rw [hl]; omega
      rw [ej]
      obtain ⟨c, hc⟩ : ∃ c, R[R.length - 1 - i]? = some c := ⟨_, List.getElem?_eq_getElem hj⟩
      have hr' : R.reverse[i]? = some c := by rw [List.getElem?_reverse hi]; exact hc
      have hd : R.reverse.drop i = c :: R.reverse.drop (i + 1) := by
        obtain ⟨h, e⟩ := List.getElem?_eq_some_iff.mp hr'
        rw [List.drop_eq_getElem_cons h, e]
      rw [hd] at hn
      refine ⟨_, rfl, ⟨_, rfl, _, _, _, h1.sm s0, rfl, at_map hc, fun u hu => ⟨_, rfl, ?_⟩⟩⟩
      refine ⟨_, _, .cons hu (.cons (h2.sm s0) .nil), ⟨c, st, rfl, rfl⟩, fun H1 v s1 hv => ?_⟩
      have s2 := s0.trans s1
      cases hv.toBl
      refine ⟨_, rfl, ?_⟩
      unfold soonerR at hn
      cases hdp : dep c st with
      | true =>
        rw [hdp, if_pos rfl] at hn
        exact iteT (k H1 _ s2 (by rw [hn]; exact .bl false))
      | false =>
        rw [hdp, if_neg Bool.false_ne_true] at hn
        refine iteF ?_
        refine ⟨_, rfl, _, _, _, h2.sm s2, rfl, rfl, fun u2 hu2 => ⟨_, rfl, ⟨_, rfl, _, _, _, h1.sm s2, rfl, at_map hc, fun u3 hu3 => ⟨_, _, _, hu3, rfl, rfl, fun u4 hu4 => ?_⟩⟩⟩⟩
        cases hu2.toInt
        cases hu4.toInt
        refine ⟨_, _, rfl, rfl, _, rfl, ?_⟩
        have e : decide ((st.th : Int) < (c.th : Int)) = decide (st.th < c.th) := decide_eq_decide.mpr (by omega)
        rw [e]
        by_cases hlt : st.th < c.th
        · rw [decide_eq_true hlt]
          rw [if_pos hlt] at hn
          exact iteT (k H1 _ s2 (by rw [hn]; exact .bl true))
        · rw [decide_eq_false hlt]
          rw [if_neg hlt] at hn
          exact iteF ⟨s2, ⟨_, rfl⟩, hn⟩
    · rintro σ' H' ⟨s0, ⟨x, rfl⟩, hn⟩
      rw [List.drop_of_length_le (by simp)] at hn
      exact k H' _ s0 (by rw [hn]; exact .bl false)

/-- is_value: 0 n -/
abbrev s_is_value : Stmt := top 19
theorem sc_is_value : FnScope ["n"] ["n"] (defScope s_is_value) := ⟨rfl, rfl, rfl, by decide +kernel, rfl, by decide +kernel, by decide +kernel⟩
def pIsV (ds : List D) (d : D) : Prop := ∃ n : Int, ds = [.int n] ∧ d = .bool (decide (-99 ≤ n) && decide (n ≤ 99))
theorem ok_is_value (T : Txt w K mg C) : Cal P w K mg base 1 "is_value" ["n"] (spR K pIsV) := by
  refine T.d_is_value.ok sc_is_value (fun vs H Q E h => ?_) (fun f cdv A outer s H vs Q E hr h => ?_)
  · obtain ⟨ds, d, hd, ⟨n, rfl, _⟩, _⟩ := h
    exact hd.length
  · obtain ⟨ds, d, hd, ⟨n, rfl, rfl⟩, k⟩ := h
    rcases hd with _ | ⟨h1, _ | _⟩
    cases h1.toInt
    refine ⟨_, (pss_one (ps_ret (pe_and (pe_cmpR op_le (pe_un un_neg (pe_gi rfl T.g_MOST)) (pv 0) (nomark _)) (pe_one (pe_cmpR op_le (pv 0) (pe_gi rfl T.g_MOST) (nomark _)))))), ?_⟩
    refine ⟨99, rfl, _, rfl, _, _, rfl, rfl, _, rfl, ?_⟩
    by_cases h : (-99 : Int) ≤ n
    · have e : decide ((-99 : Int) ≤ n) = true := decide_eq_true h
      rw [e] at k ⊢
      exact iteT ⟨_, rfl, _, _, rfl, rfl, k H _ (Same.refl _) (by rw [Bool.true_and]; exact .bl _)⟩
    · have e : decide ((-99 : Int) ≤ n) = false := decide_eq_false h
      rw [e] at k ⊢
      exact iteF (k H _ (Same.refl _) (.bl _))

/-- operate: 0 sign, 1 x, 2 y, 3 result -/
abbrev s_operate : Stmt := top 20
theorem sc_operate : FnScope ["sign", "x", "y", "result"] ["sign", "x", "y"] (defScope s_operate) := ⟨rfl, rfl, rfl, by decide +kernel, rfl, by decide +kernel, by decide +kernel⟩
def pOper (ds : List D) (d : D) : Prop := ∃ x y : Int, (-1000 < x ∧ x < 1000 ∧ -1000 < y ∧ y < 1000) ∧
  ((ds = [.str "+", .int x, .int y] ∧ d = if -99 ≤ x + y ∧ x + y ≤ 99 then .int (x + y) else .none) ∨ (ds = [.str "<", .int x, .int y] ∧ d = .int (if x < y then 1 else 0)))
theorem ok_operate (T : Txt w K mg C) : Cal P w K mg base 2 "operate" ["sign", "x", "y"] (spR K pOper) := by
  refine T.d_operate.ok sc_operate (fun vs H Q E h => ?_) (fun f cdv A outer s H vs Q E hr h => ?_)
  · obtain ⟨ds, d, hd, ⟨x, y, _, ⟨rfl, _⟩ | ⟨rfl, _⟩⟩, _⟩ := h <;> exact hd.length
  · obtain ⟨ds, d, hd, ⟨x, y, hb, hh⟩, k⟩ := h
    rcases hh with ⟨rfl, rfl⟩ | ⟨rfl, rfl⟩
    · rcases hd with _ | ⟨h1, _ | ⟨h2, _ | ⟨h3, _ | _⟩⟩⟩
      cases h1.toStr
      cases h2.toInt
      cases h3.toInt
      refine ⟨_, (pss_cons (ps_if (pt_cmpR op_eq (pv 0) pe_str (nomark _))
            (pss_one (ps_ret (pe_callTy call_int1 (by rfl) T.int (by decide +kernel) (pa_cons (pe_cmpR op_eq (pv 1) (pv 2) (nomark _)) pa_nil))))
            pss_nil)
          (pss_cons (ps_if (pt_cmpR op_eq (pv 0) pe_str (nomark _))
            (pss_one (ps_ret (pe_callTy call_int1 (by rfl) T.int (by decide +kernel) (pa_cons (pe_cmpR op_lt (pv 1) (pv 2) (nomark _)) pa_nil))))
            pss_nil)
          (pss_cons (ps_if (pt_cmpR op_eq (pv 0) pe_str (nomark _))
            (pss_one (ps_ret (pe_callTy call_int1 (by rfl) T.int (by decide +kernel) (pa_cons (pe_and (pe_cmpR op_ne (pv 1) pe_int (nomark _)) (pe_one (pe_cmpR op_ne (pv 2) pe_int (nomark _)))) pa_nil))))
            pss_nil)
          (pss_cons (ps_if (pt_cmpR op_eq (pv 0) pe_str (nomark _))
            (pss_one (ps_ret (pe_callTy call_int1 (by rfl) T.int (by decide +kernel) (pa_cons (pe_or (pe_cmpR op_ne (pv 1) pe_int (nomark _)) (pe_one (pe_cmpR op_ne (pv 2) pe_int (nomark _)))) pa_nil))))
            pss_nil)
          (pss_cons (ps_set (i := 3) sc_operate.nd rfl (Or.inl rfl) (pe_op op_mul (pv 1) (pv 2)))
          (pss_cons (ps_if (pt_cmpR op_eq (pv 0) pe_str (nomark _))
            (pss_one (ps_set (i := 3) sc_operate.nd rfl (Or.inl rfl) (pe_op op_add (pv 1) (pv 2))))
            pss_nil)
          (pss_cons (ps_if (pt_cmpR op_eq (pv 0) pe_str (nomark _))
            (pss_one (ps_set (i := 3) sc_operate.nd rfl (Or.inl rfl) (pe_op op_sub (pv 1) (pv 2))))
            pss_nil)
          (pss_cons (ps_if (pt_val (pe_own (ok_is_value T) (hr.mono (by decide)) rfl (pa_cons (pv 3) pa_nil)))
            (pss_one (ps_ret (pv 3)))
            pss_nil)
          (pss_one (ps_ret pe_non)))))))))), ?_⟩
      refine tst_ne rfl (by decide +kernel) (iteF ?_)
      refine tst_ne rfl (by decide +kernel) (iteF ?_)
      refine tst_ne rfl (by decide +kernel) (iteF ?_)
      refine tst_ne rfl (by decide +kernel) (iteF ?_)
      refine ⟨_, rfl, _, rfl, _, _, rfl, rfl, .inl ⟨by omega, by omega⟩, ?_⟩
      refine tst_eq rfl rfl (iteT ?_)
      refine ⟨_, rfl, _, rfl, _, _, rfl, rfl, ?_⟩
      refine tst_ne rfl (by decide +kernel) (iteF ?_)
      refine ⟨_, rfl, _, _, .cons (.int _) .nil, ⟨x + y, rfl, rfl⟩, fun H1 v s1 hv => ?_⟩
      cases hv.toBl
      refine ⟨_, rfl, ?_⟩
      by_cases h : -99 ≤ x + y ∧ x + y ≤ 99
      · have e : (decide (-99 ≤ x + y) && decide (x + y ≤ 99)) = true := by rw [decide_eq_true h.1, decide_eq_true h.2]; rfl
        rw [e]
        rw [if_pos h] at k
        exact iteT ⟨_, rfl, k H1 _ s1 (.int _)⟩
      · have e : (decide (-99 ≤ x + y) && decide (x + y ≤ 99)) = false := by
          rw [Bool.and_eq_false_iff, decide_eq_false_iff_not, decide_eq_false_iff_not]
          omega
        rw [e]
        rw [if_neg h] at k
        exact iteF (k H1 _ s1 .non)
    · rcases hd with _ | ⟨h1, _ | ⟨h2, _ | ⟨h3, _ | _⟩⟩⟩
      cases h1.toStr
      cases h2.toInt
      cases h3.toInt
      refine ⟨_, (pss_cons (ps_if (pt_cmpR op_eq (pv 0) pe_str (nomark _))
            (pss_one (ps_ret (pe_callTy call_int1 (by rfl) T.int (by decide +kernel) (pa_cons (pe_cmpR op_eq (pv 1) (pv 2) (nomark _)) pa_nil))))
            pss_nil)
          (pss_cons (ps_if (pt_cmpR op_eq (pv 0) pe_str (nomark _))
            (pss_one (ps_ret (pe_callTy call_int1 (by rfl) T.int (by decide +kernel) (pa_cons (pe_cmpR op_lt (pv 1) (pv 2) (nomark _)) pa_nil))))
            pss_nil)
          (pss_cons (ps_if (pt_cmpR op_eq (pv 0) pe_str (nomark _))
            (pss_one (ps_ret (pe_callTy call_int1 (by rfl) T.int (by decide +kernel) (pa_cons (pe_and (pe_cmpR op_ne (pv 1) pe_int (nomark _)) (pe_one (pe_cmpR op_ne (pv 2) pe_int (nomark _)))) pa_nil))))
            pss_nil)
          (pss_cons (ps_if (pt_cmpR op_eq (pv 0) pe_str (nomark _))
            (pss_one (ps_ret (pe_callTy call_int1 (by rfl) T.int (by decide +kernel) (pa_cons (pe_or (pe_cmpR op_ne (pv 1) pe_int (nomark _)) (pe_one (pe_cmpR op_ne (pv 2) pe_int (nomark _)))) pa_nil))))
            pss_nil)
          (pss_cons (ps_set (i := 3) sc_operate.nd rfl (Or.inl rfl) (pe_op op_mul (pv 1) (pv 2)))
          (pss_cons (ps_if (pt_cmpR op_eq (pv 0) pe_str (nomark _))
            (pss_one (ps_set (i := 3) sc_operate.nd rfl (Or.inl rfl) (pe_op op_add (pv 1) (pv 2))))
            pss_nil)
          (pss_cons (ps_if (pt_cmpR op_eq (pv 0) pe_str (nomark _))
            (pss_one (ps_set (i := 3) sc_operate.nd rfl (Or.inl rfl) (pe_op op_sub (pv 1) (pv 2))))
            pss_nil)
          (pss_cons (ps_if (pt_val (pe_own (ok_is_value T) (hr.mono (by decide)) rfl (pa_cons (pv 3) pa_nil)))
            (pss_one (ps_ret (pv 3)))
            pss_nil)
          (pss_one (ps_ret pe_non)))))))))), ?_⟩
      refine tst_ne rfl (by decide +kernel) (iteF ?_)
      refine tst_eq rfl rfl (iteT ?_)
      refine ⟨_, rfl, _, rfl, _, _, rfl, rfl, .inr ⟨_, rfl, ?_⟩⟩
      by_cases h : x < y
      · rw [if_pos h] at k
        rw [decide_eq_true h]
        exact k H _ (Same.refl _) (.int 1)
      · rw [if_neg h] at k
        rw [decide_eq_false h]
        exact k H _ (Same.refl _) (.int 0)

/-- evaluate: 0 tree, 1 registers, 2 left, 3 right, 4 result, 5 value -/
abbrev s_evaluate : Stmt := top 23
theorem sc_evaluate : FnScope ["tree", "registers", "left", "right", "result", "value"] ["tree", "registers"] (defScope s_evaluate) := ⟨rfl, rfl, rfl, by decide +kernel, rfl, by decide +kernel, by decide +kernel⟩
def eEv : Option Int → D
  | some z => .int z
  | none => .str "range"
def leafs : List Tr → Prop := fun l => ∀ t ∈ l, (∃ n, t = .num n) ∨ t = .ra
/-- evaluate of a number or a register -/
def pEv0 (ds : List D) (d : D) : Prop := ∃ z b : Int, (∃ n : Int, ds = [.tuple [.str "num", .int n], .tuple [.int z, .int b, .int 0, .int 0]] ∧ d = .int n) ∨ (ds = [eRa, .tuple [.int z, .int b, .int 0, .int 0]] ∧ d = .int z)
theorem ok_evaluate0 (T : Txt w K mg C) : Cal P w K mg base 3 "evaluate" ["tree", "registers"] (spR K pEv0) := by
  obtain ⟨aR, gR, kR, hR⟩ := T.g_REGISTERS
  refine T.d_evaluate.ok sc_evaluate (fun vs H Q E h => ?_) (fun f cdv A outer s H vs Q E hr h => ?_)
  · obtain ⟨ds, d, hd, ⟨z, b, ⟨n, rfl, _⟩ | ⟨rfl, _⟩⟩, _⟩ := h <;> exact hd.length
  · obtain ⟨ds, d, hd, ⟨z, b, ⟨n, rfl, rfl⟩ | ⟨rfl, rfl⟩⟩, k⟩ := h
    · rcases hd with _ | ⟨h1, _ | ⟨h2, _ | _⟩⟩
      refine ⟨_, (pss_cons (ps_if (pt_cmpR op_eq (pe_ix ix_D (pv 0) pe_int (fun _ _ => rfl)) pe_str (nomark _))
        (pss_one (ps_ret (pe_ix ix_D (pv 0) pe_int (fun _ _ => rfl))))
        pss_nil) pss_never), ?_⟩
      refine txt_eq rfl h1 rfl rfl (iteT ?_)
      exact ⟨_, rfl, _, _, _, h1, rfl, rfl, fun u hu => k H u (Same.refl _) hu⟩
    · rcases hd with _ | ⟨h1, _ | ⟨h2, _ | _⟩⟩
      refine ⟨_, (pss_cons (ps_if (pt_cmpR op_eq (pe_ix ix_D (pv 0) pe_int (fun _ _ => rfl)) pe_str (nomark _))
        (pss_one (ps_ret (pe_ix ix_D (pv 0) pe_int (fun _ _ => rfl))))
        pss_nil)
      (pss_cons (ps_if (pt_cmpR op_eq (pe_ix ix_D (pv 0) pe_int (fun _ _ => rfl)) pe_str (nomark _))
        (pss_one (ps_ret (pe_ix ix_D (pv 1) (pe_bm PySem.F.plainAttrs_tuple PySem.F.slot_tuple_index PySem.F.type_tuple_index mt_tup_index (pe_glob (v := .ref aR) rfl gR rfl) (pa_cons (pe_ix ix_D (pv 0) pe_int (fun _ _ => rfl)) pa_nil)) (fun _ _ => rfl))))
        pss_nil) pss_never)), ?_⟩
      refine txt_ne rfl h1 rfl (by decide +kernel) (iteF ?_)
      refine txt_eq rfl h1 rfl rfl (iteT ?_)
      refine ⟨_, rfl, .inr (.inl ⟨rfl, kR⟩), _, rfl, _, _, _, h1, rfl, rfl, fun u hu => ?_⟩
      cases hu.toStr
      refine ⟨aR, ["a", "b", "c", "d"], _, 0, rfl, rfl, hR _, rfl, fun m hm => absurd hm (Nat.not_lt_zero _), ?_⟩
      exact ⟨_, _, _, h2, rfl, rfl, fun u hu => k H u (Same.refl _) hu⟩
/-- evaluate of what is drawn -/
def pEv (ds : List D) (d : D) : Prop := ∃ (t : Tr) (z b : Int), Vok z ∧ ds = [eTr t, .tuple [.int z, .int b, .int 0, .int 0]] ∧ d = eEv (ev t z)
theorem ok_evaluate (T : Txt w K mg C) : Cal P w K mg base 6 "evaluate" ["tree", "registers"] (spR K pEv) := by
  have C0 := ok_evaluate0 (P := P) (base := base) T
  have C1 := ok_operate (P := P) (base := base) T
  have low : ∀ vs H Q E, (∃ ds d, RpAll K H vs ds ∧ pEv0 ds d ∧ ∀ H' v, Same H H' → Rp K H' v d → Q v H') → spR K pEv0 vs H Q E := fun _ _ _ _ h => h
  obtain ⟨aR, gR, kR, hR⟩ := T.g_REGISTERS
  obtain ⟨f0, fd0, F0, m0, kp0, b0⟩ := C0
  refine T.d_evaluate.ok sc_evaluate (fun vs H Q E h => ?_) (fun f cdv A outer s H vs Q E hr h => ?_)
  · obtain ⟨ds, d, hd, ⟨t, z, b, _, rfl, _⟩, _⟩ := h
    exact hd.length
  · obtain ⟨ds, d, hd, ⟨t, z, b, hz, rfl, rfl⟩, k⟩ := h
    rcases hd with _ | ⟨h1, _ | ⟨h2, _ | _⟩⟩
    rename_i v1 v2
    have C0 : Cal P w K mg base 3 "evaluate" ["tree", "registers"] (spR K pEv0) := ⟨f0, fd0, F0, m0, kp0, b0⟩
    cases t with
    | num n =>
      refine ⟨_, (pss_cons (ps_if (pt_cmpR op_eq (pe_ix ix_D (pv 0) pe_int (fun _ _ => rfl)) pe_str (nomark _))
        (pss_one (ps_ret (pe_ix ix_D (pv 0) pe_int (fun _ _ => rfl))))
        pss_nil) pss_never), ?_⟩
      refine txt_eq rfl h1 rfl rfl (iteT ?_)
      exact ⟨_, rfl, _, _, _, h1, rfl, rfl, fun u hu => k H u (Same.refl _) hu⟩
    | ra =>
      refine ⟨_, (pss_cons (ps_if (pt_cmpR op_eq (pe_ix ix_D (pv 0) pe_int (fun _ _ => rfl)) pe_str (nomark _))
        (pss_one (ps_ret (pe_ix ix_D (pv 0) pe_int (fun _ _ => rfl))))
        pss_nil)
      (pss_cons (ps_if (pt_cmpR op_eq (pe_ix ix_D (pv 0) pe_int (fun _ _ => rfl)) pe_str (nomark _))
        (pss_one (ps_ret (pe_ix ix_D (pv 1) (pe_bm PySem.F.plainAttrs_tuple PySem.F.slot_tuple_index PySem.F.type_tuple_index mt_tup_index (pe_glob (v := .ref aR) rfl gR rfl) (pa_cons (pe_ix ix_D (pv 0) pe_int (fun _ _ => rfl)) pa_nil)) (fun _ _ => rfl))))
        pss_nil) pss_never)), ?_⟩
      refine txt_ne rfl h1 rfl (by decide +kernel) (iteF ?_)
      refine txt_eq rfl h1 rfl rfl (iteT ?_)
      refine ⟨_, rfl, .inr (.inl ⟨rfl, kR⟩), _, rfl, _, _, _, h1, rfl, rfl, fun u hu => ?_⟩
      cases hu.toStr
      refine ⟨aR, ["a", "b", "c", "d"], _, 0, rfl, rfl, hR _, rfl, fun m hm => absurd hm (Nat.not_lt_zero _), ?_⟩
      exact ⟨_, _, _, h2, rfl, rfl, fun u hu => k H u (Same.refl _) hu⟩
    | inc =>
      refine ⟨_, (pss_cons (ps_if (pt_cmpR op_eq (pe_ix ix_D (pv 0) pe_int (fun _ _ => rfl)) pe_str (nomark _))
                (pss_one (ps_ret (pe_ix ix_D (pv 0) pe_int (fun _ _ => rfl))))
                pss_nil)
              (pss_cons (ps_if (pt_cmpR op_eq (pe_ix ix_D (pv 0) pe_int (fun _ _ => rfl)) pe_str (nomark _))
                (pss_one (ps_ret (pe_ix ix_D (pv 1) (pe_bm PySem.F.plainAttrs_tuple PySem.F.slot_tuple_index PySem.F.type_tuple_index mt_tup_index (pe_glob (v := .ref aR) rfl gR rfl) (pa_cons (pe_ix ix_D (pv 0) pe_int (fun _ _ => rfl)) pa_nil)) (fun _ _ => rfl))))
                pss_nil)
              (pss_cons (ps_if (pt_cmpR op_eq (pe_ix ix_D (pv 0) pe_int (fun _ _ => rfl)) pe_str (nomark _))
                (pss_cons (ps_set (i := 2) sc_evaluate.nd rfl (Or.inl rfl) (pe_own C0 (hr.mono (by decide)) rfl (pa_cons (pe_ix ix_D (pv 0) pe_int (fun _ _ => rfl)) (pa_cons (pv 1) pa_nil))))
                (pss_cons (ps_if (pt_cmpR op_eq (pv 2) pe_str (nomark _))
                  (pss_one (ps_ret (pv 2)))
                  pss_nil)
                (pss_cons (ps_set (i := 3) sc_evaluate.nd rfl (Or.inl rfl) (pe_own C0 (hr.mono (by decide)) rfl (pa_cons (pe_ix ix_D (pv 0) pe_int (fun _ _ => rfl)) (pa_cons (pv 1) pa_nil))))
                (pss_cons (ps_if (pt_cmpR op_eq (pv 3) pe_str (nomark _))
                  (pss_one (ps_ret (pv 3)))
                  pss_nil)
                (pss_cons (ps_set (i := 4) sc_evaluate.nd rfl (Or.inl rfl) (pe_own (ok_operate T) (hr.mono (by decide)) rfl (pa_cons (pe_ix ix_D (pv 0) pe_int (fun _ _ => rfl)) (pa_cons (pv 2) (pa_cons (pv 3) pa_nil)))))
                (pss_cons (ps_if (pt_cmpR op_isN (pv 4) pe_non (nomark _))
                  (pss_one (ps_ret pe_str))
                  pss_nil)
                (pss_one (ps_ret (pv 4)))))))))
                pss_nil)
              pss_never))), ?_⟩
      refine txt_ne rfl h1 rfl (by decide +kernel) (iteF ?_)
      refine txt_ne rfl h1 rfl (by decide +kernel) (iteF ?_)
      refine txt_eq rfl h1 rfl rfl (iteT ?_)
      refine ⟨_, rfl, _, _, _, h1, rfl, rfl, fun u hu => ⟨_, rfl, ?_⟩⟩
      refine ⟨_, _, .cons hu (.cons h2 .nil), ⟨z, b, .inr ⟨rfl, rfl⟩⟩, fun H1 x1 s1 hx1 => ?_⟩
      cases hx1.toInt
      refine ⟨_, rfl, rfl, _, rfl, iteF ?_⟩
      refine ⟨_, rfl, _, _, _, h1.sm s1, rfl, rfl, fun u2 hu2 => ⟨_, rfl, ?_⟩⟩
      refine ⟨_, _, .cons hu2 (.cons (h2.sm s1) .nil), ⟨z, b, .inl ⟨1, rfl, rfl⟩⟩, fun H2 x2 s2 hx2 => ?_⟩
      cases hx2.toInt
      have s12 := s1.trans s2
      refine ⟨_, rfl, rfl, _, rfl, iteF ?_⟩
      refine ⟨_, rfl, _, _, _, h1.sm s12, rfl, rfl, fun u3 hu3 => ?_⟩
      cases hu3.toStr
      refine ⟨_, rfl, _, rfl, ?_⟩
      refine ⟨_, _, .cons (.str _) (.cons (.int _) (.cons (.int _) .nil)), ⟨z, 1, ⟨by have := hz.1; omega, by have := hz.2; omega, by decide, by decide⟩, .inl ⟨rfl, rfl⟩⟩, fun H3 x3 s3 hx3 => ?_⟩
      have s13 := s12.trans s3
      by_cases h : -99 ≤ z + 1 ∧ z + 1 ≤ 99
      · rw [if_pos h] at hx3
        cases hx3.toInt
        refine ⟨_, rfl, rfl, _, rfl, iteF ?_⟩
        refine ⟨_, rfl, k H3 _ s13 ?_⟩
        show Rp K H3 _ (eEv (if -99 ≤ z + 1 ∧ z + 1 ≤ 99 then some (z + 1) else none))
        rw [if_pos h]
        exact .int _
      · rw [if_neg h] at hx3
        cases hx3.toNon
        refine ⟨_, rfl, rfl, _, rfl, iteT ?_⟩
        refine k H3 _ s13 ?_
        show Rp K H3 _ (eEv (if -99 ≤ z + 1 ∧ z + 1 ≤ 99 then some (z + 1) else none))
        rw [if_neg h]
        exact .str _
    | less =>
      refine ⟨_, (pss_cons (ps_if (pt_cmpR op_eq (pe_ix ix_D (pv 0) pe_int (fun _ _ => rfl)) pe_str (nomark _))
                (pss_one (ps_ret (pe_ix ix_D (pv 0) pe_int (fun _ _ => rfl))))
                pss_nil)
              (pss_cons (ps_if (pt_cmpR op_eq (pe_ix ix_D (pv 0) pe_int (fun _ _ => rfl)) pe_str (nomark _))
                (pss_one (ps_ret (pe_ix ix_D (pv 1) (pe_bm PySem.F.plainAttrs_tuple PySem.F.slot_tuple_index PySem.F.type_tuple_index mt_tup_index (pe_glob (v := .ref aR) rfl gR rfl) (pa_cons (pe_ix ix_D (pv 0) pe_int (fun _ _ => rfl)) pa_nil)) (fun _ _ => rfl))))
                pss_nil)
              (pss_cons (ps_if (pt_cmpR op_eq (pe_ix ix_D (pv 0) pe_int (fun _ _ => rfl)) pe_str (nomark _))
                (pss_cons (ps_set (i := 2) sc_evaluate.nd rfl (Or.inl rfl) (pe_own C0 (hr.mono (by decide)) rfl (pa_cons (pe_ix ix_D (pv 0) pe_int (fun _ _ => rfl)) (pa_cons (pv 1) pa_nil))))
                (pss_cons (ps_if (pt_cmpR op_eq (pv 2) pe_str (nomark _))
                  (pss_one (ps_ret (pv 2)))
                  pss_nil)
                (pss_cons (ps_set (i := 3) sc_evaluate.nd rfl (Or.inl rfl) (pe_own C0 (hr.mono (by decide)) rfl (pa_cons (pe_ix ix_D (pv 0) pe_int (fun _ _ => rfl)) (pa_cons (pv 1) pa_nil))))
                (pss_cons (ps_if (pt_cmpR op_eq (pv 3) pe_str (nomark _))
                  (pss_one (ps_ret (pv 3)))
                  pss_nil)
                (pss_cons (ps_set (i := 4) sc_evaluate.nd rfl (Or.inl rfl) (pe_own (ok_operate T) (hr.mono (by decide)) rfl (pa_cons (pe_ix ix_D (pv 0) pe_int (fun _ _ => rfl)) (pa_cons (pv 2) (pa_cons (pv 3) pa_nil)))))
                (pss_cons (ps_if (pt_cmpR op_isN (pv 4) pe_non (nomark _))
                  (pss_one (ps_ret pe_str))
                  pss_nil)
                (pss_one (ps_ret (pv 4)))))))))
                pss_nil)
              pss_never))), ?_⟩
      refine txt_ne rfl h1 rfl (by decide +kernel) (iteF ?_)
      refine txt_ne rfl h1 rfl (by decide +kernel) (iteF ?_)
      refine txt_eq rfl h1 rfl rfl (iteT ?_)
      refine ⟨_, rfl, _, _, _, h1, rfl, rfl, fun u hu => ⟨_, rfl, ?_⟩⟩
      refine ⟨_, _, .cons hu (.cons h2 .nil), ⟨z, b, .inr ⟨rfl, rfl⟩⟩, fun H1 x1 s1 hx1 => ?_⟩
      cases hx1.toInt
      refine ⟨_, rfl, rfl, _, rfl, iteF ?_⟩
      refine ⟨_, rfl, _, _, _, h1.sm s1, rfl, rfl, fun u2 hu2 => ⟨_, rfl, ?_⟩⟩
      refine ⟨_, _, .cons hu2 (.cons (h2.sm s1) .nil), ⟨z, b, .inl ⟨2, rfl, rfl⟩⟩, fun H2 x2 s2 hx2 => ?_⟩
      cases hx2.toInt
      have s12 := s1.trans s2
      refine ⟨_, rfl, rfl, _, rfl, iteF ?_⟩
      refine ⟨_, rfl, _, _, _, h1.sm s12, rfl, rfl, fun u3 hu3 => ?_⟩
      cases hu3.toStr
      refine ⟨_, rfl, _, rfl, ?_⟩
      refine ⟨_, _, .cons (.str _) (.cons (.int _) (.cons (.int _) .nil)), ⟨z, 2, ⟨by have := hz.1; omega, by have := hz.2; omega, by decide, by decide⟩, .inr ⟨rfl, rfl⟩⟩, fun H3 x3 s3 hx3 => ?_⟩
      cases hx3.toInt
      refine ⟨_, rfl, rfl, _, rfl, iteF ?_⟩
      exact ⟨_, rfl, k H3 _ (s12.trans s3) hx3⟩
end
end Ev

-- part EvW2
set_option maxHeartbeats 400000
set_option Elab.async false
set_option linter.all false
set_option maxRecDepth 100000
/-! The walks: instructions, names, the state as it is asked. -/
namespace Ev
open PySem L2
section
variable {P : Program} {w : World} {K : PySem.W.Frag} {mg : Str → Option Value} {base : Heap} {C : Addr}

def In.treeIx : In → Option Int
  | .lett _ => some 2 | .put _ _ => some 2 | .add _ _ => some 2 | .send _ => some 2 | .check _ => some 1 | .go _ _ => some 2
  | _ => none
def In.thingIx : In → Option Int
  | .get _ _ => some 2 | .put _ _ => some 1 | .add _ _ => some 1 | .lock _ => some 1 | .unlock _ => some 1 | .wait => some 1 | .notify => some 1 | .notifyall => some 1 | .send _ => some 1 | .take => some 2
  | _ => none
theorem tree_tab : ∀ i : In, (i.k, i.treeIx) ∈ tabTree
  | .lett _ => (by decide +kernel : (("let" : Str), (some 2 : Option Int)) ∈ tabTree)
  | .get _ _ => (by decide +kernel : (("get" : Str), (none : Option Int)) ∈ tabTree)
  | .put _ _ => (by decide +kernel : (("put" : Str), (some 2 : Option Int)) ∈ tabTree)
  | .add _ _ => (by decide +kernel : (("add" : Str), (some 2 : Option Int)) ∈ tabTree)
  | .lock _ => (by decide +kernel : (("lock" : Str), (none : Option Int)) ∈ tabTree)
  | .unlock _ => (by decide +kernel : (("unlock" : Str), (none : Option Int)) ∈ tabTree)
  | .wait => (by decide +kernel : (("wait" : Str), (none : Option Int)) ∈ tabTree)
  | .notify => (by decide +kernel : (("notify" : Str), (none : Option Int)) ∈ tabTree)
  | .notifyall => (by decide +kernel : (("notifyall" : Str), (none : Option Int)) ∈ tabTree)
  | .send _ => (by decide +kernel : (("send" : Str), (some 2 : Option Int)) ∈ tabTree)
  | .take => (by decide +kernel : (("take" : Str), (none : Option Int)) ∈ tabTree)
  | .check _ => (by decide +kernel : (("check" : Str), (some 1 : Option Int)) ∈ tabTree)
  | .go _ _ => (by decide +kernel : (("go" : Str), (some 2 : Option Int)) ∈ tabTree)
  | .beg => (by decide +kernel : (("begin" : Str), (none : Option Int)) ∈ tabTree)
  | .fin => (by decide +kernel : (("end" : Str), (none : Option Int)) ∈ tabTree)
theorem thing_tab : ∀ i : In, (i.k, i.thingIx) ∈ tabThing
  | .lett _ => (by decide +kernel : (("let" : Str), (none : Option Int)) ∈ tabThing)
  | .get _ _ => (by decide +kernel : (("get" : Str), (some 2 : Option Int)) ∈ tabThing)
  | .put _ _ => (by decide +kernel : (("put" : Str), (some 1 : Option Int)) ∈ tabThing)
  | .add _ _ => (by decide +kernel : (("add" : Str), (some 1 : Option Int)) ∈ tabThing)
  | .lock _ => (by decide +kernel : (("lock" : Str), (some 1 : Option Int)) ∈ tabThing)
  | .unlock _ => (by decide +kernel : (("unlock" : Str), (some 1 : Option Int)) ∈ tabThing)
  | .wait => (by decide +kernel : (("wait" : Str), (some 1 : Option Int)) ∈ tabThing)
  | .notify => (by decide +kernel : (("notify" : Str), (some 1 : Option Int)) ∈ tabThing)
  | .notifyall => (by decide +kernel : (("notifyall" : Str), (some 1 : Option Int)) ∈ tabThing)
  | .send _ => (by decide +kernel : (("send" : Str), (some 1 : Option Int)) ∈ tabThing)
  | .take => (by decide +kernel : (("take" : Str), (some 2 : Option Int)) ∈ tabThing)
  | .check _ => (by decide +kernel : (("check" : Str), (none : Option Int)) ∈ tabThing)
  | .go _ _ => (by decide +kernel : (("go" : Str), (none : Option Int)) ∈ tabThing)
  | .beg => (by decide +kernel : (("begin" : Str), (none : Option Int)) ∈ tabThing)
  | .fin => (by decide +kernel : (("end" : Str), (none : Option Int)) ∈ tabThing)
def inL (i : In) : List D := .str i.k :: i.rest
theorem tree_at (i : In) : (i.treeIx = none ∧ i.tree = none) ∨ ∃ j t, i.treeIx = some j ∧ i.tree = some t ∧ atI (inL i) j = some (eTr t) := by
  cases i <;> first | exact .inl ⟨rfl, rfl⟩ | exact .inr ⟨_, _, rfl, rfl, rfl⟩
theorem thing_at (i : In) : (i.thingIx = none ∧ i.thing = none) ∨ ∃ j t, i.thingIx = some j ∧ i.thing = some t ∧ atI (inL i) j = some (.str t.s) := by
  cases i <;> first | exact .inl ⟨rfl, rfl⟩ | exact .inr ⟨_, _, rfl, rfl, rfl⟩

/-- expression_of: 0 instruction -/
abbrev s_expression_of : Stmt := top 27
theorem sc_expression_of : FnScope ["instruction"] ["instruction"] (defScope s_expression_of) := ⟨rfl, rfl, rfl, by decide +kernel, rfl, by decide +kernel, by decide +kernel⟩
def pExpr (ds : List D) (d : D) : Prop := ∃ i, ds = [eIn i] ∧ d = eOpt eTr i.tree
theorem ok_expression_of (T : Txt w K mg C) : Cal P w K mg base 1 "expression_of" ["instruction"] (spR K pExpr) := by
  obtain ⟨dT, es, n, gT, KD, ht⟩ := T.g_WITH_TREE
  refine T.d_expression_of.ok sc_expression_of (fun vs H Q E h => ?_) (fun f cdv A outer s H vs Q E hr h => ?_)
  · obtain ⟨ds, d, hd, ⟨i, rfl, _⟩, _⟩ := h
    exact hd.length
  · obtain ⟨ds, d, hd, ⟨i, rfl, rfl⟩, k⟩ := h
    rcases hd with _ | ⟨h1, _ | _⟩
    obtain ⟨r, hr0, hi0⟩ := ht _ (tree_tab i)
    refine ⟨_, (pss_cons (ps_if (pt_cmpR (op_in_kd KD) (pe_ix ix_D (pv 0) pe_int (fun _ _ => rfl)) (pe_glob (v := .ref dT) rfl gT rfl) (by rfl))
          (pss_one (ps_ret (pe_ix ix_D (pv 0) (pe_ix ix_kdict (pe_glob (v := .ref dT) rfl gT rfl) (pe_ix ix_D (pv 0) pe_int (fun _ _ => rfl)) (fun _ _ => rfl)) (fun _ _ => rfl))))
          pss_nil)
        (pss_one (ps_ret pe_non))), ?_⟩
    refine ⟨_, rfl, _, _, _, h1, rfl, at0, fun u hu => ?_⟩
    cases hu.toStr
    refine ⟨_, r, rfl, rfl, hr0, _, rfl, ?_⟩
    rcases tree_at i with ⟨e1, e2⟩ | ⟨j, t, e1, e2, e3⟩
    · rw [e1] at hi0
      cases (show r = none from hi0)
      refine iteF ?_
      rw [e2] at k
      exact k H _ (Same.refl _) .non
    · rw [e1] at hi0
      obtain ⟨tk, rfl⟩ := (show ∃ t, r = some (.int j t) from hi0)
      refine iteT ?_
      refine ⟨_, rfl, _, rfl, _, _, _, h1, rfl, at0, fun u hu => ?_⟩
      cases hu.toStr
      refine ⟨_, _, .int j, rfl, rfl, ⟨es, n, _, KD.at_, KD.lit, hr0, ⟨tk, rfl⟩⟩, ?_⟩
      refine ⟨_, _, _, h1, rfl, e3, fun u hu => ?_⟩
      rw [e2] at k
      exact k H u (Same.refl _) hu

/-- thing_of: 0 instruction -/
abbrev s_thing_of : Stmt := top 28
theorem sc_thing_of : FnScope ["instruction"] ["instruction"] (defScope s_thing_of) := ⟨rfl, rfl, rfl, by decide +kernel, rfl, by decide +kernel, by decide +kernel⟩
def pThing (ds : List D) (d : D) : Prop := ∃ i, ds = [eIn i] ∧ d = eOpt (fun z => .str z.s) i.thing
theorem ok_thing_of (T : Txt w K mg C) : Cal P w K mg base 1 "thing_of" ["instruction"] (spR K pThing) := by
  obtain ⟨dT, es, n, gT, KD, ht⟩ := T.g_WITH_THING
  refine T.d_thing_of.ok sc_thing_of (fun vs H Q E h => ?_) (fun f cdv A outer s H vs Q E hr h => ?_)
  · obtain ⟨ds, d, hd, ⟨i, rfl, _⟩, _⟩ := h
    exact hd.length
  · obtain ⟨ds, d, hd, ⟨i, rfl, rfl⟩, k⟩ := h
    rcases hd with _ | ⟨h1, _ | _⟩
    obtain ⟨r, hr0, hi0⟩ := ht _ (thing_tab i)
    refine ⟨_, (pss_cons (ps_if (pt_cmpR (op_in_kd KD) (pe_ix ix_D (pv 0) pe_int (fun _ _ => rfl)) (pe_glob (v := .ref dT) rfl gT rfl) (by rfl))
          (pss_one (ps_ret (pe_ix ix_D (pv 0) (pe_ix ix_kdict (pe_glob (v := .ref dT) rfl gT rfl) (pe_ix ix_D (pv 0) pe_int (fun _ _ => rfl)) (fun _ _ => rfl)) (fun _ _ => rfl))))
          pss_nil)
        (pss_one (ps_ret pe_non))), ?_⟩
    refine ⟨_, rfl, _, _, _, h1, rfl, at0, fun u hu => ?_⟩
    cases hu.toStr
    refine ⟨_, r, rfl, rfl, hr0, _, rfl, ?_⟩
    rcases thing_at i with ⟨e1, e2⟩ | ⟨j, t, e1, e2, e3⟩
    · rw [e1] at hi0
      cases (show r = none from hi0)
      refine iteF ?_
      rw [e2] at k
      exact k H _ (Same.refl _) .non
    · rw [e1] at hi0
      obtain ⟨tk, rfl⟩ := (show ∃ t, r = some (.int j t) from hi0)
      refine iteT ?_
      refine ⟨_, rfl, _, rfl, _, _, _, h1, rfl, at0, fun u hu => ?_⟩
      cases hu.toStr
      refine ⟨_, _, .int j, rfl, rfl, ⟨es, n, _, KD.at_, KD.lit, hr0, ⟨tk, rfl⟩⟩, ?_⟩
      refine ⟨_, _, _, h1, rfl, e3, fun u hu => ?_⟩
      rw [e2] at k
      exact k H u (Same.refl _) hu

/-- the names of a kind -/
def namesL (k : Str) : List Str := if k = "var" then ["x", "y"] else if k = "lock" then ["m", "n"] else if k = "queue" then ["q"] else ["w"]
def Kd (k : Str) : Prop := k = "var" ∨ k = "lock" ∨ k = "queue" ∨ k = "cond"
def namF (k : Str) : D → Option D
  | .tuple (.str a :: .str b :: _) => if a = k then some (.str b) else none
  | _ => none
theorem names_things {k : Str} (h : Kd k) : things.filterMap (namF k) = (namesL k).map .str := by
  rcases h with rfl | rfl | rfl | rfl <;> rfl
theorem thing_form : ∀ d ∈ things, ∃ a b r, d = .tuple (.str a :: .str b :: r) := by
  intro d hd
  unfold things at hd
  simp only [List.mem_cons, List.not_mem_nil, or_false] at hd
  rcases hd with rfl | rfl | rfl | rfl | rfl | rfl <;> exact ⟨_, _, _, rfl⟩
/-- names_of: 0 program, 1 kind, 2 thing -/
abbrev s_names_of : Stmt := top 30
theorem sc_names_of : FnScope ["program", "kind", "thing"] ["program", "kind"] (defScope s_names_of) := ⟨rfl, rfl, rfl, by decide +kernel, rfl, by decide +kernel, by decide +kernel⟩
def pNames (ds : List D) (d : D) : Prop := ∃ p k, Kd k ∧ ds = [eProg p, .str k] ∧ d = .tuple ((namesL k).map .str)
theorem ok_names_of (T : Txt w K mg C) : Cal P w K mg base 1 "names_of" ["program", "kind"] (spR K pNames) := by
  refine T.d_names_of.ok sc_names_of (fun vs H Q E h => ?_) (fun f cdv A outer s H vs Q E hr h => ?_)
  · obtain ⟨ds, d, hd, ⟨p, kd, _, rfl, _⟩, _⟩ := h
    exact hd.length
  · obtain ⟨ds, d, hd, ⟨p, kd, hk, rfl, rfl⟩, k⟩ := h
    rcases hd with _ | ⟨h1, _ | ⟨h2, _ | _⟩⟩
    cases h2.toStr
    refine ⟨_, (pss_one (ps_ret (pe_callTy call_tuple_of (by rfl) T.tuple (by decide +kernel) (pa_cons (pe_lc (own := [("thing", 2)]) (g := gName 2) rfl sc_names_of.nd (pi_tup (pe_ix ix_D (pv 0) pe_int (fun _ _ => rfl))) (blkOk_by (N := ["program", "kind", "thing"]) (sc := defScope s_names_of) (own := [("thing", 2)]) (by decide +kernel)) (fun _ _ _ _ _ => (pg_name (i := 2) sc_names_of.nd rfl (Or.inl rfl))) (fun _ _ _ _ _ => (pts_one (pt_cmpR op_eq (pe_ix (ix_DK rfl) (pv 2) pe_int (fun _ _ => rfl)) (pv 1) (nomark _)))) (fun _ _ _ _ _ => (pe_ix (ix_DK rfl) (pv 2) pe_int (fun _ _ => rfl)))) pa_nil)))), ?_⟩
    refine ⟨_, rfl, _, _, _, h1, rfl, rfl, fun u hu => ?_⟩
    refine lc_D (namF kd) hu (by decide) (fun x d H' Cn N hd r s1 c1 c2 => ⟨rfl, ?_⟩) fun l acc H' hl s1 e ra => ?_
    · obtain ⟨a, b, rr, rfl⟩ := thing_form d hd
      refine ⟨_, rfl, _, _, _, r, rfl, at0, fun u hu => ⟨_, rfl, ?_⟩⟩
      cases hu.toStr
      refine ⟨rfl, _, rfl, ?_⟩
      by_cases e : a = kd
      · refine ifS e ?_
        exact ⟨_, rfl, _, _, _, r, rfl, at1, fun u hu => c1 u H' _ (if_pos e) hu (Same.refl _)⟩
      · refine ifN e ?_
        exact c2 (if_neg e) H' (Same.refl _)
    · rw [names_things hk] at ra
      exact ⟨l, acc, rfl, .inl ⟨SqL.of e, fun p hp => k _ _ (s1.new hp) (Rp.newT hp ra)⟩⟩
/-- .. the new tuple known as such -/
def spNX (K : PySem.W.Frag) : Sp := fun vs H Q _ => ∃ p k, Kd k ∧ RpAll K H vs [eProg p, .str k] ∧ ∀ H' l, Same H H' → H l = none → H' l = some (TupX l ((namesL k).map V.str)) → Q (.ref l) H'
theorem ok_names_ofX (T : Txt w K mg C) : Cal P w K mg base 1 "names_of" ["program", "kind"] (spNX K) := by
  refine T.d_names_of.ok sc_names_of (fun vs H Q E h => ?_) (fun f cdv A outer s H vs Q E hr h => ?_)
  · obtain ⟨p, kd, _, hd, _⟩ := h
    exact hd.length
  · obtain ⟨p, kd, hk, hd, k⟩ := h
    rcases hd with _ | ⟨h1, _ | ⟨h2, _ | _⟩⟩
    cases h2.toStr
    refine ⟨_, (pss_one (ps_ret (pe_callTy call_tuple_X (by rfl) T.tuple (by decide +kernel) (pa_cons (pe_lc (own := [("thing", 2)]) (g := gName 2) rfl sc_names_of.nd (pi_tup (pe_ix ix_D (pv 0) pe_int (fun _ _ => rfl))) (blkOk_by (N := ["program", "kind", "thing"]) (sc := defScope s_names_of) (own := [("thing", 2)]) (by decide +kernel)) (fun _ _ _ _ _ => (pg_name (i := 2) sc_names_of.nd rfl (Or.inl rfl))) (fun _ _ _ _ _ => (pts_one (pt_cmpR op_eq (pe_ix (ix_DK rfl) (pv 2) pe_int (fun _ _ => rfl)) (pv 1) (nomark _)))) (fun _ _ _ _ _ => (pe_ix (ix_DK rfl) (pv 2) pe_int (fun _ _ => rfl)))) pa_nil)))), ?_⟩
    refine ⟨_, rfl, _, _, _, h1, rfl, rfl, fun u hu => ?_⟩
    refine lc_D (namF kd) hu (by decide) (fun x d H' Cn N hd r s1 c1 c2 => ⟨rfl, ?_⟩) fun l acc H' hl s1 e ra => ?_
    · obtain ⟨a, b, rr, rfl⟩ := thing_form d hd
      refine ⟨_, rfl, _, _, _, r, rfl, at0, fun u hu => ⟨_, rfl, ?_⟩⟩
      cases hu.toStr
      refine ⟨rfl, _, rfl, ?_⟩
      by_cases e : a = kd
      · refine ifS e ?_
        exact ⟨_, rfl, _, _, _, r, rfl, at1, fun u hu => c1 u H' _ (if_pos e) hu (Same.refl _)⟩
      · refine ifN e ?_
        exact c2 (if_neg e) H' (Same.refl _)
    · rw [names_things hk] at ra
      rw [ra.str] at e
      exact ⟨l, _, rfl, SqL.of e, fun p hp => k _ _ (s1.new hp) (s1.free hp) upd_same⟩

/-- lock_of: 0 program, 1 cond, 2 thing -/
abbrev s_lock_of : Stmt := top 31
theorem sc_lock_of : FnScope ["program", "cond", "thing"] ["program", "cond"] (defScope s_lock_of) := ⟨rfl, rfl, rfl, by decide +kernel, rfl, by decide +kernel, by decide +kernel⟩
def pLock (ds : List D) (d : D) : Prop := ∃ p, ds = [eProg p, .str "w"] ∧ d = .str "m"
theorem ok_lock_of (T : Txt w K mg C) : Cal P w K mg base 1 "lock_of" ["program", "cond"] (spR K pLock) := by
  refine T.d_lock_of.ok sc_lock_of (fun vs H Q E h => ?_) (fun f cdv A outer s H vs Q E hr h => ?_)
  · obtain ⟨ds, d, hd, ⟨p, rfl, _⟩, _⟩ := h
    exact hd.length
  · obtain ⟨ds, d, hd, ⟨p, rfl, rfl⟩, k⟩ := h
    rcases hd with _ | ⟨h1, _ | ⟨h2, _ | _⟩⟩
    cases h2.toStr
    rename_i v1
    refine ⟨_, (pss_cons (ps_for PassesOwn.never rfl (pi_tup (pe_ix ix_D (pv 0) pe_int (fun _ _ => rfl))) (pg_name (i := 2) sc_lock_of.nd rfl (Or.inl rfl))
          (pss_one (ps_if (PW.pt (pw_and (pt_cmpR op_eq (pe_ix ix_D (pv 2) pe_int (fun _ _ => rfl)) pe_str (nomark _)) (pw_and1 (pt_cmpR op_eq (pe_ix ix_D (pv 2) pe_int (fun _ _ => rfl)) (pv 1) (nomark _)))))
            (pss_one (ps_ret (pe_ix ix_D (pv 2) pe_int (fun _ _ => rfl))))
            pss_nil)))
        (pss_one ps_never)), ?_⟩
    refine ⟨_, rfl, _, _, _, h1, rfl, rfl, fun u hu => ?_⟩
    refine for_D (fun i σ H' => H' = H ∧ i ≤ 2 ∧ ∃ x, σ = [some v1, some (V.str "w"), x]) hu ⟨rfl, by omega, _, rfl⟩ (fun i σ' H' p => p.1 ▸ Tle.refl) ?_ (fun σ' H' p => absurd p.2.1 (by decide))
    rintro i x d σ' H' e r ⟨rfl, hi, y, rfl⟩
    have : i = 0 ∨ i = 1 ∨ i = 2 := by omega
    rcases this with rfl | rfl | rfl
    · cases (Option.some.inj (show some _ = some d from e))
      exact txt_ne rfl r rfl (by decide +kernel) (iteF (iteF ⟨rfl, by omega, _, rfl⟩))
    · cases (Option.some.inj (show some _ = some d from e))
      exact txt_ne rfl r rfl (by decide +kernel) (iteF (iteF ⟨rfl, by omega, _, rfl⟩))
    · cases (Option.some.inj (show some _ = some d from e))
      refine txt_eq rfl r rfl rfl (iteT ?_)
      refine ⟨_, rfl, _, _, _, r, rfl, rfl, fun u hu => ⟨_, rfl, ?_⟩⟩
      cases hu.toStr
      refine ⟨rfl, _, rfl, ifS rfl ?_⟩
      exact ⟨_, rfl, _, _, _, r, rfl, rfl, fun u hu => k _ u (Same.refl _) hu⟩

/-- place_of: 0 program, 1 kind, 2 name -/
abbrev s_place_of : Stmt := top 38
theorem sc_place_of : FnScope ["program", "kind", "name"] ["program", "kind", "name"] (defScope s_place_of) := ⟨rfl, rfl, rfl, by decide +kernel, rfl, by decide +kernel, by decide +kernel⟩
def pPlace (ds : List D) (d : D) : Prop := ∃ p k z, ∃ j : Nat, Kd k ∧ ds = [eProg p, .str k, .str z] ∧ (namesL k)[j]? = some z ∧ (∀ m, m < j → (namesL k)[m]? ≠ some z) ∧ d = .int (j : Int)
theorem ok_place_of (T : Txt w K mg C) : Cal P w K mg base 2 "place_of" ["program", "kind", "name"] (spR K pPlace) := by
  refine T.d_place_of.ok sc_place_of (fun vs H Q E h => ?_) (fun f cdv A outer s H vs Q E hr h => ?_)
  · obtain ⟨ds, d, hd, ⟨p, kd, z, j, _, rfl, _⟩, _⟩ := h
    exact hd.length
  · obtain ⟨ds, d, hd, ⟨p, kd, z, j, hk, rfl, h4, h5, rfl⟩, k⟩ := h
    rcases hd with _ | ⟨h1, _ | ⟨h2, _ | ⟨h3, _ | _⟩⟩⟩
    cases h2.toStr
    cases h3.toStr
    refine ⟨_, (pss_one (ps_ret (pe_bmX PySem.F.plainAttrs_tuple PySem.F.slot_tuple_index PySem.F.type_tuple_index mt_tup_index (pe_own (ok_names_ofX T) (hr.mono (by decide)) rfl (pa_cons (pv 0) (pa_cons (pv 1) pa_nil))) (pa_cons (pv 2) pa_nil)))), ?_⟩
    refine ⟨_, rfl, _, rfl, ?_⟩
    refine ⟨p, kd, hk, .cons h1 (.cons (.str _) .nil), fun H' l s1 hl e => ?_⟩
    refine ⟨l, _, rfl, e, _, rfl, ?_⟩
    exact ⟨l, namesL kd, z, j, rfl, rfl, SqT.of upd_same, h4, h5, k _ _ (s1.wr hl) (.int _)⟩

/-- owner_of: 0 program, 1 state, 2 lock -/
abbrev s_owner_of : Stmt := top 39
theorem sc_owner_of : FnScope ["program", "state", "lock"] ["program", "state", "lock"] (defScope s_owner_of) := ⟨rfl, rfl, rfl, by decide +kernel, rfl, by decide +kernel, by decide +kernel⟩
def pOwner (ds : List D) (d : D) : Prop := ∃ p s, ∃ l : Lk, ds = [eProg p, eSt s, .str l.g.s] ∧ d = eOwn (s.sh.own l)
theorem ok_owner_of (T : Txt w K mg C) : Cal P w K mg base 3 "owner_of" ["program", "state", "lock"] (spR K pOwner) := by
  refine T.d_owner_of.ok sc_owner_of (fun vs H Q E h => ?_) (fun f cdv A outer s H vs Q E hr h => ?_)
  · obtain ⟨ds, d, hd, ⟨p, s, l, rfl, _⟩, _⟩ := h
    exact hd.length
  · obtain ⟨ds, d, hd, ⟨p, st, l, rfl, rfl⟩, k⟩ := h
    rcases hd with _ | ⟨h1, _ | ⟨h2, _ | ⟨h3, _ | _⟩⟩⟩
    refine ⟨_, (pss_one (ps_ret (pe_ix ix_D (pe_ix ix_D (pv 1) pe_int (fun _ _ => rfl)) (pe_own (ok_place_of T) (hr.mono (by decide)) rfl (pa_cons (pv 0) (pa_cons pe_str (pa_cons (pv 2) pa_nil)))) (fun _ _ => rfl)))), ?_⟩
    refine ⟨_, rfl, _, _, _, h2, rfl, rfl, fun u hu => ⟨_, rfl, _, rfl, ?_⟩⟩
    have pl : ∃ j : Nat, (namesL "lock")[j]? = some l.g.s ∧ (∀ m, m < j → (namesL "lock")[m]? ≠ some l.g.s) ∧ atI [eOwn st.sh.m, eOwn st.sh.n] (j : Int) = some (eOwn (st.sh.own l)) := by
      cases l with
      | m => exact ⟨0, rfl, fun m hm => absurd hm (Nat.not_lt_zero _), rfl⟩
      | n => exact ⟨1, rfl, fun m hm => by have : m = 0 := by omega
                                           subst this; exact (by decide +kernel : (namesL "lock")[0]? ≠ some ("n" : Str)), rfl⟩
    obtain ⟨j, e1, e2, e3⟩ := pl
    refine ⟨_, _, .cons h1 (.cons (.str _) (.cons h3 .nil)), ⟨p, "lock", l.g.s, j, .inr (.inl rfl), rfl, e1, e2, rfl⟩, fun H1 v s1 hv => ?_⟩
    cases hv.toInt
    exact ⟨_, _, _, hu.sm s1, rfl, e3, fun v hv => k H1 v s1 hv⟩

/-- instruction_at: 0 program, 1 state, 2 thread -/
abbrev s_instruction_at : Stmt := top 40
theorem sc_instruction_at : FnScope ["program", "state", "thread"] ["program", "state", "thread"] (defScope s_instruction_at) := ⟨rfl, rfl, rfl, by decide +kernel, rfl, by decide +kernel, by decide +kernel⟩
def pInsAt (ds : List D) (d : D) : Prop := ∃ p s t, ds = [eProg p, eSt s, dI t] ∧ t < p.length ∧ s.ts.length = p.length ∧ (s.at t).pc < (p.getD t []).length ∧ d = eIn (at' p s t)
theorem ok_instruction_at (T : Txt w K mg C) : Cal P w K mg base 1 "instruction_at" ["program", "state", "thread"] (spR K pInsAt) := by
  refine T.d_instruction_at.ok sc_instruction_at (fun vs H Q E h => ?_) (fun f cdv A outer s H vs Q E hr h => ?_)
  · obtain ⟨ds, d, hd, ⟨p, s, t, rfl, _⟩, _⟩ := h
    exact hd.length
  · obtain ⟨ds, d, hd, ⟨p, st, t, rfl, ht, hl, hpc, rfl⟩, k⟩ := h
    rcases hd with _ | ⟨h1, _ | ⟨h2, _ | ⟨h3, _ | _⟩⟩⟩
    cases h3.toInt
    refine ⟨_, (pss_one (ps_ret (pe_ix ix_D (pe_ix ix_D (pe_ix ix_D (pv 0) pe_int (fun _ _ => rfl)) (pv 2) (fun _ _ => rfl)) (pe_ix ix_D (pe_ix ix_D (pe_ix ix_D (pv 1) pe_int (fun _ _ => rfl)) (pv 2) (fun _ _ => rfl)) pe_int (fun _ _ => rfl)) (fun _ _ => rfl)))), ?_⟩
    refine ⟨_, rfl, _, _, _, h1, rfl, rfl, fun u1 hu1 => ⟨_, rfl, _, _, _, hu1, rfl, at_mapD (d := []) ht, fun u2 hu2 => ?_⟩⟩
    refine ⟨_, rfl, _, _, _, h2, rfl, rfl, fun u3 hu3 => ⟨_, rfl, _, _, _, hu3, rfl, at_mapD (d := Thr.d) (hl ▸ ht), fun u4 hu4 => ⟨_, _, _, hu4, rfl, rfl, fun u5 hu5 => ?_⟩⟩⟩
    cases hu5.toInt
    exact ⟨_, _, _, hu2, rfl, at_mapD (d := In.beg) hpc, fun u6 hu6 => k H u6 (Same.refl _) hu6⟩

def eWorth (i : In) (a : Int) : D := match i.tree with
  | none => .none
  | some t => eEv (ev t a)
theorem worth_bad {H : Hp} {v : V} {i : In} {a : Int} (h : Rp K H v (eWorth i a)) : scal v (.str "range") = true ∧ decide (v = V.str "range") = bad i a := by
  unfold eWorth at h
  unfold bad
  cases e : i.tree with
  | none =>
    rw [e] at h
    cases h.toNon
    exact ⟨rfl, rfl⟩
  | some t =>
    rw [e] at h
    dsimp only at h ⊢
    cases e2 : ev t a with
    | none =>
      rw [e2] at h
      cases (show Rp K H v (.str "range") from h).toStr
      exact ⟨rfl, by rw [decide_eq_true rfl]; rfl⟩
    | some z =>
      rw [e2] at h
      cases (show Rp K H v (.int z) from h).toInt
      exact ⟨rfl, rfl⟩
theorem worth_val {H : Hp} {v : V} {i : In} {a : Int} (h : Rp K H v (eWorth i a)) (hb : bad i a = false) {t : Tr} (ht : i.tree = some t) : v = .int (val i a) := by
  unfold eWorth at h
  unfold bad at hb
  unfold val
  rw [ht] at h hb ⊢
  dsimp only at h hb ⊢
  cases e2 : ev t a with
  | none => rw [e2] at hb; cases hb
  | some z =>
    rw [e2] at h
    exact (show Rp K H v (.int z) from h).toInt
/-- _worth: 0 program, 1 state, 2 thread, 3 tree -/
abbrev s_worth : Stmt := top 41
theorem sc_worth : FnScope ["program", "state", "thread", "tree"] ["program", "state", "thread"] (defScope s_worth) := ⟨rfl, rfl, rfl, by decide +kernel, rfl, by decide +kernel, by decide +kernel⟩
def pWorth (ds : List D) (d : D) : Prop := ∃ p s t, ds = [eProg p, eSt s, dI t] ∧ t < p.length ∧ WF p s ∧ (s.at t).pc < (p.getD t []).length ∧ d = eWorth (at' p s t) (s.at t).a
theorem ok_worth (T : Txt w K mg C) : Cal P w K mg base 7 "_worth" ["program", "state", "thread"] (spR K pWorth) := by
  refine T.d_worth.ok sc_worth (fun vs H Q E h => ?_) (fun f cdv A outer s H vs Q E hr h => ?_)
  · obtain ⟨ds, d, hd, ⟨p, s, t, rfl, _⟩, _⟩ := h
    exact hd.length
  · obtain ⟨ds, d, hd, ⟨p, st, t, rfl, ht, wf, hpc, rfl⟩, k⟩ := h
    rcases hd with _ | ⟨h1, _ | ⟨h2, _ | ⟨h3, _ | _⟩⟩⟩
    cases h3.toInt
    refine ⟨_, (pss_cons (ps_set (i := 3) sc_worth.nd rfl (Or.inl rfl) (pe_own (ok_expression_of T) (hr.mono (by decide)) rfl (pa_cons (pe_own (ok_instruction_at T) (hr.mono (by decide)) rfl (pa_cons (pv 0) (pa_cons (pv 1) (pa_cons (pv 2) pa_nil)))) pa_nil)))
        (pss_cons (ps_if (pt_cmpR op_isN (pv 3) pe_non (nomark _))
          (pss_one (ps_ret pe_non))
          pss_nil)
        (pss_one (ps_ret (pe_own (ok_evaluate T) (hr.mono (by decide)) rfl (pa_cons (pv 3) (pa_cons (pe_ix ix_D (pe_ix ix_D (pe_ix ix_D (pv 1) pe_int (fun _ _ => rfl)) (pv 2) (fun _ _ => rfl)) pe_int (fun _ _ => rfl)) pa_nil))))))), ?_⟩
    refine ⟨_, rfl, _, rfl, _, rfl, ?_⟩
    refine ⟨_, _, .cons h1 (.cons h2 (.cons (.int _) .nil)), ⟨p, st, t, rfl, ht, wf.len, hpc, rfl⟩, fun H1 v s1 hv => ?_⟩
    refine ⟨_, _, .cons hv .nil, ⟨_, rfl, rfl⟩, fun H2 v2 s2 hv2 => ?_⟩
    have s12 := s1.trans s2
    refine ⟨_, rfl, rfl, _, rfl, ?_⟩
    cases e : (at' p st t).tree with
    | none =>
      rw [e] at hv2
      cases (show Rp K H2 v2 .none from hv2).toNon
      refine iteT (k H2 _ s12 ?_)
      unfold eWorth
      rw [e]
      exact .non
    | some tr =>
      rw [e] at hv2
      have hv2 : Rp K H2 v2 (eTr tr) := hv2
      have hne : decide (v2 = V.non) = false := by
        cases tr <;> (obtain ⟨a, xs, rfl, _⟩ := hv2.toTup; rfl)
      rw [hne]
      refine iteF ?_
      refine ⟨_, rfl, _, rfl, _, _, _, h2.sm s12, rfl, rfl, fun u3 hu3 => ⟨_, rfl, _, _, _, hu3, rfl, at_mapD (d := Thr.d) (wf.len ▸ ht), fun u4 hu4 => ⟨_, _, _, hu4, rfl, rfl, fun u5 hu5 => ?_⟩⟩⟩
      refine ⟨_, _, .cons hv2 (.cons hu5 .nil), ⟨tr, (st.at t).a, (st.at t).b, wf.va t, rfl, rfl⟩, fun H3 v3 s3 hv3 => k H3 v3 (s12.trans s3) ?_⟩
      unfold eWorth
      rw [e]
      exact hv3

/-- _items_of: 0 program, 1 state, 2 name, 3 thing -/
abbrev s_items_of : Stmt := top 42
theorem sc_items_of : FnScope ["program", "state", "name", "thing"] ["program", "state", "name"] (defScope s_items_of) := ⟨rfl, rfl, rfl, by decide +kernel, rfl, by decide +kernel, by decide +kernel⟩
def pItems (ds : List D) (d : D) : Prop := ∃ p s, ds = [eProg p, eSt s, .str "q"] ∧ d = .tuple [.tuple (s.sh.q.map .int), .int 1]
theorem ok_items_of (T : Txt w K mg C) : Cal P w K mg base 3 "_items_of" ["program", "state", "name"] (spR K pItems) := by
  refine T.d_items_of.ok sc_items_of (fun vs H Q E h => ?_) (fun f cdv A outer s H vs Q E hr h => ?_)
  · obtain ⟨ds, d, hd, ⟨p, s, rfl, _⟩, _⟩ := h
    exact hd.length
  · obtain ⟨ds, d, hd, ⟨p, st, rfl, rfl⟩, k⟩ := h
    rcases hd with _ | ⟨h1, _ | ⟨h2, _ | ⟨h3, _ | _⟩⟩⟩
    cases h3.toStr
    rename_i v1 v2
    refine ⟨_, (pss_cons (ps_for PassesOwn.never rfl (pi_tup (pe_ix ix_D (pv 0) pe_int (fun _ _ => rfl))) (pg_name (i := 3) sc_items_of.nd rfl (Or.inl rfl))
          (pss_one (ps_if (pt_cmpR op_eq (pe_ix ix_D (pv 3) pe_int (fun _ _ => rfl)) (pv 2) (nomark _))
            (pss_one (ps_ret (pe_tup (pa_cons (pe_ix ix_D (pe_ix ix_D (pv 1) pe_int (fun _ _ => rfl)) (pe_own (ok_place_of T) (hr.mono (by decide)) rfl (pa_cons (pv 0) (pa_cons pe_str (pa_cons (pv 2) pa_nil)))) (fun _ _ => rfl)) (pa_cons (pe_ix ix_D (pv 3) pe_int (fun _ _ => rfl)) pa_nil)))))
            pss_nil)))
        (pss_one (ps_ret (pe_tup (pa_cons (pe_tup pa_nil) (pa_cons pe_int pa_nil)))))), ?_⟩
    refine ⟨_, rfl, _, _, _, h1, rfl, rfl, fun u hu => ?_⟩
    refine for_D (fun i σ H' => H' = H ∧ i ≤ 3 ∧ ∃ x, σ = [some v1, some v2, some (V.str "q"), x]) hu ⟨rfl, by omega, _, rfl⟩ (fun i σ' H' p => p.1 ▸ Tle.refl) ?_ (fun σ' H' p => absurd p.2.1 (by decide))
    rintro i x d σ' H' e r ⟨rfl, hi, y, rfl⟩
    have : i = 0 ∨ i = 1 ∨ i = 2 ∨ i = 3 := by omega
    rcases this with rfl | rfl | rfl | rfl
    · cases (Option.some.inj (show some _ = some d from e))
      exact ⟨_, rfl, _, _, _, r, rfl, rfl, fun u hu => by cases hu.toStr; exact ⟨_, rfl, rfl, _, rfl, ifN (by decide +kernel) ⟨rfl, by omega, _, rfl⟩⟩⟩
    · cases (Option.some.inj (show some _ = some d from e))
      exact ⟨_, rfl, _, _, _, r, rfl, rfl, fun u hu => by cases hu.toStr; exact ⟨_, rfl, rfl, _, rfl, ifN (by decide +kernel) ⟨rfl, by omega, _, rfl⟩⟩⟩
    · cases (Option.some.inj (show some _ = some d from e))
      exact ⟨_, rfl, _, _, _, r, rfl, rfl, fun u hu => by cases hu.toStr; exact ⟨_, rfl, rfl, _, rfl, ifN (by decide +kernel) ⟨rfl, by omega, _, rfl⟩⟩⟩
    · cases (Option.some.inj (show some _ = some d from e))
      refine ⟨_, rfl, _, _, _, r, rfl, rfl, fun u hu => ?_⟩
      cases hu.toStr
      refine ⟨_, rfl, rfl, _, rfl, ifS rfl ?_⟩
      refine ⟨_, rfl, _, _, _, h2, rfl, rfl, fun u2 hu2 => ⟨_, rfl, _, rfl, ?_⟩⟩
      refine ⟨_, _, .cons h1 (.cons (.str _) (.cons (.str _) .nil)), ⟨p, "queue", "q", 0, .inr (.inr (.inl rfl)), rfl, rfl, fun m hm => absurd hm (Nat.not_lt_zero _), rfl⟩, fun H1 v s1 hv => ?_⟩
      cases hv.toInt
      refine ⟨_, _, _, hu2.sm s1, rfl, rfl, fun u3 hu3 => ?_⟩
      refine ⟨_, rfl, _, _, _, r.sm s1, rfl, rfl, fun u4 hu4 => ?_⟩
      exact ⟨by show 2 ≤ sizeLine; decide, fun p hp => k _ _ (s1.new hp) (Rp.newT hp (.cons hu3 (.cons hu4 .nil)))⟩
end
end Ev

-- part EvW3
set_option maxHeartbeats 400000
set_option Elab.async false
set_option linter.all false
set_option maxRecDepth 100000
set_option maxHeartbeats 4000000
/-! The walks: who is blocked on what, who is enabled, what is touched, the first state. -/
namespace Ev
open PySem L2
section
variable {P : Program} {w : World} {K : PySem.W.Frag} {mg : Str → Option Value} {base : Heap} {C : Addr}

theorem own_non {H : Hp} {v : V} {o : Option Nat} (h : Rp K H v (eOwn o)) : decide (v = V.non) = !o.isSome := by
  cases o with
  | none => cases (show Rp K H v .none from h).toNon; rfl
  | some n => cases (show Rp K H v (.int (n : Int)) from h).toInt; rfl
theorem opt_non {H : Hp} {v : V} {o : Option Thg} (h : Rp K H v (eOpt (fun z => .str z.s) o)) : decide (v = V.non) = !o.isSome := by
  cases o with
  | none => cases (show Rp K H v .none from h).toNon; rfl
  | some n => cases (show Rp K H v (.str n.s) from h).toStr; rfl
theorem in2 {a b c : Str} : inV (V.str a) [V.str b, V.str c] = (b == a || c == a) := by
  show (List.any [V.str b, V.str c] fun y => eqV y (V.str a)) = _
  simp [eqV]
/-- t[0] in ('b', 'c') -/
theorem txt_in {σ : St} {H : Hp} {Q : Bool → Hp → Prop} {i : Nat} {v : V} {ds : List D} {j : Int} {a b c : Str} {d : Bool} (h : σ[i]? = some (some v)) (hv : Rp K H v (.tuple ds)) (hd : atI ds j = some (.str a)) (e : (b == a || c == a) = d) (q : ∀ H', Same H H' → Q d H') :
    tTest (tOp (rIn K false) (tOp (rIxD K) (tVar i) (tC (.int j))) (tTup (tCons (tC (.str b)) (tCons (tC (.str c)) tNil)))) σ H Q := by
  refine ⟨_, h, _, _, _, hv, rfl, hd, fun u hu => ?_⟩
  cases hu.toStr
  refine ⟨by show 2 ≤ sizeLine; decide, fun p hp => ?_⟩
  refine ⟨p, _, rfl, .inr (SqT.of upd_same), rfl, rfl, d, ?_, q _ (Same.new0 hp)⟩
  rw [if_neg Bool.false_ne_true, in2, e]
theorem at_ts {p : Prog} {s : MS} {t : Nat} (hl : s.ts.length = p.length) (ht : t < p.length) : atI (s.ts.map eTS) (t : Int) = some (eTS (s.at t)) := at_mapD (d := Thr.d) (hl ▸ ht)
theorem at_pr {p : Prog} {t : Nat} (ht : t < p.length) : atI (p.map eCode) (t : Int) = some (eCode (p.getD t [])) := at_mapD (d := []) ht
theorem at_in {p : Prog} {t pc : Nat} (h : pc < (p.getD t []).length) : atI ((p.getD t []).map eIn) (pc : Int) = some (eIn (ins p t pc)) := at_mapD (d := In.beg) h

/-- needed: 0 program, 1 state, 2 thread, 3 pc, 4 registers, 5 mode, 6 word, 7 instruction, 8 name, 9 items, 10 size -/
abbrev s_needed : Stmt := top 43
theorem sc_needed : FnScope ["program", "state", "thread", "pc", "registers", "mode", "word", "instruction", "name", "items", "size"] ["program", "state", "thread"] (defScope s_needed) := ⟨rfl, rfl, rfl, by decide +kernel, rfl, by decide +kernel, by decide +kernel⟩
def pNeeded (ds : List D) (d : D) : Prop := ∃ p s t, ds = [eProg p, eSt s, dI t] ∧ t < p.length ∧ WF p s ∧ d = eOpt (fun z => .str z.s) (need (at' p s t) (s.at t) s.sh)
theorem ok_needed (T : Txt w K mg C) : Cal P w K mg base 8 "needed" ["program", "state", "thread"] (spR K pNeeded) := by
  refine T.d_needed.ok sc_needed (fun vs H Q E h => ?_) (fun f cdv A outer s H vs Q E hr h => ?_)
  · obtain ⟨ds, d, hd, ⟨p, s, t, rfl, _⟩, _⟩ := h
    exact hd.length
  · obtain ⟨ds, d, hd, ⟨p, st, t, rfl, ht, wf, rfl⟩, k⟩ := h
    rcases hd with _ | ⟨h1, _ | ⟨h2, _ | ⟨h3, _ | _⟩⟩⟩
    cases h3.toInt
    refine ⟨_, (pss_cons (ps_asg (pe_ix ix_D (pe_ix ix_D (pv 1) pe_int (fun _ _ => rfl)) (pv 2) (fun _ _ => rfl)) (pg_tup rfl (pgs_cons (pg_name (i := 3) sc_needed.nd rfl (Or.inl rfl)) (pgs_cons (pg_name (i := 4) sc_needed.nd rfl (Or.inl rfl)) (pgs_cons (pg_name (i := 5) sc_needed.nd rfl (Or.inl rfl)) (pgs_cons (pg_name (i := 6) sc_needed.nd rfl (Or.inl rfl)) pgs_nil))))))
        (pss_cons (ps_if (pt_cmpR op_eq (pv 5) (pe_gs rfl T.g_OVER) (nomark _))
          (pss_one (ps_ret pe_non))
          pss_nil)
        (pss_cons (ps_set (i := 7) sc_needed.nd rfl (Or.inl rfl) (pe_ix ix_D (pe_ix ix_D (pe_ix ix_D (pv 0) pe_int (fun _ _ => rfl)) (pv 2) (fun _ _ => rfl)) (pv 3) (fun _ _ => rfl)))
        (pss_cons (ps_set (i := 8) sc_needed.nd rfl (Or.inl rfl) (pe_own (ok_thing_of T) (hr.mono (by decide)) rfl (pa_cons (pv 7) pa_nil)))
        (pss_cons (ps_if (pt_cmpR op_eq (pv 5) (pe_gs rfl T.g_WAIT) (nomark _))
          (pss_one (ps_ret (pv 8)))
          pss_nil)
        (pss_cons (ps_if (pt_cmpR op_eq (pv 5) (pe_gs rfl T.g_WOKEN) (nomark _))
          (pss_cons (ps_if (pt_cmpR op_notN (pe_own (ok_owner_of T) (hr.mono (by decide)) rfl (pa_cons (pv 0) (pa_cons (pv 1) (pa_cons (pe_own (ok_lock_of T) (hr.mono (by decide)) rfl (pa_cons (pv 0) (pa_cons (pv 8) pa_nil))) pa_nil)))) pe_non (nomark _))
            (pss_one (ps_ret (pe_own (ok_lock_of T) (hr.mono (by decide)) rfl (pa_cons (pv 0) (pa_cons (pv 8) pa_nil)))))
            pss_nil)
          (pss_one (ps_ret pe_non)))
          pss_nil)
        (pss_cons (ps_if (pt_cmpR op_eq (pe_own (ok_worth T) (hr.mono (by decide)) rfl (pa_cons (pv 0) (pa_cons (pv 1) (pa_cons (pv 2) pa_nil)))) pe_str (nomark _))
          (pss_one (ps_ret pe_non))
          pss_nil)
        (pss_cons (ps_if (PW.pt (pw_and (pt_cmpR op_eq (pe_ix ix_D (pv 7) pe_int (fun _ _ => rfl)) pe_str (nomark _)) (pw_and1 (pt_cmpR op_notN (pe_own (ok_owner_of T) (hr.mono (by decide)) rfl (pa_cons (pv 0) (pa_cons (pv 1) (pa_cons (pv 8) pa_nil)))) pe_non (nomark _)))))
          (pss_one (ps_ret (pv 8)))
          pss_nil)
        (pss_cons (ps_if (pt_cmpR op_in_seq (pe_ix ix_D (pv 7) pe_int (fun _ _ => rfl)) (pe_tup (pa_cons pe_str (pa_cons pe_str pa_nil))) (by rfl))
          (pss_cons (ps_asg (pe_own (ok_items_of T) (hr.mono (by decide)) rfl (pa_cons (pv 0) (pa_cons (pv 1) (pa_cons (pv 8) pa_nil)))) (pg_tup rfl (pgs_cons (pg_name (i := 9) sc_needed.nd rfl (Or.inl rfl)) (pgs_cons (pg_name (i := 10) sc_needed.nd rfl (Or.inl rfl)) pgs_nil))))
          (pss_one (ps_if (PW.pt (pw_or (PW.pt (pw_and (pt_cmpR op_eq (pe_ix ix_D (pv 7) pe_int (fun _ _ => rfl)) pe_str (nomark _)) (pw_and1 (pt_cmpR op_eq (pe_callB call_lenD' (by rfl) T.len PySem.boot_len (pa_cons (pv 9) pa_nil)) (pv 10) (nomark _))))) (pw_or1 (PW.pt (pw_and (pt_cmpR op_eq (pe_ix ix_D (pv 7) pe_int (fun _ _ => rfl)) pe_str (nomark _)) (pw_and1 (pt_cmpR op_eq (pe_callB call_lenD' (by rfl) T.len PySem.boot_len (pa_cons (pv 9) pa_nil)) pe_int (nomark _))))))))
            (pss_one (ps_ret (pv 8)))
            pss_nil)))
          pss_nil)
        (pss_one (ps_ret pe_non))))))))))), ?_⟩
    refine ⟨_, rfl, _, _, _, h2, rfl, rfl, fun u1 hu1 => ⟨_, rfl, _, _, _, hu1, rfl, at_ts wf.len ht, fun u2 hu2 => ?_⟩⟩
    refine gtup_D hu2 rfl fun xs hxs => ?_
    rcases hxs with _ | ⟨g1, _ | ⟨g2, _ | ⟨g3, _ | ⟨g4, _ | _⟩⟩⟩⟩
    cases g1.toInt
    cases g3.toStr
    refine ⟨_, _, rfl, _, _, rfl, _, _, rfl, _, _, rfl, rfl, ?_⟩
    by_cases hov : (st.at t).md = .over
    · refine tst_eq rfl (by rw [hov]; rfl) (iteT (k H _ (Same.refl _) ?_))
      rw [show need (at' p st t) (st.at t) st.sh = none by unfold need; rw [hov]]
      exact .non
    have hpc := wf.pc t ht hov
    refine tst_ne rfl (fun q => hov (Md.s_inj q)) (iteF ?_)
    refine ⟨_, rfl, _, _, _, h1, rfl, rfl, fun u3 hu3 => ⟨_, rfl, _, _, _, hu3, rfl, at_pr ht, fun u4 hu4 => ⟨_, rfl, _, _, _, hu4, rfl, at_in hpc, fun u5 hu5 => ?_⟩⟩⟩
    have hu5 : Rp K H u5 (eIn (at' p st t)) := hu5
    refine ⟨_, rfl, _, _, .cons hu5 .nil, ⟨_, rfl, rfl⟩, fun H1 v8 s1 hv8 => ?_⟩
    by_cases hwa : (st.at t).md = .wait
    · refine tst_eq rfl (by rw [hwa]; rfl) (iteT ⟨_, rfl, k H1 _ s1 ?_⟩)
      rw [show need (at' p st t) (st.at t) st.sh = (at' p st t).thing by unfold need; rw [hwa]]
      exact hv8
    refine tst_ne rfl (fun q => hwa (Md.s_inj q)) (iteF ?_)
    by_cases hwo : (st.at t).md = .woken
    · have hi := wf.wt t (.inr hwo)
      rw [hi] at hv8
      cases (show Rp K H1 v8 (.str "w") from hv8).toStr
      refine tst_eq rfl (by rw [hwo]; rfl) (iteT ?_)
      refine ⟨_, rfl, _, rfl, ⟨_, rfl, _, rfl, ?_⟩⟩
      refine ⟨_, _, .cons (h1.sm s1) (.cons (.str _) .nil), ⟨p, rfl, rfl⟩, fun H2 v9 s2 hv9 => ?_⟩
      cases hv9.toStr
      have s12 := s1.trans s2
      refine ⟨_, _, .cons (h1.sm s12) (.cons (h2.sm s12) (.cons (.str _) .nil)), ⟨p, st, .m, rfl, rfl⟩, fun H3 v10 s3 hv10 => ?_⟩
      have s13 := s12.trans s3
      refine ⟨rfl, _, rfl, ?_⟩
      rw [own_non hv10, Bool.not_not]
      have en : need (at' p st t) (st.at t) st.sh = if st.sh.m.isSome then some .m else none := by unfold need; rw [hwo]
      rw [en] at k
      show if (st.sh.own .m).isSome = true then _ else _
      cases ho : st.sh.m with
      | none =>
        rw [ho] at k
        rw [show (st.sh.own .m) = none from ho]
        exact iteF (k H3 _ s13 .non)
      | some z =>
        rw [ho] at k
        rw [show (st.sh.own .m) = some z from ho]
        refine iteT ⟨_, rfl, _, rfl, ?_⟩
        refine ⟨_, _, .cons (h1.sm s13) (.cons (.str _) .nil), ⟨p, rfl, rfl⟩, fun H4 v11 s4 hv11 => k H4 v11 (s13.trans s4) hv11⟩
    refine tst_ne rfl (fun q => hwo (Md.s_inj q)) (iteF ?_)
    have hrun : (st.at t).md = .run := by
      cases e : (st.at t).md with
      | run => rfl
      | wait => exact absurd e hwa
      | woken => exact absurd e hwo
      | over => exact absurd e hov
    refine ⟨_, rfl, _, rfl, _, rfl, ?_⟩
    refine ⟨_, _, .cons (h1.sm s1) (.cons (h2.sm s1) (.cons (.int _) .nil)), ⟨p, st, t, rfl, ht, wf, hpc, rfl⟩, fun H2 v9 s2 hv9 => ?_⟩
    have s12 := s1.trans s2
    obtain ⟨b1, b2⟩ := worth_bad hv9
    refine ⟨b1, _, rfl, ?_⟩
    rw [b2]
    have hu5' : Rp K H2 u5 (eIn (at' p st t)) := hu5.sm s12
    have hv8' := hv8.sm s2
    have h1' := h1.sm s12
    have h2' := h2.sm s12
    cases hb : bad (at' p st t) (st.at t).a with
    | true =>
      refine iteT (k H2 _ s12 ?_)
      rw [show need (at' p st t) (st.at t) st.sh = none by unfold need; rw [hrun]; simp [hb]]
      exact .non
    | false =>
      refine iteF ?_
      have kk : ∀ o, need (at' p st t) (st.at t) st.sh = o → ∀ H' v, Same H H' → Rp K H' v (eOpt (fun z => .str z.s) o) → Q v H' := fun o e H' v q1 q2 => k H' v q1 (by rw [e]; exact q2)
      have en : need (at' p st t) (st.at t) st.sh = match at' p st t with
        | .lock l => if (st.sh.own l).isSome then some l.g else none
        | .send _ => if st.sh.q.length = 1 then some .q else none
        | .take => if st.sh.q.length = 0 then some .q else none
        | _ => none := by
        unfold need
        rw [hrun]
        simp only [hb, Bool.false_eq_true, if_false]
        first | done | (cases at' p st t <;> rfl)
      generalize at' p st t = i at *
      cases i with
      | lock l =>
        cases (show Rp K H2 v8 (.str l.g.s) from hv8').toStr
        refine txt_eq (a := "lock") rfl hu5' at0 rfl (iteT ?_)
        refine ⟨_, rfl, _, rfl, _, rfl, ?_⟩
        refine ⟨_, _, .cons h1' (.cons h2' (.cons (.str _) .nil)), ⟨p, st, l, rfl, rfl⟩, fun H3 v10 s3 hv10 => ?_⟩
        have s13 := s12.trans s3
        refine ⟨rfl, _, rfl, ?_⟩
        rw [own_non hv10, Bool.not_not]
        cases ho : st.sh.own l with
        | some z =>
          refine iteT ⟨_, rfl, kk (some l.g) (by rw [en]; simp [ho]) H3 _ s13 (.str _)⟩
        | none =>
          refine iteF ?_
          refine txt_in (a := "lock") rfl (hu5'.sm s3) at0 (by decide +kernel : _ = false) fun H4 s4 => iteF ?_
          exact kk none (by rw [en]; simp [ho]) H4 _ (s13.trans s4) .non
      | send e =>
        cases (show Rp K H2 v8 (.str "q") from hv8').toStr
        refine txt_ne (a := "send") rfl hu5' at0 (by decide +kernel) (iteF (iteF ?_))
        refine txt_in (a := "send") rfl (hu5') at0 (by decide +kernel : _ = true) fun H3 s3 => iteT ?_
        have s13 := s12.trans s3
        refine ⟨_, rfl, _, rfl, _, rfl, ?_⟩
        refine ⟨_, _, .cons (h1'.sm s3) (.cons (h2'.sm s3) (.cons (.str _) .nil)), ⟨p, st, rfl, rfl⟩, fun H4 v10 s4 hv10 => ?_⟩
        have s14 := s13.trans s4
        refine gtup_D hv10 rfl fun xs hxs => ?_
        rcases hxs with _ | ⟨g1, _ | ⟨g2, _ | _⟩⟩
        cases g2.toInt
        refine ⟨_, _, rfl, _, _, rfl, rfl, ?_⟩
        refine txt_eq (a := "send") rfl (hu5'.sm (s3.trans s4)) at0 rfl (iteT ?_)
        refine ⟨_, rfl, _, _, rfl, g1, _, rfl, rfl, _, rfl, ?_⟩
        have el : (st.sh.q.map PyData.int).length = st.sh.q.length := List.length_map _
        have ed : decide (V.int (((st.sh.q.map PyData.int).length : Nat) : Int) = V.int 1) = decide (st.sh.q.length = 1) := decide_eq_decide.mpr ⟨fun q => by have := V.int.inj q; omega, fun q => by rw [el, q]; rfl⟩
        rw [ed]
        by_cases hq : st.sh.q.length = 1
        · rw [decide_eq_true hq]
          exact iteT (iteT ⟨_, rfl, kk (some .q) (by rw [en]; simp [hq]) H4 _ s14 (.str _)⟩)
        · rw [decide_eq_false hq]
          refine iteF ?_
          refine txt_ne (a := "send") rfl (hu5'.sm (s3.trans s4)) at0 (by decide +kernel) (iteF (iteF ?_))
          exact kk none (by rw [en]; simp [hq]) H4 _ s14 .non
      | take =>
        cases (show Rp K H2 v8 (.str "q") from hv8').toStr
        refine txt_ne (a := "take") rfl hu5' at0 (by decide +kernel) (iteF (iteF ?_))
        refine txt_in (a := "take") rfl (hu5') at0 (by decide +kernel : _ = true) fun H3 s3 => iteT ?_
        have s13 := s12.trans s3
        refine ⟨_, rfl, _, rfl, _, rfl, ?_⟩
        refine ⟨_, _, .cons (h1'.sm s3) (.cons (h2'.sm s3) (.cons (.str _) .nil)), ⟨p, st, rfl, rfl⟩, fun H4 v10 s4 hv10 => ?_⟩
        have s14 := s13.trans s4
        refine gtup_D hv10 rfl fun xs hxs => ?_
        rcases hxs with _ | ⟨g1, _ | ⟨g2, _ | _⟩⟩
        cases g2.toInt
        refine ⟨_, _, rfl, _, _, rfl, rfl, ?_⟩
        refine txt_ne (a := "take") rfl (hu5'.sm (s3.trans s4)) at0 (by decide +kernel) (iteF (iteF ?_))
        refine txt_eq (a := "take") rfl (hu5'.sm (s3.trans s4)) at0 rfl (iteT ?_)
        refine ⟨_, rfl, _, _, rfl, g1, rfl, _, rfl, ?_⟩
        have el : (st.sh.q.map PyData.int).length = st.sh.q.length := List.length_map _
        have ed : decide (V.int (((st.sh.q.map PyData.int).length : Nat) : Int) = V.int 0) = decide (st.sh.q.length = 0) := decide_eq_decide.mpr ⟨fun q => by have := V.int.inj q; omega, fun q => by rw [el, q]; rfl⟩
        rw [ed]
        by_cases hq : st.sh.q.length = 0
        · rw [decide_eq_true hq]
          exact iteT ⟨_, rfl, kk (some .q) (by rw [en]; simp [hq]) H4 _ s14 (.str _)⟩
        · rw [decide_eq_false hq]
          exact iteF (kk none (by rw [en]; simp [hq]) H4 _ s14 .non)
      | _ =>
        refine txt_ne rfl hu5' at0 (by simp only [In.k, ne_eq]; decide +kernel) (iteF (iteF ?_))
        refine txt_in rfl hu5' at0 (by simp only [In.k]; decide +kernel : _ = false) fun H3 s3 => iteF ?_
        exact kk none en H3 _ (s12.trans s3) .non

theorem filt_take {α : Type} {p : α → Bool} {l : List α} {i : Nat} {a : α} (h : l[i]? = some a) : (l.take (i + 1)).filter p = (l.take i).filter p ++ if p a = true then [a] else [] := by
  rw [List.take_add_one, h, List.filter_append]
  by_cases q : p a = true <;> simp [q]
theorem range_get {n i : Nat} (h : i < n) : (List.range n)[i]? = some i := by simp [h]
theorem fm_take {α β : Type} {f : α → Option β} {l : List α} {i : Nat} {a : α} (h : l[i]? = some a) : (l.take (i + 1)).filterMap f = (l.take i).filterMap f ++ (f a).toList := by
  rw [List.take_add_one, h, List.filterMap_append]
  cases q : f a <;> simp [q]

/-- blocked: 0 program, 1 state, 2 found, 3 thread, 4 name -/
abbrev s_blocked : Stmt := top 44
theorem sc_blocked : FnScope ["program", "state", "found", "thread", "name"] ["program", "state"] (defScope s_blocked) := ⟨rfl, rfl, rfl, by decide +kernel, rfl, by decide +kernel, by decide +kernel⟩
def eBl (l : List (Nat × Thg)) : D := .tuple (l.map fun z => .tuple [dI z.1, .str z.2.s])
def pBlocked (ds : List D) (d : D) : Prop := ∃ p s, ds = [eProg p, eSt s] ∧ p.length < 1000 ∧ WF p s ∧ d = eBl (blockedL p s)
theorem ok_blocked (T : Txt w K mg C) : Cal P w K mg base 9 "blocked" ["program", "state"] (spR K pBlocked) := by
  refine T.d_blocked.ok sc_blocked (fun vs H Q E h => ?_) (fun f cdv A outer s H vs Q E hr h => ?_)
  · obtain ⟨ds, d, hd, ⟨p, s, rfl, _⟩, _⟩ := h
    exact hd.length
  · obtain ⟨ds, d, hd, ⟨p, st, rfl, hp, wf, rfl⟩, k⟩ := h
    rcases hd with _ | ⟨h1, _ | ⟨h2, _ | _⟩⟩
    rename_i v1 v2
    refine ⟨_, (pss_cons (ps_set (i := 2) sc_blocked.nd rfl (Or.inl rfl) (pe_lst pa_nil))
        (pss_cons (ps_for PassesOwn.never rfl (pi_range1 rfl T.range (pa_cons (pe_callB call_lenD' (by rfl) T.len PySem.boot_len (pa_cons (pe_ix ix_D (pv 0) pe_int (fun _ _ => rfl)) pa_nil)) pa_nil)) (pg_name (i := 3) sc_blocked.nd rfl (Or.inl rfl))
          (pss_cons (ps_set (i := 4) sc_blocked.nd rfl (Or.inl rfl) (pe_own (ok_needed T) (hr.mono (by decide)) rfl (pa_cons (pv 0) (pa_cons (pv 1) (pa_cons (pv 3) pa_nil)))))
          (pss_one (ps_if (pt_cmpR op_notN (pv 4) pe_non (nomark _))
            (pss_one (ps_expr (pe_bm PySem.F.plainAttrs_list PySem.F.slot_list_append PySem.F.type_list_append mt_append (pv 2) (pa_cons (pe_tup (pa_cons (pv 3) (pa_cons (pv 4) pa_nil))) pa_nil))))
            pss_nil))))
        (pss_one (ps_ret (pe_callTy call_tuple_of (by rfl) T.tuple (by decide +kernel) (pa_cons (pv 2) pa_nil)))))), ?_⟩
    refine ⟨Nat.zero_le _, fun l hl => ?_⟩
    have s0 : Same H (upd H l (.lst [])) := Same.new0 hl
    refine ⟨_, rfl, _, _, _, h1.sm s0, rfl, rfl, fun u hu => ⟨_, _, rfl, hu, ?_⟩⟩
    have el : ((p.map eCode).length : Int) = (p.length : Int) := by rw [List.length_map]
    refine ⟨_, rfl, by rw [el]; omega, by rw [el]; omega, ?_⟩
    have en : ((p.map eCode).length : Int).toNat = p.length := by rw [el]; omega
    rw [en]
    let F := fun t => (need (at' p st t) (st.at t) st.sh).map fun z => (t, z)
    refine for_range (lo := 0) (n := p.length) (fun i σ H' => Same H H' ∧ ∃ xs a b, σ = [some v1, some v2, some (V.ref l), a, b] ∧ H' l = some (.lst xs) ∧ xs.length ≤ i ∧ RpAll K H' xs ((((List.range p.length).take i).filterMap F).map fun z => .tuple [dI z.1, .str z.2.s]))
      ⟨s0, [], none, none, rfl, upd_same, Nat.le_refl _, .nil⟩ ?_ ?_
    · rintro i σ H' hi ⟨s1, xs, a, b, rfl, hx, hlen, ra⟩
      have ei : ((0 : Int) + (i : Int)) = (i : Int) := by omega
      rw [ei]
      refine ⟨_, rfl, _, rfl, _, rfl, ?_⟩
      refine ⟨_, _, .cons (h1.sm s1) (.cons (h2.sm s1) (.cons (.int _) .nil)), ⟨p, st, i, rfl, hi, wf, rfl⟩, fun H2 v s2 hv => ?_⟩
      have s12 := s1.trans s2
      have hx2 := s2 _ _ hx
      have ra2 := ra.sm s2
      refine ⟨_, rfl, rfl, _, rfl, ?_⟩
      rw [opt_non hv, Bool.not_not]
      have ft := fm_take (f := F) (range_get hi)
      cases hn : need (at' p st i) (st.at i) st.sh with
      | none =>
        rw [show F i = none by show (need _ _ _).map _ = none; rw [hn]; rfl] at ft
        refine iteF ⟨s12, xs, _, _, rfl, hx2, by omega, ?_⟩
        rw [ft]
        simpa using ra2
      | some z =>
        rw [show F i = some (i, z) by show (need _ _ _).map _ = _; rw [hn]; rfl] at ft
        rw [hn] at hv
        refine iteT ?_
        refine ⟨_, rfl, .inl ⟨rfl, _, SqL.of hx2⟩, _, rfl, _, rfl, by show 2 ≤ sizeLine; decide, fun q hq => ?_⟩
        have hne : l ≠ q := ne_of_none hx2 hq
        refine ⟨l, xs, _, rfl, rfl, by rw [upd_ne hne]; exact hx2, sizeLine_small (by omega), ?_⟩
        have s3 := s12.new hq (o := .tup [V.int (i : Int), v])
        refine ⟨s3.wr hl, _, _, _, rfl, upd_same, by simp; omega, ?_⟩
        rw [ft, List.map_append]
        have r1 : Rp K (upd H2 q (.tup [V.int (i : Int), v])) (.ref q) (.tuple [dI i, .str z.s]) := Rp.newT hq (.cons (.int _) (.cons hv .nil))
        exact ((ra2.tle (Tle.new hq)).snoc r1).tle (Tle.lst (by rw [upd_ne hne]; exact hx2))
    · rintro σ H' ⟨s1, xs, a, b, rfl, hx, hlen, ra⟩
      rw [show (List.range p.length).take p.length = List.range p.length from by rw [List.take_of_length_le]; simp] at ra
      exact ⟨_, rfl, l, _, rfl, .inl ⟨SqL.of hx, fun q hq => k _ _ (s1.new hq) (Rp.newT hq ra)⟩⟩

/-- enabled: 0 program, 1 state, 2 found, 3 thread -/
abbrev s_enabled : Stmt := top 45
theorem sc_enabled : FnScope ["program", "state", "found", "thread"] ["program", "state"] (defScope s_enabled) := ⟨rfl, rfl, rfl, by decide +kernel, rfl, by decide +kernel, by decide +kernel⟩
def pEnabled (ds : List D) (d : D) : Prop := ∃ p s, ds = [eProg p, eSt s] ∧ p.length < 1000 ∧ WF p s ∧ d = .tuple ((enabled p s).map dI)
theorem ok_enabled (T : Txt w K mg C) : Cal P w K mg base 9 "enabled" ["program", "state"] (spR K pEnabled) := by
  refine T.d_enabled.ok sc_enabled (fun vs H Q E h => ?_) (fun f cdv A outer s H vs Q E hr h => ?_)
  · obtain ⟨ds, d, hd, ⟨p, s, rfl, _⟩, _⟩ := h
    exact hd.length
  · obtain ⟨ds, d, hd, ⟨p, st, rfl, hp, wf, rfl⟩, k⟩ := h
    rcases hd with _ | ⟨h1, _ | ⟨h2, _ | _⟩⟩
    rename_i v1 v2
    refine ⟨_, (pss_cons (ps_set (i := 2) sc_enabled.nd rfl (Or.inl rfl) (pe_lst pa_nil))
        (pss_cons (ps_for PassesOwn.never rfl (pi_range1 rfl T.range (pa_cons (pe_callB call_lenD' (by rfl) T.len PySem.boot_len (pa_cons (pe_ix ix_D (pv 0) pe_int (fun _ _ => rfl)) pa_nil)) pa_nil)) (pg_name (i := 3) sc_enabled.nd rfl (Or.inl rfl))
          (pss_one (ps_if (PW.pt (pw_and (pt_cmpR op_ne (pe_ix ix_D (pe_ix ix_D (pe_ix ix_D (pv 1) pe_int (fun _ _ => rfl)) (pv 3) (fun _ _ => rfl)) pe_int (fun _ _ => rfl)) (pe_gs rfl T.g_OVER) (nomark _)) (pw_and1 (pt_cmpR op_isN (pe_own (ok_needed T) (hr.mono (by decide)) rfl (pa_cons (pv 0) (pa_cons (pv 1) (pa_cons (pv 3) pa_nil)))) pe_non (nomark _)))))
            (pss_one (ps_expr (pe_bm PySem.F.plainAttrs_list PySem.F.slot_list_append PySem.F.type_list_append mt_append (pv 2) (pa_cons (pv 3) pa_nil))))
            pss_nil)))
        (pss_one (ps_ret (pe_callTy call_tuple_of (by rfl) T.tuple (by decide +kernel) (pa_cons (pv 2) pa_nil)))))), ?_⟩
    refine ⟨Nat.zero_le _, fun l hl => ?_⟩
    have s0 : Same H (upd H l (.lst [])) := Same.new0 hl
    refine ⟨_, rfl, _, _, _, h1.sm s0, rfl, rfl, fun u hu => ⟨_, _, rfl, hu, ?_⟩⟩
    have el : ((p.map eCode).length : Int) = (p.length : Int) := by rw [List.length_map]
    refine ⟨_, rfl, by rw [el]; omega, by rw [el]; omega, ?_⟩
    have en' : ((p.map eCode).length : Int).toNat = p.length := by rw [el]; omega
    rw [en']
    refine for_range (lo := 0) (n := p.length) (fun i σ H' => Same H H' ∧ ∃ xs a, σ = [some v1, some v2, some (V.ref l), a] ∧ H' l = some (.lst xs) ∧ xs.length ≤ i ∧ RpAll K H' xs ((((List.range p.length).take i).filter (en p st)).map dI))
      ⟨s0, [], none, rfl, upd_same, Nat.le_refl _, .nil⟩ ?_ ?_
    · rintro i σ H' hi ⟨s1, xs, a, rfl, hx, hlen, ra⟩
      have ei : ((0 : Int) + (i : Int)) = (i : Int) := by omega
      rw [ei]
      have ft := filt_take (p := Ev.en p st) (range_get hi)
      refine ⟨_, rfl, _, _, _, h2.sm s1, rfl, rfl, fun u1 hu1 => ⟨_, rfl, _, _, _, hu1, rfl, at_ts wf.len hi, fun u2 hu2 => ⟨_, _, _, hu2, rfl, rfl, fun u3 hu3 => ?_⟩⟩⟩
      cases hu3.toStr
      refine ⟨rfl, _, rfl, ?_⟩
      by_cases hov : (st.at i).md = .over
      · rw [show (!decide (V.str (st.at i).md.s = V.str "over")) = false by rw [hov]; rfl]
        refine iteF (iteF ⟨s1, xs, _, rfl, hx, by omega, ?_⟩)
        rw [ft, if_neg (by unfold Ev.en enl; simp [hov])]
        simpa using ra
      · rw [show (!decide (V.str (st.at i).md.s = V.str "over")) = true by rw [decide_eq_false (fun q => hov (Md.s_inj (b := .over) (V.str.inj q)) : ¬ V.str (st.at i).md.s = V.str "over")]; rfl]
        refine iteT ?_
        refine ⟨_, rfl, _, rfl, _, rfl, ?_⟩
        refine ⟨_, _, .cons (h1.sm s1) (.cons (h2.sm s1) (.cons (.int _) .nil)), ⟨p, st, i, rfl, hi, wf, rfl⟩, fun H2 v s2 hv => ?_⟩
        have s12 := s1.trans s2
        have hx2 := s2 _ _ hx
        have ra2 := ra.sm s2
        refine ⟨rfl, _, rfl, ?_⟩
        rw [opt_non hv]
        cases hn : need (at' p st i) (st.at i) st.sh with
        | some z =>
          refine iteF ⟨s12, xs, _, rfl, hx2, by omega, ?_⟩
          rw [ft, if_neg (by unfold Ev.en enl; simp [hn])]
          simpa using ra2
        | none =>
          refine iteT ?_
          refine ⟨_, rfl, .inl ⟨rfl, _, SqL.of hx2⟩, _, rfl, ?_⟩
          refine ⟨l, xs, _, rfl, rfl, hx2, sizeLine_small (by omega), ?_⟩
          refine ⟨s12.wr hl, _, _, rfl, upd_same, by simp; omega, ?_⟩
          rw [ft, if_pos (by unfold Ev.en enl; simp [hn, hov]), List.map_append]
          exact (ra2.snoc (.int _)).tle (Tle.lst hx2)
    · rintro σ H' ⟨s1, xs, a, rfl, hx, hlen, ra⟩
      rw [show (List.range p.length).take p.length = List.range p.length from by rw [List.take_of_length_le]; simp] at ra
      exact ⟨_, rfl, l, _, rfl, .inl ⟨SqL.of hx, fun q hq => k _ _ (s1.new hq) (Rp.newT hq ra)⟩⟩

/-- is_deadlock: 0 program, 1 state -/
abbrev s_is_deadlock : Stmt := top 46
theorem sc_is_deadlock : FnScope ["program", "state"] ["program", "state"] (defScope s_is_deadlock) := ⟨rfl, rfl, rfl, by decide +kernel, rfl, by decide +kernel, by decide +kernel⟩
def pDead (ds : List D) (d : D) : Prop := ∃ p s, ds = [eProg p, eSt s] ∧ p.length < 1000 ∧ WF p s ∧ d = .bool (isDead p s)
theorem ok_is_deadlock (T : Txt w K mg C) : Cal P w K mg base 10 "is_deadlock" ["program", "state"] (spR K pDead) := by
  refine T.d_is_deadlock.ok sc_is_deadlock (fun vs H Q E h => ?_) (fun f cdv A outer s H vs Q E hr h => ?_)
  · obtain ⟨ds, d, hd, ⟨p, s, rfl, _⟩, _⟩ := h
    exact hd.length
  · obtain ⟨ds, d, hd, ⟨p, st, rfl, hp, wf, rfl⟩, k⟩ := h
    rcases hd with _ | ⟨h1, _ | ⟨h2, _ | _⟩⟩
    refine ⟨_, (pss_one (ps_ret (pe_and (pe_cmpR op_eq (pe_callB call_lenD' (by rfl) T.len PySem.boot_len (pa_cons (pe_own (ok_enabled T) (hr.mono (by decide)) rfl (pa_cons (pv 0) (pa_cons (pv 1) pa_nil))) pa_nil)) pe_int (nomark _)) (pe_one (pe_cmpR op_gt (pe_callB call_lenD' (by rfl) T.len PySem.boot_len (pa_cons (pe_own (ok_blocked T) (hr.mono (by decide)) rfl (pa_cons (pv 0) (pa_cons (pv 1) pa_nil))) pa_nil)) pe_int (nomark _)))))), ?_⟩
    refine ⟨_, rfl, _, rfl, ?_⟩
    refine ⟨_, _, .cons h1 (.cons h2 .nil), ⟨p, st, rfl, hp, wf, rfl⟩, fun H1 v s1 hv => ⟨_, _, rfl, hv, rfl, _, rfl, ?_⟩⟩
    have e1 : decide (V.int ((((enabled p st).map dI).length : Nat) : Int) = V.int 0) = (enabled p st).isEmpty := by
      rw [List.length_map]
      cases enabled p st with
      | nil => rfl
      | cons a r => exact decide_eq_false fun q => by have := V.int.inj q; simp at this; omega
    rw [e1]
    unfold isDead at k
    cases he : (enabled p st).isEmpty with
    | false =>
      rw [he] at k
      exact iteF (k H1 _ s1 (.bl _))
    | true =>
      rw [he, Bool.true_and] at k
      refine iteT ?_
      refine ⟨_, rfl, _, rfl, ?_⟩
      refine ⟨_, _, .cons (h1.sm s1) (.cons (h2.sm s1) .nil), ⟨p, st, rfl, hp, wf, rfl⟩, fun H2 v2 s2 hv2 => ⟨_, _, rfl, hv2, _, _, rfl, rfl, k H2 _ (s1.trans s2) ?_⟩⟩
      have e2 : decide ((0 : Int) < ((((blockedL p st).map fun z => PyData.tuple [dI z.1, .str z.2.s]).length : Nat) : Int)) = !(blockedL p st).isEmpty := by
        rw [List.length_map]
        cases blockedL p st with
        | nil => rfl
        | cons a r => exact decide_eq_true (by simp)
      show Rp K H2 (V.bl (decide ((0 : Int) < _))) _
      rw [e2]
      exact .bl _

/-- _touches: 0 program, 1 instruction, 2 mode, 3 kind, 4 name -/
abbrev s_touches : Stmt := top 47
theorem sc_touches : FnScope ["program", "instruction", "mode", "kind", "name"] ["program", "instruction", "mode"] (defScope s_touches) := ⟨rfl, rfl, rfl, by decide +kernel, rfl, by decide +kernel, by decide +kernel⟩
def pTouch (ds : List D) (d : D) : Prop := ∃ p i, ∃ th : Thr, ds = [eProg p, eIn i, .str th.md.s] ∧ bad i th.a = false ∧ d = eTo (touch i th)
theorem ok_touches (T : Txt w K mg C) : Cal P w K mg base 2 "_touches" ["program", "instruction", "mode"] (spR K pTouch) := by
  refine T.d_touches.ok sc_touches (fun vs H Q E h => ?_) (fun f cdv A outer s H vs Q E hr h => ?_)
  · obtain ⟨ds, d, hd, ⟨p, i, th, rfl, _⟩, _⟩ := h
    exact hd.length
  · obtain ⟨ds, d, hd, ⟨p, i, th, rfl, hb, rfl⟩, k⟩ := h
    rcases hd with _ | ⟨h1, _ | ⟨h2, _ | ⟨h3, _ | _⟩⟩⟩
    cases h3.toStr
    refine ⟨_, (pss_cons (ps_set (i := 3) sc_touches.nd rfl (Or.inl rfl) (pe_ix ix_D (pv 1) pe_int (fun _ _ => rfl)))
        (pss_cons (ps_set (i := 4) sc_touches.nd rfl (Or.inl rfl) (pe_own (ok_thing_of T) (hr.mono (by decide)) rfl (pa_cons (pv 1) pa_nil)))
        (pss_cons (ps_if (pt_cmpR op_isN (pv 4) pe_non (nomark _))
          (pss_one (ps_ret (pe_tup pa_nil)))
          pss_nil)
        (pss_cons (ps_if (pt_cmpR op_eq (pv 3) pe_str (nomark _))
          (pss_one (ps_ret (pe_tup (pa_cons (pe_tup (pa_cons (pv 4) (pa_cons pe_bl pa_nil))) pa_nil))))
          pss_nil)
        (pss_cons (ps_if (pt_cmpR op_eq (pv 3) pe_str (nomark _))
          (pss_one (ps_ret (pe_tup (pa_cons (pe_tup (pa_cons (pe_own (ok_lock_of T) (hr.mono (by decide)) rfl (pa_cons (pv 0) (pa_cons (pv 4) pa_nil))) (pa_cons pe_bl pa_nil))) (pa_cons (pe_tup (pa_cons (pv 4) (pa_cons (pe_cmpR op_eq (pv 2) (pe_gs rfl T.g_RUN) (nomark _)) pa_nil))) pa_nil)))))
          pss_nil)
        (pss_one (ps_ret (pe_tup (pa_cons (pe_tup (pa_cons (pv 4) (pa_cons pe_bl pa_nil))) pa_nil))))))))), ?_⟩
    refine ⟨_, rfl, _, _, _, h2, rfl, at0, fun u1 hu1 => ?_⟩
    cases hu1.toStr
    refine ⟨_, rfl, _, _, .cons h2 .nil, ⟨i, rfl, rfl⟩, fun H1 v s1 hv => ?_⟩
    refine ⟨_, rfl, rfl, _, rfl, ?_⟩
    rw [opt_non hv]
    have none_ : i.thing = none → touch i th = [] := fun q => by
      cases i <;> first | (cases q; done) | (unfold touch; simp [In.thing])
    have one_ : ∀ z, i.thing = some z → i ≠ .wait → (∀ r v, i ≠ .get r v) → touch i th = [(z, true)] := fun z q q2 q3 => by
      cases i <;> first | exact absurd rfl q2 | exact absurd rfl (q3 _ _) | (unfold touch; simp [hb, q])
    cases ht : i.thing with
    | none =>
      refine iteT ?_
      rw [none_ ht] at k
      exact ⟨Nat.zero_le _, fun p hp => k _ _ (s1.new hp) (Rp.newT hp .nil)⟩
    | some z =>
      refine iteF ?_
      rw [ht] at hv
      have hv : Rp K H1 v (.str z.s) := hv
      cases hv.toStr
      by_cases hg : ∃ r v, i = .get r v
      · obtain ⟨r, v, rfl⟩ := hg
        cases ht
        refine tst_eq (a := "get") rfl rfl (iteT ?_)
        refine ⟨_, rfl, by show 2 ≤ sizeLine; decide, fun p hp => ?_⟩
        refine ⟨by show 1 ≤ sizeLine; decide, fun q hq => k _ _ ((s1.new hp).new hq) (Rp.newT hq (.cons (Rp.newT hp (.cons (.str _) (.cons (.bl _) .nil))) .nil))⟩
      · by_cases hw : i = .wait
        · subst hw
          cases ht
          refine tst_ne (a := "wait") rfl (by decide +kernel) (iteF ?_)
          refine tst_eq (a := "wait") rfl rfl (iteT ?_)
          refine ⟨_, rfl, _, rfl, ?_⟩
          refine ⟨_, _, .cons (h1.sm s1) (.cons (.str _) .nil), ⟨p, rfl, rfl⟩, fun H2 v2 s2 hv2 => ?_⟩
          cases hv2.toStr
          have s12 := s1.trans s2
          refine ⟨by show 2 ≤ sizeLine; decide, fun p1 hp1 => ?_⟩
          refine ⟨_, rfl, _, rfl, rfl, ?_⟩
          refine ⟨by show 2 ≤ sizeLine; decide, fun p2 hp2 => ?_⟩
          refine ⟨by show 2 ≤ sizeLine; decide, fun p3 hp3 => ?_⟩
          have ed : decide (V.str th.md.s = V.str "run") = decide (th.md = .run) := decide_eq_decide.mpr ⟨fun q => Md.s_inj (V.str.inj q), fun q => by rw [q]; rfl⟩
          refine k _ _ (((s12.new hp1).new hp2).new hp3) (Rp.newT hp3 (.cons ?_ (.cons (Rp.newT hp2 (.cons (.str _) (.cons ?_ .nil))) .nil)))
          · exact (Rp.newT hp1 (.cons (.str "m") (.cons (.bl true) .nil))).tle (Tle.new hp2)
          · rw [ed]
            exact .bl _
        · have k1 : i.k ≠ "get" := by
            cases i <;> first | exact absurd ⟨_, _, rfl⟩ hg | (simp only [In.k, ne_eq]; decide +kernel)
          have k2 : i.k ≠ "wait" := by
            cases i <;> first | exact absurd rfl hw | (simp only [In.k, ne_eq]; decide +kernel)
          refine tst_ne rfl k1 (iteF ?_)
          refine tst_ne rfl k2 (iteF ?_)
          rw [one_ z ht hw fun r v q => hg ⟨r, v, q⟩] at k
          refine ⟨_, rfl, by show 2 ≤ sizeLine; decide, fun p hp => ?_⟩
          refine ⟨by show 1 ≤ sizeLine; decide, fun q hq => k _ _ ((s1.new hp).new hq) (Rp.newT hq (.cons (Rp.newT hp (.cons (.str _) (.cons (.bl _) .nil))) .nil))⟩
end
end Ev

-- part EvW4
set_option maxHeartbeats 400000
set_option Elab.async false
set_option linter.all false
set_option maxRecDepth 100000
set_option maxHeartbeats 4000000
/-! The walks: the first state; Draft. -/
namespace Ev
open PySem L2
section
variable {P : Program} {w : World} {K : PySem.W.Frag} {mg : Str → Option Value} {base : Heap} {C : Addr}

def valF : D → Option D
  | .tuple (.str a :: .str _ :: z :: _) => if a = "var" then some z else none
  | _ => none
theorem val_things : things.filterMap valF = [.int 0, .int 1] := rfl
theorem thing_cases : ∀ d ∈ things, (∃ (a b : Str), a ≠ "var" ∧ ∃ r, d = .tuple (.str a :: .str b :: r)) ∨ ∃ b z, d = .tuple [.str "var", .str b, z] := by
  intro d hd
  unfold things at hd
  simp only [List.mem_cons, List.not_mem_nil, or_false] at hd
  rcases hd with rfl | rfl | rfl | rfl | rfl | rfl <;> first | exact .inr ⟨_, _, rfl⟩ | exact .inl ⟨_, _, by decide +kernel, _, rfl⟩
theorem fm_const {α β : Type} (b : β) : ∀ l : List α, l.filterMap (fun _ => some b) = l.map fun _ => b
  | [] => rfl
  | a :: l => by simp
/-- first_state: 0 program, 1 values, 2 thing, 3 owners, 4 _, 5 queues, 6 waiting, 7 threads -/
abbrev s_first_state : Stmt := top 37
theorem sc_first_state : FnScope ["program", "values", "thing", "owners", "_", "queues", "waiting", "threads"] ["program"] (defScope s_first_state) := ⟨rfl, rfl, rfl, by decide +kernel, rfl, by decide +kernel, by decide +kernel⟩
def pFirst (ds : List D) (d : D) : Prop := ∃ p, ds = [eProg p] ∧ p.length < 1000 ∧ d = eSt (first p)
theorem ok_first_state (T : Txt w K mg C) : Cal P w K mg base 2 "first_state" ["program"] (spR K pFirst) := by
  refine T.d_first_state.ok sc_first_state (fun vs H Q E h => ?_) (fun f cdv A outer s H vs Q E hr h => ?_)
  · obtain ⟨ds, d, hd, ⟨p, rfl, _⟩, _⟩ := h
    exact hd.length
  · obtain ⟨ds, d, hd, ⟨p, rfl, hp, rfl⟩, k⟩ := h
    rcases hd with _ | ⟨h1, _ | _⟩
    refine ⟨_, (pss_cons (ps_set (i := 1) sc_first_state.nd rfl (Or.inl rfl) (pe_callTy call_tuple_of (by rfl) T.tuple (by decide +kernel) (pa_cons (pe_lc (own := [("thing", 2)]) (g := gName 2) rfl sc_first_state.nd (pi_tup (pe_ix ix_D (pv 0) pe_int (fun _ _ => rfl))) (blkOk_by (N := ["program", "values", "thing", "owners", "_", "queues", "waiting", "threads"]) (sc := defScope s_first_state) (own := [("thing", 2)]) (by decide +kernel)) (fun _ _ _ _ _ => (pg_name (i := 2) sc_first_state.nd rfl (Or.inl rfl))) (fun _ _ _ _ _ => (pts_one (pt_cmpR op_eq (pe_ix (ix_DK rfl) (pv 2) pe_int (fun _ _ => rfl)) pe_str (nomark _)))) (fun _ _ _ _ _ => (pe_ix (ix_DK rfl) (pv 2) pe_int (fun _ _ => rfl)))) pa_nil)))
        (pss_cons (ps_set (i := 3) sc_first_state.nd rfl (Or.inl rfl) (pe_callTy call_tuple_of (by rfl) T.tuple (by decide +kernel) (pa_cons (pe_lc (own := [("_", 4)]) (g := gName 4) rfl sc_first_state.nd (pi_tup (pe_own (ok_names_of T) (hr.mono (by decide)) rfl (pa_cons (pv 0) (pa_cons pe_str pa_nil)))) (blkOk_by (N := ["program", "values", "thing", "owners", "_", "queues", "waiting", "threads"]) (sc := defScope s_first_state) (own := [("_", 4)]) (by decide +kernel)) (fun _ _ _ _ _ => (pg_name (i := 4) sc_first_state.nd rfl (Or.inl rfl))) (fun _ _ _ _ _ => pts_nil) (fun _ _ _ _ _ => pe_non)) pa_nil)))
        (pss_cons (ps_set (i := 5) sc_first_state.nd rfl (Or.inl rfl) (pe_callTy call_tuple_of (by rfl) T.tuple (by decide +kernel) (pa_cons (pe_lc (own := [("_", 4)]) (g := gName 4) rfl sc_first_state.nd (pi_tup (pe_own (ok_names_of T) (hr.mono (by decide)) rfl (pa_cons (pv 0) (pa_cons pe_str pa_nil)))) (blkOk_by (N := ["program", "values", "thing", "owners", "_", "queues", "waiting", "threads"]) (sc := defScope s_first_state) (own := [("_", 4)]) (by decide +kernel)) (fun _ _ _ _ _ => (pg_name (i := 4) sc_first_state.nd rfl (Or.inl rfl))) (fun _ _ _ _ _ => pts_nil) (fun _ _ _ _ _ => (pe_tup pa_nil))) pa_nil)))
        (pss_cons (ps_set (i := 6) sc_first_state.nd rfl (Or.inl rfl) (pe_callTy call_tuple_of (by rfl) T.tuple (by decide +kernel) (pa_cons (pe_lc (own := [("_", 4)]) (g := gName 4) rfl sc_first_state.nd (pi_tup (pe_own (ok_names_of T) (hr.mono (by decide)) rfl (pa_cons (pv 0) (pa_cons pe_str pa_nil)))) (blkOk_by (N := ["program", "values", "thing", "owners", "_", "queues", "waiting", "threads"]) (sc := defScope s_first_state) (own := [("_", 4)]) (by decide +kernel)) (fun _ _ _ _ _ => (pg_name (i := 4) sc_first_state.nd rfl (Or.inl rfl))) (fun _ _ _ _ _ => pts_nil) (fun _ _ _ _ _ => (pe_tup pa_nil))) pa_nil)))
        (pss_cons (ps_set (i := 7) sc_first_state.nd rfl (Or.inl rfl) (pe_callTy call_tuple_of (by rfl) T.tuple (by decide +kernel) (pa_cons (pe_lc (own := [("_", 4)]) (g := gName 4) rfl sc_first_state.nd (pi_tup (pe_ix ix_D (pv 0) pe_int (fun _ _ => rfl))) (blkOk_by (N := ["program", "values", "thing", "owners", "_", "queues", "waiting", "threads"]) (sc := defScope s_first_state) (own := [("_", 4)]) (by decide +kernel)) (fun _ _ _ _ _ => (pg_name (i := 4) sc_first_state.nd rfl (Or.inl rfl))) (fun _ _ _ _ _ => pts_nil) (fun _ _ _ _ _ => (pe_tup (pa_cons pe_int (pa_cons (pe_tup (pa_cons pe_int (pa_cons pe_int (pa_cons pe_int (pa_cons pe_int pa_nil))))) (pa_cons (pe_gs rfl T.g_RUN) (pa_cons pe_non pa_nil))))))) pa_nil)))
        (pss_one (ps_ret (pe_tup (pa_cons (pv 1) (pa_cons (pv 3) (pa_cons (pv 5) (pa_cons (pv 6) (pa_cons (pv 7) pa_nil))))))))))))), ?_⟩
    -- values
    refine ⟨_, rfl, _, _, _, h1, rfl, rfl, fun u hu => ?_⟩
    refine lc_D valF hu (by decide) (fun x d H' Cn N hd r s1 c1 c2 => ⟨rfl, ?_⟩) fun l1 acc1 H1 hl1 s1 e1 ra1 => ?_
    · rcases thing_cases d hd with ⟨a, b, hne, rr, rfl⟩ | ⟨b, z, rfl⟩
      · refine txt_ne rfl r at0 hne (iteF (c2 ?_ H' (Same.refl _)))
        cases rr with
        | nil => rfl
        | cons y rr => exact if_neg hne
      · exact txt_eq rfl r at0 rfl (iteT ⟨_, rfl, _, _, _, r, rfl, rfl, fun u hu => c1 u H' _ rfl hu (Same.refl _)⟩)
    rw [val_things] at ra1
    refine ⟨l1, acc1, rfl, .inl ⟨SqL.of e1, fun p1 hp1 => ?_⟩⟩
    have s1' := s1.new hp1 (o := .tup acc1)
    have g1 : Rp K _ (.ref p1) (.tuple [.int 0, .int 1]) := Rp.newT hp1 ra1
    generalize upd H1 p1 (.tup acc1) = G1 at s1' g1
    -- owners
    refine ⟨_, rfl, ?_⟩
    refine ⟨_, _, .cons (h1.sm s1') (.cons (.str _) .nil), ⟨p, "lock", .inr (.inl rfl), rfl, rfl⟩, fun H2 v2 s2 hv2 => ?_⟩
    refine lc_D (fun _ => some .none) hv2 (by decide) (fun x d H' Cn N hd r s1 c1 c2 => ⟨rfl, ?_⟩) fun l3 acc3 H3 hl3 s3 e3 ra3 => ?_
    · exact c1 _ H' _ rfl .non (Same.refl _)
    refine ⟨l3, acc3, rfl, .inl ⟨SqL.of e3, fun p3 hp3 => ?_⟩⟩
    have s3' := (s2.trans s3).new hp3 (o := .tup acc3)
    have g3 : Rp K _ (.ref p3) (.tuple [.none, .none]) := Rp.newT hp3 ra3
    have s3a := s1'.trans s3'
    have g1 := g1.sm s3'
    generalize upd H3 p3 (.tup acc3) = G3 at s3' g3 s3a g1
    -- queues
    refine ⟨_, rfl, ?_⟩
    refine ⟨_, _, .cons (h1.sm s3a) (.cons (.str _) .nil), ⟨p, "queue", .inr (.inr (.inl rfl)), rfl, rfl⟩, fun H4 v4 s4 hv4 => ?_⟩
    refine lc_D (fun _ => some (.tuple [])) hv4 (by decide) (fun x d H' Cn N hd r s1 c1 c2 => ⟨rfl, ?_⟩) fun l5 acc5 H5 hl5 s5 e5 ra5 => ?_
    · exact ⟨Nat.zero_le _, fun q hq => c1 _ _ _ rfl (Rp.newT hq .nil) (Same.new0 hq)⟩
    refine ⟨l5, acc5, rfl, .inl ⟨SqL.of e5, fun p5 hp5 => ?_⟩⟩
    have s5' := (s4.trans s5).new hp5 (o := .tup acc5)
    have g5 : Rp K _ (.ref p5) (.tuple [.tuple []]) := Rp.newT hp5 ra5
    have s5a := s3a.trans s5'
    have g1 := g1.sm s5'
    have g3 := g3.sm s5'
    generalize upd H5 p5 (.tup acc5) = G5 at s5' g5 s5a g1 g3
    -- waiting
    refine ⟨_, rfl, ?_⟩
    refine ⟨_, _, .cons (h1.sm s5a) (.cons (.str _) .nil), ⟨p, "cond", .inr (.inr (.inr rfl)), rfl, rfl⟩, fun H6 v6 s6 hv6 => ?_⟩
    refine lc_D (fun _ => some (.tuple [])) hv6 (by decide) (fun x d H' Cn N hd r s1 c1 c2 => ⟨rfl, ?_⟩) fun l7 acc7 H7 hl7 s7 e7 ra7 => ?_
    · exact ⟨Nat.zero_le _, fun q hq => c1 _ _ _ rfl (Rp.newT hq .nil) (Same.new0 hq)⟩
    refine ⟨l7, acc7, rfl, .inl ⟨SqL.of e7, fun p7 hp7 => ?_⟩⟩
    have s7' := (s6.trans s7).new hp7 (o := .tup acc7)
    have g7 : Rp K _ (.ref p7) (.tuple [.tuple []]) := Rp.newT hp7 ra7
    have s7a := s5a.trans s7'
    have g1 := g1.sm s7'
    have g3 := g3.sm s7'
    have g5 := g5.sm s7'
    generalize upd H7 p7 (.tup acc7) = G7 at s7' g7 s7a g1 g3 g5
    -- threads
    refine ⟨_, rfl, _, _, _, h1.sm s7a, rfl, rfl, fun u8 hu8 => ?_⟩
    refine lc_D (fun _ => some (.tuple [.int 0, .tuple [.int 0, .int 0, .int 0, .int 0], .str "run", .none])) hu8 (by rw [List.length_map]; omega) (fun x d H' Cn N hd r s1 c1 c2 => ⟨rfl, ?_⟩) fun l9 acc9 H9 hl9 s9 e9 ra9 => ?_
    · refine ⟨by show 4 ≤ sizeLine; decide, fun q1 hq1 => ⟨by show 4 ≤ sizeLine; decide, fun q2 hq2 => ?_⟩⟩
      have r1 : Rp K _ (.ref q1) (.tuple [.int 0, .int 0, .int 0, .int 0]) := Rp.newT hq1 (.cons (.int 0) (.cons (.int 0) (.cons (.int 0) (.cons (.int 0) .nil))))
      exact c1 _ _ _ rfl (Rp.newT hq2 (.cons (.int 0) (.cons r1 (.cons (.str _) (.cons .non .nil))))) ((Same.new0 hq1).new hq2)
    rw [fm_const, List.map_map] at ra9
    refine ⟨l9, acc9, rfl, .inl ⟨SqL.of e9, fun p9 hp9 => ?_⟩⟩
    have s9' := s9.new hp9 (o := .tup acc9)
    have g9 : Rp K _ (.ref p9) (.tuple (p.map fun _ => .tuple [.int 0, .tuple [.int 0, .int 0, .int 0, .int 0], .str "run", .none])) := Rp.newT hp9 ra9
    have s9a := s7a.trans s9'
    have g1 := g1.sm s9'
    have g3 := g3.sm s9'
    have g5 := g5.sm s9'
    have g7 := g7.sm s9'
    generalize upd H9 p9 (.tup acc9) = G9 at s9' g9 s9a g1 g3 g5 g7
    refine ⟨_, rfl, _, rfl, _, rfl, _, rfl, _, rfl, by show 5 ≤ sizeLine; decide, fun q hq => k _ _ (s9a.new hq) (Rp.newT hq ?_)⟩
    rw [show ((first p).ts.map eTS) = p.map fun _ => PyData.tuple [.int 0, .tuple [.int 0, .int 0, .int 0, .int 0], .str "run", .none] by simp only [first, List.map_map]; rfl]
    exact .cons g1 (.cons g3 (.cons g5 (.cons g7 (.cons g9 .nil))))
end
end Ev

-- part EvW5
set_option maxHeartbeats 400000
set_option Elab.async false
set_option linter.all false
set_option maxRecDepth 100000
set_option maxHeartbeats 4000000
/-! The walks: the object Draft, its methods. -/
namespace Ev
open PySem L2
section
variable {P : Program} {w : World} {K : PySem.W.Frag} {mg : Str → Option Value} {base : Heap} {C : Addr}

/-- a method keeps a promise -/
def MCal (P : Program) (w : World) (K : PySem.W.Frag) (mg : Str → Option Value) (base : Heap) (C : Addr) (k : Nat) (m : Str) (ps : List Str) (sp : L2.Sp) : Prop :=
  ∃ f fd, FnOk P w K mg base CX0 k f fd ps sp ∧ Meth K C m f ∧ Binds K fd ps []
theorem MDef.ok {m q : Str} {st : Stmt} {ps N : List Str} {k : Nat} {sp : L2.Sp} (D : MDef K C m q st ps) (S : FnScope N ps (defScope st)) (len : ∀ vs H Q E, sp vs H Q E → vs.length = ps.length)
    (hbody : ∀ (f : Addr) (cdv : Value) (A : Around) (outer : List Env) (s : Shared) (H : Hp) (vs : List V) (Q : VK) (E : XK), Room k (A.deeper (PyProof.Rows.envOfC q (defScope st) s.heap.objs.size f cdv)) → sp vs H Q E →
      ∃ t, PSs (cxOf CX0 P w K mg base N q (defScope st) f cdv A outer s H E).nox (defBody st) t ∧ t { nx := fun _ H' => Q .non H', rt := Q } (start N vs) H) : MCal P w K mg base C (k + 1) m ps sp := by
  obtain ⟨f, fd, F, M, b⟩ := D
  exact ⟨f, fd, F.ok S len (hbody f), M, b⟩

/-- the attributes of a draft -/
def df (pv : V) (t : Nat) (l1 l2 l3 l4 l5 : Addr) : List (Str × V) := [("program", pv), ("thread", .int (t : Int)), ("cells", .ref l1), ("owners", .ref l2), ("queues", .ref l3), ("waiting", .ref l4), ("threads", .ref l5)]
/-- behind the heap H0 (kept) a draft stands at a: of the program p, the thread t, with the state s -/
structure DA (K : PySem.W.Frag) (C : Addr) (H0 H : Hp) (a : Addr) (p : Prog) (t : Nat) (s : MS) (pv : V) (dx l1 l2 l3 l4 l5 : Addr) (x1 x2 x3 x4 x5 : List V) : Prop where
  same : Same H0 H
  a0 : H0 a = none
  ins : H a = some (.ins C dx (df pv t l1 l2 l3 l4 l5))
  prog : Rp K H pv (eProg p)
  h1 : H l1 = some (.lst x1)
  h2 : H l2 = some (.lst x2)
  h3 : H l3 = some (.lst x3)
  h4 : H l4 = some (.lst x4)
  h5 : H l5 = some (.lst x5)
  nd : [l1, l2, l3, l4, l5].Nodup
  fr : ∀ l ∈ [l1, l2, l3, l4, l5], H0 l = none
  r1 : RpAll K H x1 [.int s.sh.x, .int s.sh.y]
  r2 : RpAll K H x2 [eOwn s.sh.m, eOwn s.sh.n]
  r3 : RpAll K H x3 [.tuple (s.sh.q.map .int)]
  r4 : RpAll K H x4 [.tuple (s.sh.w.map dI)]
  r5 : RpAll K H x5 (s.ts.map eTS)
def DraftAt (K : PySem.W.Frag) (C : Addr) (H0 H : Hp) (a : Addr) (p : Prog) (t : Nat) (s : MS) : Prop := ∃ pv dx l1 l2 l3 l4 l5 x1 x2 x3 x4 x5, DA K C H0 H a p t s pv dx l1 l2 l3 l4 l5 x1 x2 x3 x4 x5
section
variable {H0 H H' : Hp} {a : Addr} {p : Prog} {t : Nat} {s : MS} {pv : V} {dx l1 l2 l3 l4 l5 : Addr} {x1 x2 x3 x4 x5 : List V} {Q : VK}
theorem DA.grow (d : DA K C H0 H a p t s pv dx l1 l2 l3 l4 l5 x1 x2 x3 x4 x5) (g : Same H H') : DA K C H0 H' a p t s pv dx l1 l2 l3 l4 l5 x1 x2 x3 x4 x5 :=
  ⟨d.same.trans g, d.a0, g _ _ d.ins, d.prog.sm g, g _ _ d.h1, g _ _ d.h2, g _ _ d.h3, g _ _ d.h4, g _ _ d.h5, d.nd, d.fr, d.r1.sm g, d.r2.sm g, d.r3.sm g, d.r4.sm g, d.r5.sm g⟩
theorem DraftAt.grow (d : DraftAt K C H0 H a p t s) (g : Same H H') : DraftAt K C H0 H' a p t s := by
  obtain ⟨pv, dx, l1, l2, l3, l4, l5, x1, x2, x3, x4, x5, d⟩ := d
  exact ⟨pv, dx, l1, l2, l3, l4, l5, x1, x2, x3, x4, x5, d.grow g⟩
theorem DraftAt.same (d : DraftAt K C H0 H a p t s) : Same H0 H := by
  obtain ⟨pv, dx, l1, l2, l3, l4, l5, x1, x2, x3, x4, x5, d⟩ := d
  exact d.same
theorem DA.ne {l : Addr} {x : List V} (d : DA K C H0 H a p t s pv dx l1 l2 l3 l4 l5 x1 x2 x3 x4 x5) (h : H l = some (.lst x)) : a ≠ l := ne_of d.ins h (by intro q; cases q)
theorem DA.nds (d : DA K C H0 H a p t s pv dx l1 l2 l3 l4 l5 x1 x2 x3 x4 x5) : l1 ≠ l2 ∧ l1 ≠ l3 ∧ l1 ≠ l4 ∧ l1 ≠ l5 ∧ l2 ≠ l3 ∧ l2 ≠ l4 ∧ l2 ≠ l5 ∧ l3 ≠ l4 ∧ l3 ≠ l5 ∧ l4 ≠ l5 := by
  have n := d.nd
  simp only [List.nodup_cons, List.mem_cons, List.not_mem_nil, or_false, not_or, not_false_eq_true, List.nodup_nil, and_true] at n
  obtain ⟨⟨a, b, c, e⟩, ⟨f, g, h⟩, ⟨i, j⟩, k⟩ := n
  exact ⟨a, b, c, e, f, g, h, i, j, k⟩
/-- one of its lists is written -/
theorem DA.w1 {y : List V} {s' : MS} (d : DA K C H0 H a p t s pv dx l1 l2 l3 l4 l5 x1 x2 x3 x4 x5) (r : RpAll K H y [.int s'.sh.x, .int s'.sh.y]) (e : eOwn s'.sh.m = eOwn s.sh.m ∧ eOwn s'.sh.n = eOwn s.sh.n ∧ s'.sh.q = s.sh.q ∧ s'.sh.w = s.sh.w ∧ s'.ts = s.ts) :
    DraftAt K C H0 (upd H l1 (.lst y)) a p t s' := by
  obtain ⟨n12, n13, n14, n15, n23, n24, n25, n34, n35, n45⟩ := d.nds
  obtain ⟨e1, e2, e3, e4, e5⟩ := e
  have T := Tle.lst (K := K) (o := .lst y) d.h1
  have g2 := d.r2.tle T
  have g3 := d.r3.tle T
  have g4 := d.r4.tle T
  have g5 := d.r5.tle T
  rw [← e1, ← e2] at g2
  rw [← e3] at g3
  rw [← e4] at g4
  rw [← e5] at g5
  exact ⟨pv, dx, l1, l2, l3, l4, l5, y, x2, x3, x4, x5, d.same.wr (d.fr _ (by simp)), d.a0, by rw [upd_ne (d.ne d.h1)]; exact d.ins, d.prog.tle T, upd_same, by rw [upd_ne n12.symm]; exact d.h2, by rw [upd_ne n13.symm]; exact d.h3, by rw [upd_ne n14.symm]; exact d.h4, by rw [upd_ne n15.symm]; exact d.h5, d.nd, d.fr, r.tle T, g2, g3, g4, g5⟩
theorem DA.w2 {y : List V} {s' : MS} (d : DA K C H0 H a p t s pv dx l1 l2 l3 l4 l5 x1 x2 x3 x4 x5) (r : RpAll K H y [eOwn s'.sh.m, eOwn s'.sh.n]) (e : s'.sh.x = s.sh.x ∧ s'.sh.y = s.sh.y ∧ s'.sh.q = s.sh.q ∧ s'.sh.w = s.sh.w ∧ s'.ts = s.ts) :
    DraftAt K C H0 (upd H l2 (.lst y)) a p t s' := by
  obtain ⟨n12, n13, n14, n15, n23, n24, n25, n34, n35, n45⟩ := d.nds
  obtain ⟨e1, e2, e3, e4, e5⟩ := e
  have T := Tle.lst (K := K) (o := .lst y) d.h2
  have g1 := d.r1.tle T
  have g3 := d.r3.tle T
  have g4 := d.r4.tle T
  have g5 := d.r5.tle T
  rw [← e1, ← e2] at g1
  rw [← e3] at g3
  rw [← e4] at g4
  rw [← e5] at g5
  exact ⟨pv, dx, l1, l2, l3, l4, l5, x1, y, x3, x4, x5, d.same.wr (d.fr _ (by simp)), d.a0, by rw [upd_ne (d.ne d.h2)]; exact d.ins, d.prog.tle T, by rw [upd_ne n12]; exact d.h1, upd_same, by rw [upd_ne n23.symm]; exact d.h3, by rw [upd_ne n24.symm]; exact d.h4, by rw [upd_ne n25.symm]; exact d.h5, d.nd, d.fr, g1, r.tle T, g3, g4, g5⟩
theorem DA.w3 {y : List V} {s' : MS} (d : DA K C H0 H a p t s pv dx l1 l2 l3 l4 l5 x1 x2 x3 x4 x5) (r : RpAll K H y [.tuple (s'.sh.q.map .int)]) (e : s'.sh.x = s.sh.x ∧ s'.sh.y = s.sh.y ∧ eOwn s'.sh.m = eOwn s.sh.m ∧ eOwn s'.sh.n = eOwn s.sh.n ∧ s'.sh.w = s.sh.w ∧ s'.ts = s.ts) :
    DraftAt K C H0 (upd H l3 (.lst y)) a p t s' := by
  obtain ⟨n12, n13, n14, n15, n23, n24, n25, n34, n35, n45⟩ := d.nds
  obtain ⟨e1, e2, e3, e6, e4, e5⟩ := e
  have T := Tle.lst (K := K) (o := .lst y) d.h3
  have g1 := d.r1.tle T
  have g2 := d.r2.tle T
  have g4 := d.r4.tle T
  have g5 := d.r5.tle T
  rw [← e1, ← e2] at g1
  rw [← e3, ← e6] at g2
  rw [← e4] at g4
  rw [← e5] at g5
  exact ⟨pv, dx, l1, l2, l3, l4, l5, x1, x2, y, x4, x5, d.same.wr (d.fr _ (by simp)), d.a0, by rw [upd_ne (d.ne d.h3)]; exact d.ins, d.prog.tle T, by rw [upd_ne n13]; exact d.h1, by rw [upd_ne n23]; exact d.h2, upd_same, by rw [upd_ne n34.symm]; exact d.h4, by rw [upd_ne n35.symm]; exact d.h5, d.nd, d.fr, g1, g2, r.tle T, g4, g5⟩
theorem DA.w4 {y : List V} {s' : MS} (d : DA K C H0 H a p t s pv dx l1 l2 l3 l4 l5 x1 x2 x3 x4 x5) (r : RpAll K H y [.tuple (s'.sh.w.map dI)]) (e : s'.sh.x = s.sh.x ∧ s'.sh.y = s.sh.y ∧ eOwn s'.sh.m = eOwn s.sh.m ∧ eOwn s'.sh.n = eOwn s.sh.n ∧ s'.sh.q = s.sh.q ∧ s'.ts = s.ts) :
    DraftAt K C H0 (upd H l4 (.lst y)) a p t s' := by
  obtain ⟨n12, n13, n14, n15, n23, n24, n25, n34, n35, n45⟩ := d.nds
  obtain ⟨e1, e2, e3, e6, e4, e5⟩ := e
  have T := Tle.lst (K := K) (o := .lst y) d.h4
  have g1 := d.r1.tle T
  have g2 := d.r2.tle T
  have g3 := d.r3.tle T
  have g5 := d.r5.tle T
  rw [← e1, ← e2] at g1
  rw [← e3, ← e6] at g2
  rw [← e4] at g3
  rw [← e5] at g5
  exact ⟨pv, dx, l1, l2, l3, l4, l5, x1, x2, x3, y, x5, d.same.wr (d.fr _ (by simp)), d.a0, by rw [upd_ne (d.ne d.h4)]; exact d.ins, d.prog.tle T, by rw [upd_ne n14]; exact d.h1, by rw [upd_ne n24]; exact d.h2, by rw [upd_ne n34]; exact d.h3, upd_same, by rw [upd_ne n45.symm]; exact d.h5, d.nd, d.fr, g1, g2, g3, r.tle T, g5⟩
theorem DA.w5 {y : List V} {ts' : List Thr} (d : DA K C H0 H a p t s pv dx l1 l2 l3 l4 l5 x1 x2 x3 x4 x5) (r : RpAll K H y (ts'.map eTS)) : DA K C H0 (upd H l5 (.lst y)) a p t ⟨s.sh, ts'⟩ pv dx l1 l2 l3 l4 l5 x1 x2 x3 x4 y := by
  obtain ⟨n12, n13, n14, n15, n23, n24, n25, n34, n35, n45⟩ := d.nds
  have T := Tle.lst (K := K) (o := .lst y) d.h5
  exact ⟨d.same.wr (d.fr _ (by simp)), d.a0, by rw [upd_ne (d.ne d.h5)]; exact d.ins, d.prog.tle T, by rw [upd_ne n15]; exact d.h1, by rw [upd_ne n25]; exact d.h2, by rw [upd_ne n35]; exact d.h3, by rw [upd_ne n45]; exact d.h4, upd_same, d.nd, d.fr, d.r1.tle T, d.r2.tle T, d.r3.tle T, d.r4.tle T, r.tle T⟩
/-- its attributes, read -/
abbrev Fld (K : PySem.W.Frag) (H : Hp) (a : Addr) (f : Str) (Q : VK) : Prop := ∃ a' C' dx' fs' v', V.ref a = .ref a' ∧ H a' = some (.ins C' dx' fs') ∧ Cls K C' ∧ NoAttr K C' f ∧ fs'.lookup f = some v' ∧ Q v' H
theorem DA.fp (d : DA K C H0 H a p t s pv dx l1 l2 l3 l4 l5 x1 x2 x3 x4 x5) (T : Txt w K mg C) (q : Q pv H) : Fld K H a "program" Q := ⟨a, C, dx, _, _, rfl, d.ins, T.cl, T.n_program, rfl, q⟩
theorem DA.ft (d : DA K C H0 H a p t s pv dx l1 l2 l3 l4 l5 x1 x2 x3 x4 x5) (T : Txt w K mg C) (q : Q (.int (t : Int)) H) : Fld K H a "thread" Q := ⟨a, C, dx, _, _, rfl, d.ins, T.cl, T.n_thread, rfl, q⟩
theorem DA.f1 (d : DA K C H0 H a p t s pv dx l1 l2 l3 l4 l5 x1 x2 x3 x4 x5) (T : Txt w K mg C) (q : Q (.ref l1) H) : Fld K H a "cells" Q := ⟨a, C, dx, _, _, rfl, d.ins, T.cl, T.n_cells, rfl, q⟩
theorem DA.f2 (d : DA K C H0 H a p t s pv dx l1 l2 l3 l4 l5 x1 x2 x3 x4 x5) (T : Txt w K mg C) (q : Q (.ref l2) H) : Fld K H a "owners" Q := ⟨a, C, dx, _, _, rfl, d.ins, T.cl, T.n_owners, rfl, q⟩
theorem DA.f3 (d : DA K C H0 H a p t s pv dx l1 l2 l3 l4 l5 x1 x2 x3 x4 x5) (T : Txt w K mg C) (q : Q (.ref l3) H) : Fld K H a "queues" Q := ⟨a, C, dx, _, _, rfl, d.ins, T.cl, T.n_queues, rfl, q⟩
theorem DA.f4 (d : DA K C H0 H a p t s pv dx l1 l2 l3 l4 l5 x1 x2 x3 x4 x5) (T : Txt w K mg C) (q : Q (.ref l4) H) : Fld K H a "waiting" Q := ⟨a, C, dx, _, _, rfl, d.ins, T.cl, T.n_waiting, rfl, q⟩
theorem DA.f5 (d : DA K C H0 H a p t s pv dx l1 l2 l3 l4 l5 x1 x2 x3 x4 x5) (T : Txt w K mg C) (q : Q (.ref l5) H) : Fld K H a "threads" Q := ⟨a, C, dx, _, _, rfl, d.ins, T.cl, T.n_threads, rfl, q⟩
end

theorem ixN_nat {n t : Nat} (h : t < n) : ixN n (t : Int) = some t := by
  unfold ixN
  rw [if_pos (by omega), if_pos (by omega)]
  rfl
/-- the state with thread t's part replaced -/
def MS.setT (s : MS) (t : Nat) (th : Thr) : MS := ⟨s.sh, s.ts.set t th⟩
theorem DA.wt {H0 H : Hp} {a : Addr} {p : Prog} {t i : Nat} {s : MS} {vp : V} {dx l1 l2 l3 l4 l5 : Addr} {x1 x2 x3 x4 x5 : List V} {v : V} {th : Thr} (d : DA K C H0 H a p t s vp dx l1 l2 l3 l4 l5 x1 x2 x3 x4 x5) (r : Rp K H v (eTS th)) :
    DA K C H0 (upd H l5 (.lst (x5.set i v))) a p t (s.setT i th) vp dx l1 l2 l3 l4 l5 x1 x2 x3 x4 (x5.set i v) := by
  refine d.w5 ?_
  rw [List.map_set]
  exact d.r5.set i r
theorem DA.l5 {H0 H : Hp} {a : Addr} {p : Prog} {t : Nat} {s : MS} {vp : V} {dx l1 l2 l3 l4 l5 : Addr} {x1 x2 x3 x4 x5 : List V} (d : DA K C H0 H a p t s vp dx l1 l2 l3 l4 l5 x1 x2 x3 x4 x5) : x5.length = s.ts.length := by
  rw [d.r5.length, List.length_map]

/-- Draft.go: 0 self, 1 pc, 2 registers, 3 mode -/
abbrev s_Draft_go : Stmt := inClass (top 48) 3
theorem sc_Draft_go : FnScope ["self", "pc", "registers", "mode"] ["self", "pc"] (defScope s_Draft_go) := ⟨rfl, rfl, rfl, by decide +kernel, rfl, by decide +kernel, by decide +kernel⟩
def spGo (K : PySem.W.Frag) (C : Addr) : L2.Sp := fun vs H Q _ => ∃ (H0 : Hp) (a : Addr) (p : Prog) (t k : Nat) (s : MS), vs = [.ref a, .int (k : Int)] ∧ DraftAt K C H0 H a p t s ∧ t < s.ts.length ∧ t < p.length ∧
  ∀ H', DraftAt K C H0 H' a p t (s.setT t (goTo (p.getD t []).length (s.at t) k)) → Q .non H'
theorem ok_Draft_go (T : Txt w K mg C) : MCal P w K mg base C 1 "go" ["self", "pc"] (spGo K C) := by
  refine T.m_go.ok sc_Draft_go (fun vs H Q E h => ?_) (fun f cdv A outer s H vs Q E hr h => ?_)
  · obtain ⟨_, _, _, _, _, _, rfl, _⟩ := h
    rfl
  · obtain ⟨H0, a, p, t, k, st, rfl, d, ht, hp, kk⟩ := h
    obtain ⟨vp, dx, l1, l2, l3, l4, l5, x1, x2, x3, x4, x5, d⟩ := d
    refine ⟨_, (pss_cons (ps_set (i := 2) sc_Draft_go.nd rfl (Or.inl rfl) (pe_ix ix_D (pe_ix ix_LD (pe_fld (pv 0) rfl) (pe_fld (pv 0) rfl) (fun _ _ => rfl)) pe_int (fun _ _ => rfl)))
        (pss_cons (ps_set (i := 3) sc_Draft_go.nd rfl (Or.inl rfl) (pe_gs rfl T.g_RUN))
        (pss_cons (ps_if (pt_cmpR op_eq (pv 1) (pe_callB call_lenD' (by rfl) T.len PySem.boot_len (pa_cons (pe_ix ix_D (pe_ix ix_D (pe_fld (pv 0) rfl) pe_int (fun _ _ => rfl)) (pe_fld (pv 0) rfl) (fun _ _ => rfl)) pa_nil)) (nomark _))
          (pss_one (ps_set (i := 3) sc_Draft_go.nd rfl (Or.inl rfl) (pe_gs rfl T.g_OVER)))
          pss_nil)
        (pss_one (ps_asg (pe_tupN (pa_cons (pv 1) (pa_cons (pv 2) (pa_cons (pv 3) (pa_cons pe_non pa_nil))))) (pg_sub (pe_fld (pv 0) rfl) (pe_fld (pv 0) rfl) set_list)))))), ?_⟩
    refine ⟨_, rfl, ?_⟩
    apply d.f5 T
    refine ⟨_, rfl, ?_⟩
    apply d.ft T
    refine ⟨l5, x5, _, _, _, rfl, rfl, SqL.of d.h5, d.r5, at_mapD (d := Thr.d) ht, fun u hu => ?_⟩
    refine ⟨_, _, _, hu, rfl, rfl, fun ur hur => ?_⟩
    refine ⟨_, rfl, ?_⟩
    refine ⟨_, rfl, ?_⟩
    apply d.fp T
    refine ⟨_, _, _, d.prog, rfl, rfl, fun u1 hu1 => ?_⟩
    refine ⟨_, rfl, ?_⟩
    apply d.ft T
    refine ⟨_, _, _, hu1, rfl, at_pr hp, fun u2 hu2 => ?_⟩
    refine ⟨_, _, rfl, hu2, rfl, _, rfl, ?_⟩
    have ed : decide (V.int (k : Int) = V.int ((((p.getD t []).map eIn).length : Nat) : Int)) = decide (k = (p.getD t []).length) := by
      rw [List.length_map]
      exact decide_eq_decide.mpr ⟨fun q => by have := V.int.inj q; omega, fun q => by rw [q]⟩
    rw [ed]
    by_cases e : k = (p.getD t []).length
    · rw [decide_eq_true e]
      refine iteT ?_
      refine ⟨_, rfl, _, rfl, _, rfl, _, .cons (.int _) (.cons hur (.cons (.str _) (.cons .non .nil))), by show 4 < 1000; decide, fun v G g hv => ?_⟩
      have d1 := d.grow g
      refine ⟨_, rfl, ?_⟩
      apply d1.f5 T
      refine ⟨_, rfl, ?_⟩
      apply d1.ft T
      refine ⟨l5, x5, _, t, rfl, rfl, d1.h5, ixN_nat (d.l5 ▸ ht), kk _ ⟨_, _, _, _, _, _, _, _, _, _, _, _, d1.wt ?_⟩⟩
      have eg : goTo (p.getD t []).length (st.at t) k = ⟨k, (st.at t).a, (st.at t).b, .over, none⟩ := by unfold goTo; rw [if_pos e]
      rw [eg]
      exact hv
    · rw [decide_eq_false e]
      refine iteF ?_
      refine ⟨_, rfl, _, rfl, _, rfl, _, .cons (.int _) (.cons hur (.cons (.str _) (.cons .non .nil))), by show 4 < 1000; decide, fun v G g hv => ?_⟩
      have d1 := d.grow g
      refine ⟨_, rfl, ?_⟩
      apply d1.f5 T
      refine ⟨_, rfl, ?_⟩
      apply d1.ft T
      refine ⟨l5, x5, _, t, rfl, rfl, d1.h5, ixN_nat (d.l5 ▸ ht), kk _ ⟨_, _, _, _, _, _, _, _, _, _, _, _, d1.wt ?_⟩⟩
      have eg : goTo (p.getD t []).length (st.at t) k = ⟨k, (st.at t).a, (st.at t).b, .run, none⟩ := by unfold goTo; rw [if_neg e]
      rw [eg]
      exact hv

/-- Draft.end: 0 self, 1 word, 2 pc, 3 registers, 4 mode, 5 old -/
abbrev s_Draft_end : Stmt := inClass (top 48) 5
theorem sc_Draft_end : FnScope ["self", "word", "pc", "registers", "mode", "old"] ["self", "word"] (defScope s_Draft_end) := ⟨rfl, rfl, rfl, by decide +kernel, rfl, by decide +kernel, by decide +kernel⟩
def spEnd (K : PySem.W.Frag) (C : Addr) : L2.Sp := fun vs H Q _ => ∃ (H0 : Hp) (a : Addr) (p : Prog) (t : Nat) (wd : Wd) (s : MS), vs = [.ref a, .str wd.s] ∧ DraftAt K C H0 H a p t s ∧ t < s.ts.length ∧
  ∀ H', DraftAt K C H0 H' a p t (s.setT t (failed (s.at t) wd)) → Q .non H'
theorem ok_Draft_end (T : Txt w K mg C) : MCal P w K mg base C 1 "end" ["self", "word"] (spEnd K C) := by
  refine T.m_end.ok sc_Draft_end (fun vs H Q E h => ?_) (fun f cdv A outer s H vs Q E hr h => ?_)
  · obtain ⟨_, _, _, _, _, _, rfl, _⟩ := h
    rfl
  · obtain ⟨H0, a, p, t, wd, st, rfl, d, ht, kk⟩ := h
    obtain ⟨vp, dx, l1, l2, l3, l4, l5, x1, x2, x3, x4, x5, d⟩ := d
    refine ⟨_, (pss_cons (ps_asg (pe_ix ix_LD (pe_fld (pv 0) rfl) (pe_fld (pv 0) rfl) (fun _ _ => rfl)) (pg_tup rfl (pgs_cons (pg_name (i := 2) sc_Draft_end.nd rfl (Or.inl rfl)) (pgs_cons (pg_name (i := 3) sc_Draft_end.nd rfl (Or.inl rfl)) (pgs_cons (pg_name (i := 4) sc_Draft_end.nd rfl (Or.inl rfl)) (pgs_cons (pg_name (i := 5) sc_Draft_end.nd rfl (Or.inl rfl)) pgs_nil))))))
        (pss_one (ps_asg (pe_tupN (pa_cons (pv 2) (pa_cons (pv 3) (pa_cons (pe_gs rfl T.g_OVER) (pa_cons (pv 1) pa_nil))))) (pg_sub (pe_fld (pv 0) rfl) (pe_fld (pv 0) rfl) set_list)))), ?_⟩
    refine ⟨_, rfl, ?_⟩
    apply d.f5 T
    refine ⟨_, rfl, ?_⟩
    apply d.ft T
    refine ⟨l5, x5, _, _, _, rfl, rfl, SqL.of d.h5, d.r5, at_mapD (d := Thr.d) ht, fun u hu => ?_⟩
    refine gtup_D hu rfl fun xs hxs => ?_
    rcases hxs with _ | ⟨g1, _ | ⟨g2, _ | ⟨g3, _ | ⟨g4, _ | _⟩⟩⟩⟩
    refine ⟨_, _, rfl, _, _, rfl, _, _, rfl, _, _, rfl, rfl, ?_⟩
    refine ⟨_, rfl, _, rfl, _, rfl, _, .cons g1 (.cons g2 (.cons (.str _) (.cons (.str _) .nil))), by show 4 < 1000; decide, fun v G g hv => ?_⟩
    have d1 := d.grow g
    refine ⟨_, rfl, ?_⟩
    apply d1.f5 T
    refine ⟨_, rfl, ?_⟩
    apply d1.ft T
    exact ⟨l5, x5, _, t, rfl, rfl, d1.h5, ixN_nat (d.l5 ▸ ht), kk _ ⟨_, _, _, _, _, _, _, _, _, _, _, _, d1.wt hv⟩⟩

/-- Draft.store: 0 self, 1 letter, 2 value, 3 pc, 4 registers, 5 mode, 6 word, 7 changed -/
abbrev s_Draft_store : Stmt := inClass (top 48) 4
theorem sc_Draft_store : FnScope ["self", "letter", "value", "pc", "registers", "mode", "word", "changed"] ["self", "letter", "value"] (defScope s_Draft_store) := ⟨rfl, rfl, rfl, by decide +kernel, rfl, by decide +kernel, by decide +kernel⟩
def spStore (K : PySem.W.Frag) (C : Addr) : L2.Sp := fun vs H Q _ => ∃ (H0 : Hp) (a : Addr) (p : Prog) (t : Nat) (r : Rg) (z : Int) (s : MS), vs = [.ref a, .str r.s, .int z] ∧ DraftAt K C H0 H a p t s ∧ t < s.ts.length ∧
  ∀ H', DraftAt K C H0 H' a p t (s.setT t ((s.at t).setReg r z)) → Q .non H'
theorem ok_Draft_store (T : Txt w K mg C) : MCal P w K mg base C 1 "store" ["self", "letter", "value"] (spStore K C) := by
  obtain ⟨aR, gR, kR, hR⟩ := T.g_REGISTERS
  refine T.m_store.ok sc_Draft_store (fun vs H Q E h => ?_) (fun f cdv A outer s H vs Q E hr h => ?_)
  · obtain ⟨_, _, _, _, _, _, _, rfl, _⟩ := h
    rfl
  · obtain ⟨H0, a, p, t, r, z, st, rfl, d, ht, kk⟩ := h
    obtain ⟨vp, dx, l1, l2, l3, l4, l5, x1, x2, x3, x4, x5, d⟩ := d
    refine ⟨_, (pss_cons (ps_asg (pe_ix ix_LD (pe_fld (pv 0) rfl) (pe_fld (pv 0) rfl) (fun _ _ => rfl)) (pg_tup rfl (pgs_cons (pg_name (i := 3) sc_Draft_store.nd rfl (Or.inl rfl)) (pgs_cons (pg_name (i := 4) sc_Draft_store.nd rfl (Or.inl rfl)) (pgs_cons (pg_name (i := 5) sc_Draft_store.nd rfl (Or.inl rfl)) (pgs_cons (pg_name (i := 6) sc_Draft_store.nd rfl (Or.inl rfl)) pgs_nil))))))
        (pss_cons (ps_set (i := 7) sc_Draft_store.nd rfl (Or.inl rfl) (pe_callTy call_list_N (by rfl) T.list (by decide +kernel) (pa_cons (pv 4) pa_nil)))
        (pss_cons (ps_asg (pv 2) (pg_sub (pv 7) (pe_bm PySem.F.plainAttrs_tuple PySem.F.slot_tuple_index PySem.F.type_tuple_index mt_tup_index (pe_glob (v := .ref aR) rfl gR rfl) (pa_cons (pv 1) pa_nil)) set_list))
        (pss_one (ps_asg (pe_tupN (pa_cons (pv 3) (pa_cons (pe_callTy call_tuple_N (by rfl) T.tuple (by decide +kernel) (pa_cons (pv 7) pa_nil)) (pa_cons (pv 5) (pa_cons (pv 6) pa_nil))))) (pg_sub (pe_fld (pv 0) rfl) (pe_fld (pv 0) rfl) set_list)))))), ?_⟩
    refine ⟨_, rfl, ?_⟩
    apply d.f5 T
    refine ⟨_, rfl, ?_⟩
    apply d.ft T
    refine ⟨l5, x5, _, _, _, rfl, rfl, SqL.of d.h5, d.r5, at_mapD (d := Thr.d) ht, fun u hu => ?_⟩
    refine gtup_D hu rfl fun xs hxs => ?_
    rcases hxs with _ | ⟨g1, _ | ⟨g2, _ | ⟨g3, _ | ⟨g4, _ | _⟩⟩⟩⟩
    refine ⟨_, _, rfl, _, _, rfl, _, _, rfl, _, _, rfl, rfl, ?_⟩
    refine ⟨_, rfl, _, _, rfl, g2, fun l xr G hl g hlx har => ?_⟩
    refine ⟨_, rfl, _, rfl, .inr (.inl ⟨rfl, kR⟩), _, rfl, ?_⟩
    have ix : ∃ j : Nat, (["a", "b", "c", "d"] : List Str)[j]? = some r.s ∧ (∀ m, m < j → (["a", "b", "c", "d"] : List Str)[m]? ≠ some r.s) ∧ j < 4 ∧ [PyData.int (st.at t).a, .int (st.at t).b, .int 0, .int 0].set j (.int z) = [.int ((st.at t).setReg r z).a, .int ((st.at t).setReg r z).b, .int 0, .int 0] := by
      cases r with
      | a => exact ⟨0, rfl, fun m hm => absurd hm (Nat.not_lt_zero _), by decide, rfl⟩
      | b => exact ⟨1, rfl, fun m hm => by
          have : m = 0 := by omega
          subst this
          exact (by decide +kernel : (["a", "b", "c", "d"] : List Str)[0]? ≠ some ("b" : Str)), by decide, rfl⟩
    obtain ⟨j, e1, e2, e3, e4⟩ := ix
    refine ⟨aR, _, _, j, rfl, rfl, hR _, e1, e2, ?_⟩
    have lr : xr.length = 4 := har.length
    refine ⟨l, xr, _, j, rfl, rfl, hlx, ixN_nat (by rw [lr]; exact e3), ?_⟩
    have T2 := Tle.lst (K := K) (o := .lst (xr.set j (.int z))) hlx
    have s2 : Same H (upd G l (.lst (xr.set j (.int z)))) := g.wr hl
    have r5 : RpAll K (upd G l (.lst (xr.set j (.int z)))) (xr.set j (.int z)) ([PyData.int (st.at t).a, .int (st.at t).b, .int 0, .int 0].set j (.int z)) := (har.set j (.int z)).tle T2
    rw [e4] at r5
    have h2 : upd G l (.lst (xr.set j (.int z))) l = some (.lst (xr.set j (.int z))) := upd_same
    generalize upd G l (.lst (xr.set j (.int z))) = G2 at s2 r5 h2
    refine ⟨_, rfl, _, rfl, l, _, _, rfl, SqL.of h2, r5, fun v3 G3 s3 hv3 => ?_⟩
    have s23 := s2.trans s3
    refine ⟨_, rfl, _, rfl, _, .cons (g1.sm s23) (.cons hv3 (.cons (g3.sm s23) (.cons (g4.sm s23) .nil))), by show 4 < 1000; decide, fun v4 G4 s4 hv4 => ?_⟩
    have d4 := d.grow (s23.trans s4)
    refine ⟨_, rfl, ?_⟩
    apply d4.f5 T
    refine ⟨_, rfl, ?_⟩
    apply d4.ft T
    refine ⟨l5, x5, _, t, rfl, rfl, d4.h5, ixN_nat (d.l5 ▸ ht), kk _ ⟨_, _, _, _, _, _, _, _, _, _, _, _, d4.wt ?_⟩⟩
    have ep : ((st.at t).setReg r z).pc = (st.at t).pc := by cases r <;> rfl
    have em : ((st.at t).setReg r z).md = (st.at t).md := by cases r <;> rfl
    have ew : ((st.at t).setReg r z).wd = (st.at t).wd := by cases r <;> rfl
    unfold eTS
    rw [ep, em, ew]
    exact hv4

/-- Draft.place: 0 self, 1 kind, 2 name -/
abbrev s_Draft_place : Stmt := inClass (top 48) 2
theorem sc_Draft_place : FnScope ["self", "kind", "name"] ["self", "kind", "name"] (defScope s_Draft_place) := ⟨rfl, rfl, rfl, by decide +kernel, rfl, by decide +kernel, by decide +kernel⟩
def spPlc (K : PySem.W.Frag) (C : Addr) : L2.Sp := fun vs H Q _ => ∃ (H0 : Hp) (a : Addr) (p : Prog) (t : Nat) (s : MS) (kd z : Str) (j : Nat), vs = [.ref a, .str kd, .str z] ∧ DraftAt K C H0 H a p t s ∧ Kd kd ∧ (namesL kd)[j]? = some z ∧ (∀ m, m < j → (namesL kd)[m]? ≠ some z) ∧
  ∀ H', Same H H' → Q (.int (j : Int)) H'
theorem ok_Draft_place (T : Txt w K mg C) : MCal P w K mg base C 3 "place" ["self", "kind", "name"] (spPlc K C) := by
  refine T.m_place.ok sc_Draft_place (fun vs H Q E h => ?_) (fun f cdv A outer s H vs Q E hr h => ?_)
  · obtain ⟨_, _, _, _, _, _, _, _, rfl, _⟩ := h
    rfl
  · obtain ⟨H0, a, p, t, st, kd, z, j, rfl, d, hk, h1, h2, kk⟩ := h
    obtain ⟨vp, dx, l1, l2, l3, l4, l5, x1, x2, x3, x4, x5, d⟩ := d
    refine ⟨_, (pss_one (ps_ret (pe_own (ok_place_of T) (hr.mono (by decide)) rfl (pa_cons (pe_fld (pv 0) rfl) (pa_cons (pv 1) (pa_cons (pv 2) pa_nil)))))), ?_⟩
    refine ⟨_, rfl, ?_⟩
    apply d.fp T
    refine ⟨_, rfl, _, rfl, ?_⟩
    refine ⟨_, _, .cons d.prog (.cons (.str _) (.cons (.str _) .nil)), ⟨p, kd, z, j, hk, rfl, h1, h2, rfl⟩, fun H1 v s1 hv => ?_⟩
    cases hv.toInt
    exact kk H1 s1
end
end Ev

-- part EvW6
set_option maxHeartbeats 400000
set_option Elab.async false
set_option linter.all false
set_option maxRecDepth 100000
set_option maxHeartbeats 4000000
/-! The walks: Draft made, read off, waking and waiting. -/
namespace Ev
open PySem L2
section
variable {P : Program} {w : World} {K : PySem.W.Frag} {mg : Str → Option Value} {base : Heap} {C : Addr}

theorem putF_app {f : Str} {v : V} : ∀ {fs : List (Str × V)}, f ∉ fs.map (·.1) → putF f v fs = fs ++ [(f, v)]
  | [], _ => rfl
  | (g, u) :: r, h => by
    show (if g = f then _ else _) = _
    rw [if_neg fun e => h (by rw [← e]; exact List.mem_cons_self), putF_app fun q => h (List.mem_cons_of_mem _ q)]
    rfl
/-- what is told of an object that is being made -/
structure Ini (K : PySem.W.Frag) (C : Addr) (H0 G : Hp) (a dx : Addr) (fs : List (Str × V)) (vs : List V) (ds : List D) (ls : List (Addr × List V × List D)) : Prop where
  same : Same H0 G
  ins : G a = some (.ins C dx fs)
  rp : RpAll K G vs ds
  lst : ∀ q ∈ ls, H0 q.1 = none ∧ G q.1 = some (.lst q.2.1) ∧ RpAll K G q.2.1 q.2.2
  nd : (ls.map (·.1)).Nodup
section
variable {H0 G G' : Hp} {a dx : Addr} {fs : List (Str × V)} {vs : List V} {ds : List D} {ls : List (Addr × List V × List D)}
theorem Ini.fld {f : Str} {v : V} (i : Ini K C H0 G a dx fs vs ds ls) (a0 : H0 a = none) (h : f ∉ fs.map (·.1)) : Ini K C H0 (upd G a (.ins C dx (putF f v fs))) a dx (fs ++ [(f, v)]) vs ds ls := by
  have T : Tle K G (upd G a (.ins C dx (putF f v fs))) := Tle.upd (by rw [i.ins]; trivial)
  refine ⟨i.same.wr a0, by rw [upd_same, putF_app h], i.rp.tle T, fun q hq => ?_, i.nd⟩
  obtain ⟨h1, h2, h3⟩ := i.lst q hq
  exact ⟨h1, by rw [upd_ne (ne_of h2 i.ins (by intro z; cases z))]; exact h2, h3.tle T⟩
theorem Ini.new {l : Addr} {xs : List V} {es : List D} (i : Ini K C H0 G a dx fs vs ds ls) (g : Same G G') (hl : G l = none) (hx : G' l = some (.lst xs)) (hr : RpAll K G' xs es) : Ini K C H0 G' a dx fs vs ds (ls ++ [(l, xs, es)]) := by
  refine ⟨i.same.trans g, g _ _ i.ins, i.rp.sm g, fun q hq => ?_, ?_⟩
  · rcases List.mem_append.mp hq with hq | hq
    · obtain ⟨h1, h2, h3⟩ := i.lst q hq
      exact ⟨h1, g _ _ h2, h3.sm g⟩
    · have e := List.mem_singleton.mp hq
      subst e
      exact ⟨i.same.free hl, hx, hr⟩
  · rw [List.map_append]
    refine List.nodup_append.mpr ⟨i.nd, by simp, fun b hb c hc => ?_⟩
    have e : c = l := by simpa using hc
    subst e
    obtain ⟨q, hq, rfl⟩ := List.mem_map.mp hb
    exact ne_of_none (i.lst q hq).2.1 hl
end

/-- Draft.__init__: 0 self, 1 program, 2 state, 3 thread -/
abbrev s_Draft___init__ : Stmt := inClass (top 48) 0
theorem sc_Draft___init__ : FnScope ["self", "program", "state", "thread"] ["self", "program", "state", "thread"] (defScope s_Draft___init__) := ⟨rfl, rfl, rfl, by decide +kernel, rfl, by decide +kernel, by decide +kernel⟩
def spInit (K : PySem.W.Frag) (C : Addr) : L2.Sp := fun vs H Q _ => ∃ (H0 : Hp) (a dx : Addr) (p : Prog) (t : Nat) (s : MS) (vp vs' : V), vs = [.ref a, vp, vs', .int (t : Int)] ∧ Same H0 H ∧ H0 a = none ∧ H a = some (.ins C dx []) ∧ RpAll K H [vp, vs'] [eProg p, eSt s] ∧
  ∀ H', DraftAt K C H0 H' a p t s → Q .non H'
theorem ok_Draft___init__ (T : Txt w K mg C) : ∃ f fd, FnOk P w K mg base CX0 1 f fd ["self", "program", "state", "thread"] (spInit K C) ∧ Mk K C f ∧ Binds K fd ["self", "program", "state", "thread"] [] := by
  obtain ⟨f0, fd0, M0, F0, b0⟩ := T.mkD
  refine ⟨f0, fd0, ?_, M0, b0⟩
  refine F0.ok sc_Draft___init__ (fun vs H Q E h => ?_) (fun cdv A outer s H vs Q E hr h => ?_)
  · obtain ⟨_, _, _, _, _, _, _, _, rfl, _⟩ := h
    rfl
  · obtain ⟨H0, a, dx, p, t, st, vp, vst, rfl, sm, a0, hi, rp, kk⟩ := h
    refine ⟨_, (pss_cons (ps_fld (pv 0) (pv 1) rfl)
        (pss_cons (ps_fld (pv 0) (pv 3) rfl)
        (pss_cons (ps_fld (pv 0) (pe_callTy call_list_N (by rfl) T.list (by decide +kernel) (pa_cons (pe_ix ix_D (pv 2) pe_int (fun _ _ => rfl)) pa_nil)) rfl)
        (pss_cons (ps_fld (pv 0) (pe_callTy call_list_N (by rfl) T.list (by decide +kernel) (pa_cons (pe_ix ix_D (pv 2) pe_int (fun _ _ => rfl)) pa_nil)) rfl)
        (pss_cons (ps_fld (pv 0) (pe_callTy call_list_N (by rfl) T.list (by decide +kernel) (pa_cons (pe_ix ix_D (pv 2) pe_int (fun _ _ => rfl)) pa_nil)) rfl)
        (pss_cons (ps_fld (pv 0) (pe_callTy call_list_N (by rfl) T.list (by decide +kernel) (pa_cons (pe_ix ix_D (pv 2) pe_int (fun _ _ => rfl)) pa_nil)) rfl)
        (pss_one (ps_fld (pv 0) (pe_callTy call_list_N (by rfl) T.list (by decide +kernel) (pa_cons (pe_ix ix_D (pv 2) pe_int (fun _ _ => rfl)) pa_nil)) rfl)))))))), ?_⟩
    have i0 : Ini K C H0 H a dx [] [vp, vst] [eProg p, eSt st] [] := ⟨sm, hi, rp, (fun q hq => nomatch hq), List.nodup_nil⟩
    refine ⟨_, rfl, _, rfl, a, C, dx, _, rfl, i0.ins, T.cl, T.n_program, by decide, ?_⟩
    have i1 := i0.fld (f := "program") (v := vp) a0 (by decide +kernel)
    generalize upd H a (.ins C dx (putF "program" vp [])) = G1 at i1
    refine ⟨_, rfl, _, rfl, a, C, dx, _, rfl, i1.ins, T.cl, T.n_thread, by simp, ?_⟩
    have i2 := i1.fld (f := "thread") (v := .int (t : Int)) a0 (show ("thread" : Str) ∉ (["program"] : List Str) by decide +kernel)
    generalize upd G1 a (.ins C dx (putF "thread" (.int (t : Int)) _)) = G2 at i2
    have sv0 : Rp K G2 vst (eSt st) := by rcases i2.rp with _ | ⟨_, _ | ⟨r, _⟩⟩; exact r
    refine ⟨_, rfl, _, _, _, sv0, rfl, rfl, fun u hu => ⟨_, _, rfl, hu, fun l1 x1 G3 hl g hx hr => ?_⟩⟩
    have i3 := i2.new g hl hx hr
    refine ⟨_, rfl, a, C, dx, _, rfl, i3.ins, T.cl, T.n_cells, by simp, ?_⟩
    have i4 := i3.fld (f := "cells") (v := .ref l1) a0 (show ("cells" : Str) ∉ (["program", "thread"] : List Str) by decide +kernel)
    generalize upd G3 a (.ins C dx (putF "cells" (.ref l1) _)) = G4 at i4
    have sv1 : Rp K G4 vst (eSt st) := by rcases i4.rp with _ | ⟨_, _ | ⟨r, _⟩⟩; exact r
    refine ⟨_, rfl, _, _, _, sv1, rfl, rfl, fun u hu => ⟨_, _, rfl, hu, fun l2 x2 G5 hl g hx hr => ?_⟩⟩
    have i5 := i4.new g hl hx hr
    refine ⟨_, rfl, a, C, dx, _, rfl, i5.ins, T.cl, T.n_owners, by simp, ?_⟩
    have i6 := i5.fld (f := "owners") (v := .ref l2) a0 (show ("owners" : Str) ∉ (["program", "thread", "cells"] : List Str) by decide +kernel)
    generalize upd G5 a (.ins C dx (putF "owners" (.ref l2) _)) = G6 at i6
    have sv2 : Rp K G6 vst (eSt st) := by rcases i6.rp with _ | ⟨_, _ | ⟨r, _⟩⟩; exact r
    refine ⟨_, rfl, _, _, _, sv2, rfl, rfl, fun u hu => ⟨_, _, rfl, hu, fun l3 x3 G7 hl g hx hr => ?_⟩⟩
    have i7 := i6.new g hl hx hr
    refine ⟨_, rfl, a, C, dx, _, rfl, i7.ins, T.cl, T.n_queues, by simp, ?_⟩
    have i8 := i7.fld (f := "queues") (v := .ref l3) a0 (show ("queues" : Str) ∉ (["program", "thread", "cells", "owners"] : List Str) by decide +kernel)
    generalize upd G7 a (.ins C dx (putF "queues" (.ref l3) _)) = G8 at i8
    have sv3 : Rp K G8 vst (eSt st) := by rcases i8.rp with _ | ⟨_, _ | ⟨r, _⟩⟩; exact r
    refine ⟨_, rfl, _, _, _, sv3, rfl, rfl, fun u hu => ⟨_, _, rfl, hu, fun l4 x4 G9 hl g hx hr => ?_⟩⟩
    have i9 := i8.new g hl hx hr
    refine ⟨_, rfl, a, C, dx, _, rfl, i9.ins, T.cl, T.n_waiting, by simp, ?_⟩
    have i10 := i9.fld (f := "waiting") (v := .ref l4) a0 (show ("waiting" : Str) ∉ (["program", "thread", "cells", "owners", "queues"] : List Str) by decide +kernel)
    generalize upd G9 a (.ins C dx (putF "waiting" (.ref l4) _)) = G10 at i10
    have sv4 : Rp K G10 vst (eSt st) := by rcases i10.rp with _ | ⟨_, _ | ⟨r, _⟩⟩; exact r
    refine ⟨_, rfl, _, _, _, sv4, rfl, rfl, fun u hu => ⟨_, _, rfl, hu, fun l5 x5 G11 hl g hx hr => ?_⟩⟩
    have i11 := i10.new g hl hx hr
    refine ⟨_, rfl, a, C, dx, _, rfl, i11.ins, T.cl, T.n_threads, by simp, ?_⟩
    have i12 := i11.fld (f := "threads") (v := .ref l5) a0 (show ("threads" : Str) ∉ (["program", "thread", "cells", "owners", "queues", "waiting"] : List Str) by decide +kernel)
    generalize upd G11 a (.ins C dx (putF "threads" (.ref l5) _)) = G12 at i12
    refine kk _ ?_
    have q1 := i12.lst (l1, x1, [.int st.sh.x, .int st.sh.y]) (by simp)
    have q2 := i12.lst (l2, x2, [eOwn st.sh.m, eOwn st.sh.n]) (by simp)
    have q3 := i12.lst (l3, x3, [.tuple (st.sh.q.map .int)]) (by simp)
    have q4 := i12.lst (l4, x4, [.tuple (st.sh.w.map dI)]) (by simp)
    have q5 := i12.lst (l5, x5, st.ts.map eTS) (by simp)
    have rp' : Rp K G12 vp (eProg p) := by rcases i12.rp with _ | ⟨r, _⟩; exact r
    refine ⟨vp, dx, l1, l2, l3, l4, l5, x1, x2, x3, x4, x5, i12.same, a0, i12.ins, rp', q1.2.1, q2.2.1, q3.2.1, q4.2.1, q5.2.1, i12.nd, ?_, q1.2.2, q2.2.2, q3.2.2, q4.2.2, q5.2.2⟩
    intro l hl
    simp only [List.mem_cons, List.not_mem_nil, or_false] at hl
    rcases hl with rfl | rfl | rfl | rfl | rfl
    · exact q1.1
    · exact q2.1
    · exact q3.1
    · exact q4.1
    · exact q5.1

/-- Draft.state: 0 self, 1 shared -/
abbrev s_Draft_state : Stmt := inClass (top 48) 1
theorem sc_Draft_state : FnScope ["self", "shared"] ["self"] (defScope s_Draft_state) := ⟨rfl, rfl, rfl, by decide +kernel, rfl, by decide +kernel, by decide +kernel⟩
def spState (K : PySem.W.Frag) (C : Addr) : L2.Sp := fun vs H Q _ => ∃ (H0 : Hp) (a : Addr) (p : Prog) (t : Nat) (s : MS), vs = [.ref a] ∧ DraftAt K C H0 H a p t s ∧ ∀ H' v, Same H H' → Rp K H' v (eSt s) → Q v H'
theorem ok_Draft_state (T : Txt w K mg C) : MCal P w K mg base C 1 "state" ["self"] (spState K C) := by
  refine T.m_state.ok sc_Draft_state (fun vs H Q E h => ?_) (fun f cdv A outer s H vs Q E hr h => ?_)
  · obtain ⟨_, _, _, _, _, rfl, _⟩ := h
    rfl
  · obtain ⟨H0, a, p, t, st, rfl, d, kk⟩ := h
    obtain ⟨vp, dx, l1, l2, l3, l4, l5, x1, x2, x3, x4, x5, d⟩ := d
    refine ⟨_, (pss_cons (ps_set (i := 1) sc_Draft_state.nd rfl (Or.inl rfl) (pe_tupN (pa_cons (pe_callTy call_tuple_N (by rfl) T.tuple (by decide +kernel) (pa_cons (pe_fld (pv 0) rfl) pa_nil)) (pa_cons (pe_callTy call_tuple_N (by rfl) T.tuple (by decide +kernel) (pa_cons (pe_fld (pv 0) rfl) pa_nil)) (pa_cons (pe_callTy call_tuple_N (by rfl) T.tuple (by decide +kernel) (pa_cons (pe_fld (pv 0) rfl) pa_nil)) (pa_cons (pe_callTy call_tuple_N (by rfl) T.tuple (by decide +kernel) (pa_cons (pe_fld (pv 0) rfl) pa_nil)) pa_nil))))))
        (pss_one (ps_ret (pe_op op_catD (pv 1) (pe_tupN (pa_cons (pe_callTy call_tuple_N (by rfl) T.tuple (by decide +kernel) (pa_cons (pe_fld (pv 0) rfl) pa_nil)) pa_nil)))))), ?_⟩
    refine ⟨_, rfl, ?_⟩
    apply d.f1 T
    refine ⟨l1, x1, _, rfl, SqL.of d.h1, d.r1, fun v1 G1 g1 hv1 => ?_⟩
    have d1 := d.grow g1
    refine ⟨_, rfl, ?_⟩
    apply d1.f2 T
    refine ⟨l2, x2, _, rfl, SqL.of d1.h2, d1.r2, fun v2 G2 g2 hv2 => ?_⟩
    have d2 := d1.grow g2
    have hv1 := hv1.sm g2
    refine ⟨_, rfl, ?_⟩
    apply d2.f3 T
    refine ⟨l3, x3, _, rfl, SqL.of d2.h3, d2.r3, fun v3 G3 g3 hv3 => ?_⟩
    have d3 := d2.grow g3
    have hv1 := hv1.sm g3
    have hv2 := hv2.sm g3
    refine ⟨_, rfl, ?_⟩
    apply d3.f4 T
    refine ⟨l4, x4, _, rfl, SqL.of d3.h4, d3.r4, fun v4 G4 g4 hv4 => ?_⟩
    have d4 := d3.grow g4
    have hv1 := hv1.sm g4
    have hv2 := hv2.sm g4
    have hv3 := hv3.sm g4
    refine ⟨_, .cons hv1 (.cons hv2 (.cons hv3 (.cons hv4 .nil))), by show 4 < 1000; decide, fun v5 G5 g5 hv5 => ?_⟩
    have d5 := d4.grow g5
    refine ⟨_, rfl, ?_⟩
    refine ⟨_, rfl, ?_⟩
    apply d5.f5 T
    refine ⟨l5, x5, _, rfl, SqL.of d5.h5, d5.r5, fun v6 G6 g6 hv6 => ?_⟩
    refine ⟨_, .cons hv6 .nil, by show 1 < 1000; decide, fun v7 G7 g7 hv7 => ?_⟩
    refine ⟨_, _, hv5.sm (g6.trans g7), hv7, by show 4 + 1 ≤ sizeLine; decide, fun v8 G8 g8 hv8 => ?_⟩
    exact kk G8 v8 (((((((g1.trans g2).trans g3).trans g4).trans g5).trans g6).trans g7).trans g8) hv8

/-- _owns: 0 draft, 1 lock -/
abbrev s_owns : Stmt := top 49
theorem sc_owns : FnScope ["draft", "lock"] ["draft", "lock"] (defScope s_owns) := ⟨rfl, rfl, rfl, by decide +kernel, rfl, by decide +kernel, by decide +kernel⟩
def spOwns (K : PySem.W.Frag) (C : Addr) : L2.Sp := fun vs H Q _ => ∃ (H0 : Hp) (a : Addr) (p : Prog) (t : Nat) (s : MS) (l : Lk), vs = [.ref a, .str l.g.s] ∧ DraftAt K C H0 H a p t s ∧ ∀ H', Same H H' → Q (.bl (decide (s.sh.own l = some t))) H'
theorem lk_place (l : Lk) (a b : D) : ∃ j : Nat, (namesL "lock")[j]? = some l.g.s ∧ (∀ m, m < j → (namesL "lock")[m]? ≠ some l.g.s) ∧ j < 2 ∧ atI [a, b] (j : Int) = some (match l with | .m => a | .n => b) ∧ ∀ c, [a, b].set j c = match l with | .m => [c, b] | .n => [a, c] := by
  cases l with
  | m => exact ⟨0, rfl, fun m hm => absurd hm (Nat.not_lt_zero _), by decide, rfl, fun _ => rfl⟩
  | n => exact ⟨1, rfl, fun m hm => by
      have : m = 0 := by omega
      subst this
      exact (by decide +kernel : (namesL "lock")[0]? ≠ some ("n" : Str)), by decide, rfl, fun _ => rfl⟩
theorem vr_place (l : Vr) (a b : D) : ∃ j : Nat, (namesL "var")[j]? = some l.g.s ∧ (∀ m, m < j → (namesL "var")[m]? ≠ some l.g.s) ∧ j < 2 ∧ atI [a, b] (j : Int) = some (match l with | .x => a | .y => b) ∧ ∀ c, [a, b].set j c = match l with | .x => [c, b] | .y => [a, c] := by
  cases l with
  | x => exact ⟨0, rfl, fun m hm => absurd hm (Nat.not_lt_zero _), by decide, rfl, fun _ => rfl⟩
  | y => exact ⟨1, rfl, fun m hm => by
      have : m = 0 := by omega
      subst this
      exact (by decide +kernel : (namesL "var")[0]? ≠ some ("y" : Str)), by decide, rfl, fun _ => rfl⟩
theorem ok_owns (T : Txt w K mg C) : Cal P w K mg base 4 "_owns" ["draft", "lock"] (spOwns K C) := by
  obtain ⟨f_place, fd_place, G_place, M_place, b_place⟩ := ok_Draft_place (P := P) (base := base) T
  refine T.d_owns.ok sc_owns (fun vs H Q E h => ?_) (fun f cdv A outer s H vs Q E hr h => ?_)
  · obtain ⟨_, _, _, _, _, _, rfl, _⟩ := h
    rfl
  · obtain ⟨H0, a, p, t, st, l, rfl, d, kk⟩ := h
    have dd := d
    obtain ⟨vp, dx, l1, l2, l3, l4, l5, x1, x2, x3, x4, x5, d⟩ := d
    refine ⟨_, (pss_one (ps_ret (pe_cmpR op_eq (pe_ix ix_LD (pe_fld (pv 0) rfl) (pe_meth (pv 0) T.cl M_place G_place (hr.mono (by decide)) b_place .nil pass0 (pa_cons pe_str (pa_cons (pv 1) pa_nil))) (fun _ _ => rfl)) (pe_fld (pv 0) rfl) (nomark _)))), ?_⟩
    refine ⟨_, rfl, ?_⟩
    apply d.f2 T
    obtain ⟨j, e1, e2, e3, e4, _⟩ := lk_place l (eOwn st.sh.m) (eOwn st.sh.n)
    refine ⟨_, rfl, a, dx, _, rfl, d.ins, rfl, _, rfl, ?_⟩
    refine ⟨H0, a, p, t, st, "lock", l.g.s, j, rfl, dd, .inr (.inl rfl), e1, e2, fun G1 g1 => ?_⟩
    have d1 := d.grow g1
    refine ⟨l2, x2, _, _, _, rfl, rfl, SqL.of d1.h2, d1.r2, e4, fun u hu => ?_⟩
    have hu : Rp K G1 u (eOwn (st.sh.own l)) := by cases l <;> exact hu
    refine ⟨_, rfl, ?_⟩
    apply d1.ft T
    have sc : scal u (V.int (t : Int)) = true ∧ decide (u = V.int (t : Int)) = decide (st.sh.own l = some t) := by
      cases ho : st.sh.own l with
      | none =>
        rw [ho] at hu
        cases (show Rp K G1 u .none from hu).toNon
        exact ⟨rfl, rfl⟩
      | some z =>
        rw [ho] at hu
        cases (show Rp K G1 u (.int (z : Int)) from hu).toInt
        exact ⟨rfl, decide_eq_decide.mpr ⟨fun q => by have := V.int.inj q; congr 1; omega, fun q => by cases q; rfl⟩⟩
    refine ⟨sc.1, ?_⟩
    rw [sc.2]
    exact kk G1 g1

/-- Draft.wake: 0 self, 1 name, 2 many, 3 at, 4 other, 5 pc, 6 registers, 7 mode, 8 word -/
abbrev s_Draft_wake : Stmt := inClass (top 48) 6
theorem sc_Draft_wake : FnScope ["self", "name", "many", "at", "other", "pc", "registers", "mode", "word"] ["self", "name", "many"] (defScope s_Draft_wake) := ⟨rfl, rfl, rfl, by decide +kernel, rfl, by decide +kernel, by decide +kernel⟩
def spWake (K : PySem.W.Frag) (C : Addr) : L2.Sp := fun vs H Q _ => ∃ (H0 : Hp) (a : Addr) (p : Prog) (t k : Nat) (s : MS), vs = [.ref a, .str "w", .int (k : Int)] ∧ DraftAt K C H0 H a p t s ∧ (∀ o ∈ s.sh.w, o < s.ts.length) ∧ s.sh.w.Nodup ∧
  ∀ H', DraftAt K C H0 H' a p t ⟨{ s.sh with w := s.sh.w.drop k }, wakeL s.ts (s.sh.w.take k)⟩ → Q .non H'
theorem wake_snoc {ts : List Thr} {o : List Nat} {z : Nat} (hz : z ∉ o) : (wakeL ts o).set z { (ts.getD z Thr.d) with md := .woken } = wakeL ts (o ++ [z]) := by
  apply List.ext_getElem?
  intro k
  rw [List.getElem?_set, wake_get, wake_get, wake_len]
  by_cases e : z = k
  · subst e
    by_cases hl : z < ts.length
    · simp [hl, List.getD]
    · simp [hl]
  · have e' : ¬ k = z := fun q => e q.symm
    simp [e, e']
theorem ok_Draft_wake (T : Txt w K mg C) : MCal P w K mg base C 4 "wake" ["self", "name", "many"] (spWake K C) := by
  obtain ⟨f_place, fd_place, G_place, M_place, b_place⟩ := ok_Draft_place (P := P) (base := base) T
  refine T.m_wake.ok sc_Draft_wake (fun vs H Q E h => ?_) (fun f cdv A outer s H vs Q E hr h => ?_)
  · obtain ⟨_, _, _, _, _, _, rfl, _⟩ := h
    rfl
  · obtain ⟨H0, a, p, t, k, st, rfl, d, hw, hnd, kk⟩ := h
    have dd := d
    obtain ⟨vp, dx, l1, l2, l3, l4, l5, x1, x2, x3, x4, x5, d⟩ := d
    refine ⟨_, (pss_cons (ps_set (i := 3) sc_Draft_wake.nd rfl (Or.inl rfl) (pe_meth (pv 0) T.cl M_place G_place (hr.mono (by decide)) b_place .nil pass0 (pa_cons pe_str (pa_cons (pv 1) pa_nil))))
        (pss_cons (ps_for PassesOwn.never rfl (pi_tup (pe_slice sl_D (pe_ix ix_LD (pe_fld (pv 0) rfl) (pv 3) (fun _ _ => rfl)) po_none (po_some (pv 2)))) (pg_name (i := 4) sc_Draft_wake.nd rfl (Or.inl rfl))
          (pss_cons (ps_asg (pe_ix ix_LD (pe_fld (pv 0) rfl) (pv 4) (fun _ _ => rfl)) (pg_tup rfl (pgs_cons (pg_name (i := 5) sc_Draft_wake.nd rfl (Or.inl rfl)) (pgs_cons (pg_name (i := 6) sc_Draft_wake.nd rfl (Or.inl rfl)) (pgs_cons (pg_name (i := 7) sc_Draft_wake.nd rfl (Or.inl rfl)) (pgs_cons (pg_name (i := 8) sc_Draft_wake.nd rfl (Or.inl rfl)) pgs_nil))))))
          (pss_one (ps_asg (pe_tupN (pa_cons (pv 5) (pa_cons (pv 6) (pa_cons (pe_gs rfl T.g_WOKEN) (pa_cons (pv 8) pa_nil))))) (pg_sub (pe_fld (pv 0) rfl) (pv 4) set_list)))))
        (pss_one (ps_asg (pe_slice sl_D (pe_ix ix_LD (pe_fld (pv 0) rfl) (pv 3) (fun _ _ => rfl)) (po_some (pv 2)) po_none) (pg_sub (pe_fld (pv 0) rfl) (pv 3) set_list))))), ?_⟩
    refine ⟨_, rfl, a, dx, _, rfl, d.ins, rfl, _, rfl, ?_⟩
    refine ⟨H0, a, p, t, st, "cond", "w", 0, rfl, dd, .inr (.inr (.inr rfl)), rfl, fun m hm => absurd hm (Nat.not_lt_zero _), fun G1 g1 => ?_⟩
    have d1 := d.grow g1
    refine ⟨_, rfl, ?_⟩
    apply d1.f4 T
    refine ⟨_, rfl, l4, x4, _, _, _, rfl, rfl, SqL.of d1.h4, d1.r4, rfl, fun u hu => ?_⟩
    refine ⟨_, rfl, (k : Int), rfl, ?_⟩
    refine ⟨_, hu, fun v2 G2 g2 hv2 => ?_⟩
    have d2 := d1.grow g2
    have el : (List.drop (HT.sIx (st.sh.w.map dI).length 0 none) (st.sh.w.map dI)).take (HT.sIx (st.sh.w.map dI).length (st.sh.w.map dI).length (some (k : Int)) - HT.sIx (st.sh.w.map dI).length 0 none) = (st.sh.w.take k).map dI := by
      rw [HT.sIx_none, HT.sIx_nat, List.drop_zero, Nat.sub_zero, List.map_take]
      by_cases hk : k ≤ (st.sh.w.map dI).length
      · rw [Nat.min_eq_left hk]
      · rw [Nat.min_eq_right (by omega), List.take_length, List.take_of_length_le (by omega)]
    rw [el] at hv2
    refine for_D (fun i σ H' => ∃ y5 b1 b2 b3 b4 b5, σ = [some (.ref a), some (V.str "w"), some (.int (k : Int)), some (.int 0), b1, b2, b3, b4, b5] ∧ Tle K G2 H' ∧ DA K C H0 H' a p t ⟨st.sh, wakeL st.ts ((st.sh.w.take k).take i)⟩ vp dx l1 l2 l3 l4 l5 x1 x2 x3 x4 y5) hv2 ⟨x5, none, none, none, none, none, rfl, Tle.refl, ?_⟩ ?_ ?_ ?_
    · rw [List.take_zero, wake_nil]
      exact d2
    · rintro i σ' H' ⟨_, _, _, _, _, _, _, tl, _⟩
      exact tl
    · rintro i x dd σ' H' e r ⟨y5, b1, b2, b3, b4, b5, rfl, tl, da⟩
      rw [List.getElem?_map] at e
      obtain ⟨z, hz, rfl⟩ := Option.map_eq_some_iff.mp e
      cases r.toInt
      have hzw : z ∈ st.sh.w := List.mem_of_mem_take (List.mem_of_getElem? hz)
      have hzl : z < (wakeL st.ts ((st.sh.w.take k).take i)).length := by rw [wake_len]; exact hw z hzw
      have hzn : z ∉ (st.sh.w.take k).take i := by
        have nd : (st.sh.w.take k).Nodup := hnd.sublist (List.take_sublist _ _)
        intro hm
        obtain ⟨j, hj, ej⟩ := List.getElem_of_mem hm
        have hj' : j < i := by
          rw [List.length_take] at hj
          omega
        rw [List.getElem_take] at ej
        obtain ⟨hi, ei⟩ := List.getElem?_eq_some_iff.mp hz
        have : j = i := (List.getElem_inj nd).mp (ej.trans ei.symm)
        omega
      have eat : (wakeL st.ts ((st.sh.w.take k).take i)).getD z Thr.d = st.ts.getD z Thr.d := by
        rw [List.getD_eq_getElem?_getD, List.getD_eq_getElem?_getD, wake_get]
        cases st.ts[z]? <;> simp [hzn]
      refine ⟨_, rfl, ?_⟩
      apply da.f5 T
      refine ⟨_, rfl, l5, y5, _, _, _, rfl, rfl, SqL.of da.h5, da.r5, at_mapD (d := Thr.d) hzl, fun u hu => ?_⟩
      refine gtup_D hu rfl fun xs hxs => ?_
      rcases hxs with _ | ⟨g1, _ | ⟨g2, _ | ⟨g3, _ | ⟨g4, _ | _⟩⟩⟩⟩
      refine ⟨_, _, rfl, _, _, rfl, _, _, rfl, _, _, rfl, rfl, ?_⟩
      refine ⟨_, rfl, _, rfl, _, rfl, _, .cons g1 (.cons g2 (.cons (.str _) (.cons g4 .nil))), by show 4 < 1000; decide, fun v G g hv => ?_⟩
      have d3 := da.grow g
      refine ⟨_, rfl, ?_⟩
      apply d3.f5 T
      refine ⟨_, rfl, l5, y5, _, z, rfl, rfl, d3.h5, ixN_nat (da.l5 ▸ hzl), ?_⟩
      have hv' : Rp K G v (eTS { (st.ts.getD z Thr.d) with md := .woken }) := by rw [← eat]; exact hv
      have d4 := d3.wt (i := z) hv'
      refine ⟨y5.set z v, _, _, _, _, _, rfl, (tl.trans (Tle.same g)).trans (Tle.lst d3.h5), ?_⟩
      have e2 : (st.sh.w.take k).take (i + 1) = (st.sh.w.take k).take i ++ [z] := by rw [List.take_add_one, hz]; rfl
      rw [e2, ← wake_snoc hzn]
      exact d4
    · rintro σ' H' ⟨y5, b1, b2, b3, b4, b5, rfl, tl, da⟩
      rw [List.length_map, List.take_length] at da
      refine ⟨_, rfl, ?_⟩
      apply da.f4 T
      refine ⟨_, rfl, l4, x4, _, _, _, rfl, rfl, SqL.of da.h4, da.r4, rfl, fun u hu => ?_⟩
      refine ⟨_, rfl, (k : Int), rfl, ?_⟩
      refine ⟨_, hu, fun v3 G3 g3 hv3 => ?_⟩
      have d3 := da.grow g3
      have el2 : (List.drop (HT.sIx (st.sh.w.map dI).length 0 (some (k : Int))) (st.sh.w.map dI)).take (HT.sIx (st.sh.w.map dI).length (st.sh.w.map dI).length none - HT.sIx (st.sh.w.map dI).length 0 (some (k : Int))) = (st.sh.w.drop k).map dI := by
        rw [HT.sIx_none, HT.sIx_nat, List.map_drop]
        by_cases hk : k ≤ (st.sh.w.map dI).length
        · rw [Nat.min_eq_left hk, List.take_of_length_le (by rw [List.length_drop]; omega)]
        · rw [Nat.min_eq_right (by omega), List.drop_of_length_le (by omega), List.drop_of_length_le (by omega), List.take_nil]
      rw [el2] at hv3
      refine ⟨_, rfl, ?_⟩
      apply d3.f4 T
      refine ⟨_, rfl, l4, x4, _, 0, rfl, rfl, d3.h4, ixN_nat (t := 0) (by rw [d3.r4.length]; exact Nat.zero_lt_one), kk _ ?_⟩
      refine d3.w4 (y := x4.set 0 v3) ?_ ⟨rfl, rfl, rfl, rfl, rfl, rfl⟩
      have := d3.r4.set 0 hv3
      exact this

/-- Draft.begin_wait: 0 self, 1 name, 2 at, 3 pc, 4 registers, 5 mode, 6 word -/
abbrev s_Draft_begin_wait : Stmt := inClass (top 48) 7
theorem sc_Draft_begin_wait : FnScope ["self", "name", "at", "pc", "registers", "mode", "word"] ["self", "name"] (defScope s_Draft_begin_wait) := ⟨rfl, rfl, rfl, by decide +kernel, rfl, by decide +kernel, by decide +kernel⟩
def spBegW (K : PySem.W.Frag) (C : Addr) : L2.Sp := fun vs H Q _ => ∃ (H0 : Hp) (a : Addr) (p : Prog) (t : Nat) (s : MS), vs = [.ref a, .str "w"] ∧ DraftAt K C H0 H a p t s ∧ t < s.ts.length ∧ s.sh.w.length < 1000 ∧
  ∀ H', DraftAt K C H0 H' a p t (MS.setT ⟨{ s.sh with m := none, w := s.sh.w ++ [t] }, s.ts⟩ t { s.at t with md := .wait }) → Q .non H'
theorem ok_Draft_begin_wait (T : Txt w K mg C) : MCal P w K mg base C 4 "begin_wait" ["self", "name"] (spBegW K C) := by
  obtain ⟨f_place, fd_place, G_place, M_place, b_place⟩ := ok_Draft_place (P := P) (base := base) T
  refine T.m_begin_wait.ok sc_Draft_begin_wait (fun vs H Q E h => ?_) (fun f cdv A outer s H vs Q E hr h => ?_)
  · obtain ⟨_, _, _, _, _, rfl, _⟩ := h
    rfl
  · obtain ⟨H0, a, p, t, st, rfl, d, ht, hwl, kk⟩ := h
    have dd := d
    obtain ⟨vp, dx, l1, l2, l3, l4, l5, x1, x2, x3, x4, x5, d⟩ := d
    refine ⟨_, (pss_cons (ps_set (i := 2) sc_Draft_begin_wait.nd rfl (Or.inl rfl) (pe_meth (pv 0) T.cl M_place G_place (hr.mono (by decide)) b_place .nil pass0 (pa_cons pe_str (pa_cons (pv 1) pa_nil))))
        (pss_cons (ps_asg pe_non (pg_sub (pe_fld (pv 0) rfl) (pe_meth (pv 0) T.cl M_place G_place (hr.mono (by decide)) b_place .nil pass0 (pa_cons pe_str (pa_cons (pe_own (ok_lock_of T) (hr.mono (by decide)) rfl (pa_cons (pe_fld (pv 0) rfl) (pa_cons (pv 1) pa_nil))) pa_nil))) set_list))
        (pss_cons (ps_asg (pe_op op_catD (pe_ix ix_LD (pe_fld (pv 0) rfl) (pv 2) (fun _ _ => rfl)) (pe_tupN (pa_cons (pe_fld (pv 0) rfl) pa_nil))) (pg_sub (pe_fld (pv 0) rfl) (pv 2) set_list))
        (pss_cons (ps_asg (pe_ix ix_LD (pe_fld (pv 0) rfl) (pe_fld (pv 0) rfl) (fun _ _ => rfl)) (pg_tup rfl (pgs_cons (pg_name (i := 3) sc_Draft_begin_wait.nd rfl (Or.inl rfl)) (pgs_cons (pg_name (i := 4) sc_Draft_begin_wait.nd rfl (Or.inl rfl)) (pgs_cons (pg_name (i := 5) sc_Draft_begin_wait.nd rfl (Or.inl rfl)) (pgs_cons (pg_name (i := 6) sc_Draft_begin_wait.nd rfl (Or.inl rfl)) pgs_nil))))))
        (pss_one (ps_asg (pe_tupN (pa_cons (pv 3) (pa_cons (pv 4) (pa_cons (pe_gs rfl T.g_WAIT) (pa_cons (pv 6) pa_nil))))) (pg_sub (pe_fld (pv 0) rfl) (pe_fld (pv 0) rfl) set_list))))))), ?_⟩
    refine ⟨_, rfl, a, dx, _, rfl, d.ins, rfl, _, rfl, ?_⟩
    refine ⟨H0, a, p, t, st, "cond", "w", 0, rfl, dd, .inr (.inr (.inr rfl)), rfl, fun m hm => absurd hm (Nat.not_lt_zero _), fun G1 g1 => ?_⟩
    have d1 := d.grow g1
    have dd1 := dd.grow g1
    refine ⟨_, rfl, ?_⟩
    apply d1.f2 T
    refine ⟨_, rfl, a, dx, _, rfl, d1.ins, rfl, ?_⟩
    refine ⟨_, rfl, ?_⟩
    apply d1.fp T
    refine ⟨_, rfl, ?_⟩
    refine ⟨_, _, .cons d1.prog (.cons (.str _) .nil), ⟨p, rfl, rfl⟩, fun G2 v2 g2 hv2 => ?_⟩
    cases hv2.toStr
    have d2 := d1.grow g2
    refine ⟨H0, a, p, t, st, "lock", "m", 0, rfl, dd1.grow g2, .inr (.inl rfl), rfl, fun m hm => absurd hm (Nat.not_lt_zero _), fun G3 g3 => ?_⟩
    have d3 := d2.grow g3
    refine ⟨l2, x2, _, 0, rfl, rfl, d3.h2, ?_, ?_⟩
    · rw [d3.r2.length]; rfl
    have dd4 : DraftAt K C H0 (upd G3 l2 (.lst (x2.set 0 V.non))) a p t ⟨{ st.sh with m := none }, st.ts⟩ := d3.w2 (d3.r2.set 0 .non) ⟨rfl, rfl, rfl, rfl, rfl⟩
    generalize upd G3 l2 (.lst (x2.set 0 V.non)) = G4 at dd4
    obtain ⟨vp, dx, l1, l2, l3, l4, l5, x1, x2, x3, x4, x5, d4⟩ := dd4
    refine ⟨_, rfl, ?_⟩
    apply d4.f4 T
    refine ⟨_, rfl, l4, x4, _, _, _, rfl, rfl, SqL.of d4.h4, d4.r4, rfl, fun u hu => ?_⟩
    refine ⟨_, rfl, ?_⟩
    apply d4.ft T
    refine ⟨_, .cons (.int _) .nil, by show 1 < 1000; decide, fun v5 G5 g5 hv5 => ?_⟩
    refine ⟨_, _, hu.sm g5, hv5, by rw [List.length_map]; exact Nat.le_of_lt (sizeLine_small (by show st.sh.w.length + 1 < _; omega)), fun v6 G6 g6 hv6 => ?_⟩
    have d6 := d4.grow (g5.trans g6)
    refine ⟨_, rfl, ?_⟩
    apply d6.f4 T
    refine ⟨_, rfl, l4, x4, _, 0, rfl, rfl, d6.h4, ?_, ?_⟩
    · rw [d6.r4.length]; rfl
    have dd7 : DraftAt K C H0 (upd G6 l4 (.lst (x4.set 0 v6))) a p t ⟨{ st.sh with m := none, w := st.sh.w ++ [t] }, st.ts⟩ := by
      refine d6.w4 ?_ ⟨rfl, rfl, rfl, rfl, rfl, rfl⟩
      have := d6.r4.set 0 hv6
      simpa [dI] using this
    generalize upd G6 l4 (.lst (x4.set 0 v6)) = G7 at dd7
    obtain ⟨vp, dx, l1, l2, l3, l4, l5, x1, x2, x3, x4, x5, d7⟩ := dd7
    refine ⟨_, rfl, ?_⟩
    apply d7.f5 T
    refine ⟨_, rfl, ?_⟩
    apply d7.ft T
    refine ⟨l5, x5, _, _, _, rfl, rfl, SqL.of d7.h5, d7.r5, at_mapD (d := Thr.d) ht, fun u hu => ?_⟩
    refine gtup_D hu rfl fun xs hxs => ?_
    rcases hxs with _ | ⟨g1, _ | ⟨g2, _ | ⟨g3, _ | ⟨g4, _ | _⟩⟩⟩⟩
    refine ⟨_, _, rfl, _, _, rfl, _, _, rfl, _, _, rfl, rfl, ?_⟩
    refine ⟨_, rfl, _, rfl, _, rfl, _, .cons g1 (.cons g2 (.cons (.str _) (.cons g4 .nil))), by show 4 < 1000; decide, fun v G g hv => ?_⟩
    have d8 := d7.grow g
    refine ⟨_, rfl, ?_⟩
    apply d8.f5 T
    refine ⟨_, rfl, ?_⟩
    apply d8.ft T
    exact ⟨l5, x5, _, t, rfl, rfl, d8.h5, ixN_nat (d8.l5 ▸ ht), kk _ ⟨_, _, _, _, _, _, _, _, _, _, _, _, d8.wt hv⟩⟩
end
end Ev

-- part EvW7
set_option maxHeartbeats 400000
set_option Elab.async false
set_option linter.all false
set_option maxRecDepth 100000
set_option maxHeartbeats 4000000
/-! The walks: what one instruction does. -/
namespace Ev
open PySem L2
section
variable {P : Program} {w : World} {K : PySem.W.Frag} {mg : Str → Option Value} {base : Heap} {C : Addr}

def vW : Option Wd → V
  | none => .non
  | some w => .str w.s
def datW (i : In) (th : Thr) (sh : Sh) : Option Wd := match i with
  | .add v e => if sh.var v + val (.add v e) th.a > 99 ∨ sh.var v + val (.add v e) th.a < -99 then some .range else none
  | .check e => if val (.check e) th.a = 0 then some .check else none
  | _ => none
def datS (i : In) (t : Nat) (s : MS) : MS := match i with
  | .lett e => s.setT t ((s.at t).setReg .a (val (.lett e) (s.at t).a))
  | .get r v => s.setT t ((s.at t).setReg r (s.sh.var v))
  | .put v e => ⟨s.sh.setVar v (val (.put v e) (s.at t).a), s.ts⟩
  | .add v e => if s.sh.var v + val (.add v e) (s.at t).a > 99 ∨ s.sh.var v + val (.add v e) (s.at t).a < -99 then s else ⟨s.sh.setVar v (s.sh.var v + val (.add v e) (s.at t).a), s.ts⟩
  | .send e => ⟨{ s.sh with q := s.sh.q ++ [val (.send e) (s.at t).a] }, s.ts⟩
  | .take => ⟨{ s.sh with q := s.sh.q.drop 1 }, s.ts.set t ((s.at t).setReg .a (s.sh.q.headD 0))⟩
  | _ => s
theorem at_two {d e : D} {l : List D} {c : D} : atI (c :: d :: e :: l) 2 = some e := atI_nat (j := 2) rfl
/-- _do_data: 0 draft, 1 instruction, 2 worth, 3 kind, 4 at -/
abbrev s_do_data : Stmt := top 50
theorem sc_do_data : FnScope ["draft", "instruction", "worth", "kind", "at"] ["draft", "instruction", "worth"] (defScope s_do_data) := ⟨rfl, rfl, rfl, by decide +kernel, rfl, by decide +kernel, by decide +kernel⟩
def spDat (K : PySem.W.Frag) (C : Addr) : L2.Sp := fun vs H Q _ => ∃ (H0 : Hp) (a : Addr) (p : Prog) (t : Nat) (s : MS) (i : In) (vi vw : V), vs = [.ref a, vi, vw] ∧ DraftAt K C H0 H a p t s ∧ Rp K H0 vi (eIn i) ∧ Rp K H0 vw (eWorth i (s.at t).a) ∧ bad i (s.at t).a = false ∧ t < s.ts.length ∧ (i = .take → s.sh.q ≠ []) ∧ s.sh.q.length < 1000 ∧
  ∀ H', DraftAt K C H0 H' a p t (datS i t s) → Q (vW (datW i (s.at t) s.sh)) H'
theorem ok_do_data (T : Txt w K mg C) : Cal P w K mg base 4 "_do_data" ["draft", "instruction", "worth"] (spDat K C) := by
  obtain ⟨f_place, fd_place, G_place, M_place, b_place⟩ := ok_Draft_place (P := P) (base := base) T
  obtain ⟨f_store, fd_store, G_store, M_store, b_store⟩ := ok_Draft_store (P := P) (base := base) T
  refine T.d_do_data.ok sc_do_data (fun vs H Q E h => ?_) (fun f cdv A outer s H vs Q E hr h => ?_)
  · obtain ⟨_, _, _, _, _, _, _, _, rfl, _⟩ := h
    rfl
  · obtain ⟨H0, a, p, t, st, i, vi, vw, rfl, dd, hi, hw, hb, ht, hq, hql, kk⟩ := h
    have d := dd
    obtain ⟨vp, dx, l1, l2, l3, l4, l5, x1, x2, x3, x4, x5, d⟩ := d
    refine ⟨_, (pss_cons (ps_set (i := 3) sc_do_data.nd rfl (Or.inl rfl) (pe_ix ix_D (pv 1) pe_int (fun _ _ => rfl)))
        (pss_cons (ps_if (pt_cmpR op_eq (pv 3) pe_str (nomark _))
          (pss_one (ps_expr (pe_meth (pv 0) T.cl M_store G_store (hr.mono (by decide)) b_store .nil pass0 (pa_cons (pe_ix ix_D (pv 1) pe_int (fun _ _ => rfl)) (pa_cons (pv 2) pa_nil)))))
          (pss_one (ps_if (pt_cmpR op_eq (pv 3) pe_str (nomark _))
            (pss_one (ps_expr (pe_meth (pv 0) T.cl M_store G_store (hr.mono (by decide)) b_store .nil pass0 (pa_cons (pe_ix ix_D (pv 1) pe_int (fun _ _ => rfl)) (pa_cons (pe_ix ix_LD (pe_fld (pv 0) rfl) (pe_meth (pv 0) T.cl M_place G_place (hr.mono (by decide)) b_place .nil pass0 (pa_cons pe_str (pa_cons (pe_ix ix_D (pv 1) pe_int (fun _ _ => rfl)) pa_nil))) (fun _ _ => rfl)) pa_nil)))))
            (pss_one (ps_if (pt_cmpR op_eq (pv 3) pe_str (nomark _))
              (pss_one (ps_asg (pv 2) (pg_sub (pe_fld (pv 0) rfl) (pe_meth (pv 0) T.cl M_place G_place (hr.mono (by decide)) b_place .nil pass0 (pa_cons pe_str (pa_cons (pe_ix ix_D (pv 1) pe_int (fun _ _ => rfl)) pa_nil))) set_list)))
              (pss_one (ps_if (pt_cmpR op_eq (pv 3) pe_str (nomark _))
                (pss_cons (ps_set (i := 4) sc_do_data.nd rfl (Or.inl rfl) (pe_meth (pv 0) T.cl M_place G_place (hr.mono (by decide)) b_place .nil pass0 (pa_cons pe_str (pa_cons (pe_ix ix_D (pv 1) pe_int (fun _ _ => rfl)) pa_nil))))
                (pss_cons (ps_if (PW.pt (pw_or (pt_cmpR op_gt (pe_op op_add (pe_ix ix_LD (pe_fld (pv 0) rfl) (pv 4) (fun _ _ => rfl)) (pv 2)) pe_int (nomark _)) (pw_or1 (pt_cmpR op_lt (pe_op op_add (pe_ix ix_LD (pe_fld (pv 0) rfl) (pv 4) (fun _ _ => rfl)) (pv 2)) (pe_un un_neg pe_int) (nomark _)))))
                  (pss_one (ps_ret pe_str))
                  pss_nil)
                (pss_one (ps_asg (pe_op op_add (pe_ix ix_LD (pe_fld (pv 0) rfl) (pv 4) (fun _ _ => rfl)) (pv 2)) (pg_sub (pe_fld (pv 0) rfl) (pv 4) set_list)))))
                (pss_one (ps_if (pt_cmpR op_eq (pv 3) pe_str (nomark _))
                  (pss_cons (ps_set (i := 4) sc_do_data.nd rfl (Or.inl rfl) (pe_meth (pv 0) T.cl M_place G_place (hr.mono (by decide)) b_place .nil pass0 (pa_cons pe_str (pa_cons (pe_ix ix_D (pv 1) pe_int (fun _ _ => rfl)) pa_nil))))
                  (pss_one (ps_asg (pe_op op_catD (pe_ix ix_LD (pe_fld (pv 0) rfl) (pv 4) (fun _ _ => rfl)) (pe_tupN (pa_cons (pv 2) pa_nil))) (pg_sub (pe_fld (pv 0) rfl) (pv 4) set_list))))
                  (pss_one (ps_if (pt_cmpR op_eq (pv 3) pe_str (nomark _))
                    (pss_cons (ps_set (i := 4) sc_do_data.nd rfl (Or.inl rfl) (pe_meth (pv 0) T.cl M_place G_place (hr.mono (by decide)) b_place .nil pass0 (pa_cons pe_str (pa_cons (pe_ix ix_D (pv 1) pe_int (fun _ _ => rfl)) pa_nil))))
                    (pss_cons (ps_expr (pe_meth (pv 0) T.cl M_store G_store (hr.mono (by decide)) b_store .nil pass0 (pa_cons (pe_ix ix_D (pv 1) pe_int (fun _ _ => rfl)) (pa_cons (pe_ix ix_D (pe_ix ix_LD (pe_fld (pv 0) rfl) (pv 4) (fun _ _ => rfl)) pe_int (fun _ _ => rfl)) pa_nil))))
                    (pss_one (ps_asg (pe_slice sl_D (pe_ix ix_LD (pe_fld (pv 0) rfl) (pv 4) (fun _ _ => rfl)) (po_some pe_int) po_none) (pg_sub (pe_fld (pv 0) rfl) (pv 4) set_list)))))
                    (pss_one (ps_if (PW.pt (pw_and (pt_cmpR op_eq (pv 3) pe_str (nomark _)) (pw_and1 (pt_cmpR op_eq (pv 2) pe_int (nomark _)))))
                      (pss_one (ps_ret pe_str))
                      pss_nil)))))))))))))
        (pss_one (ps_ret pe_non)))), ?_⟩
    refine ⟨_, rfl, _, _, _, hi.sm d.same, rfl, at0, fun u hu => ?_⟩
    cases hu.toStr
    have vx : ∀ {e : Tr}, i.tree = some e → vw = .int (val i (st.at t).a) := fun q => worth_val hw hb q
    cases i with
    | lett e =>
      refine tst_eq (a := "let") rfl rfl (iteT ?_)
      cases vx rfl
      refine ⟨_, rfl, a, dx, _, rfl, d.ins, rfl, _, rfl, _, _, _, hi.sm d.same, rfl, at1, fun u hu => ?_⟩
      cases hu.toStr
      refine ⟨_, rfl, H0, a, p, t, .a, _, st, rfl, dd, ht, fun G d' => ?_⟩
      exact kk _ d'
    | get r v =>
      refine tst_ne (a := "get") rfl (by decide +kernel) (iteF ?_)
      refine tst_eq (a := "get") rfl rfl (iteT ?_)
      refine ⟨_, rfl, a, dx, _, rfl, d.ins, rfl, _, rfl, _, _, _, hi.sm d.same, rfl, at1, fun u hu => ?_⟩
      cases hu.toStr
      refine ⟨_, rfl, ?_⟩
      apply d.f1 T
      refine ⟨_, rfl, a, dx, _, rfl, d.ins, rfl, _, rfl, _, _, _, hi.sm d.same, rfl, at_two, fun u hu => ?_⟩
      cases hu.toStr
      obtain ⟨j, e1, e2, e3, e4, _⟩ := vr_place v (.int st.sh.x) (.int st.sh.y)
      refine ⟨H0, a, p, t, st, "var", _, j, rfl, dd, .inl rfl, e1, e2, fun G g => ?_⟩
      have d1 := d.grow g
      refine ⟨l1, x1, _, _, _, rfl, rfl, SqL.of d1.h1, d1.r1, e4, fun u hu => ?_⟩
      have hu : u = .int (st.sh.var v) := by cases v <;> exact hu.toInt
      subst hu
      refine ⟨H0, a, p, t, r, _, st, rfl, dd.grow g, ht, fun G d' => ?_⟩
      exact kk _ d'
    | put v e =>
      refine tst_ne (a := "put") rfl (by decide +kernel) (iteF ?_)
      refine tst_ne (a := "put") rfl (by decide +kernel) (iteF ?_)
      refine tst_eq (a := "put") rfl rfl (iteT ?_)
      cases vx rfl
      refine ⟨_, rfl, ?_⟩
      refine ⟨_, rfl, ?_⟩
      apply d.f1 T
      refine ⟨_, rfl, a, dx, _, rfl, d.ins, rfl, _, rfl, _, _, _, hi.sm d.same, rfl, at1, fun u hu => ?_⟩
      cases hu.toStr
      obtain ⟨j, e1, e2, e3, e4, e5⟩ := vr_place v (.int st.sh.x) (.int st.sh.y)
      refine ⟨H0, a, p, t, st, "var", _, j, rfl, dd, .inl rfl, e1, e2, fun G g => ?_⟩
      have d1 := d.grow g
      refine ⟨l1, x1, _, j, rfl, rfl, d1.h1, ixN_nat (by rw [d1.r1.length]; exact e3), kk _ ?_⟩
      refine d1.w1 ?_ ⟨?_, ?_, ?_, ?_, rfl⟩
      · have := d1.r1.set j (.int (val (.put v e) (st.at t).a))
        rw [e5] at this
        cases v <;> exact this
      all_goals (cases v <;> rfl)
    | add v e =>
      refine tst_ne (a := "add") rfl (by decide +kernel) (iteF ?_)
      refine tst_ne (a := "add") rfl (by decide +kernel) (iteF ?_)
      refine tst_ne (a := "add") rfl (by decide +kernel) (iteF ?_)
      refine tst_eq (a := "add") rfl rfl (iteT ?_)
      cases vx rfl
      refine ⟨_, rfl, a, dx, _, rfl, d.ins, rfl, _, rfl, _, _, _, hi.sm d.same, rfl, at1, fun u hu => ?_⟩
      cases hu.toStr
      obtain ⟨j, e1, e2, e3, e4, e5⟩ := vr_place v (.int st.sh.x) (.int st.sh.y)
      refine ⟨H0, a, p, t, st, "var", _, j, rfl, dd, .inl rfl, e1, e2, fun G g => ?_⟩
      have d1 := d.grow g
      refine ⟨_, rfl, ?_⟩
      apply d1.f1 T
      refine ⟨_, rfl, l1, x1, _, _, _, rfl, rfl, SqL.of d1.h1, d1.r1, e4, fun u hu => ?_⟩
      have hu : u = .int (st.sh.var v) := by cases v <;> exact hu.toInt
      subst hu
      refine ⟨_, rfl, _, _, rfl, rfl, ?_⟩
      refine ⟨_, _, rfl, rfl, _, rfl, ?_⟩
      have fin : (st.sh.var v + val (.add v e) (st.at t).a > 99 ∨ st.sh.var v + val (.add v e) (st.at t).a < -99) → Q (.str "range") G := fun q => by
        have e1 : datS (.add v e) t st = st := if_pos q
        have e2 : datW (.add v e) (st.at t) st.sh = some .range := if_pos q
        have := kk G
        rw [e1, e2] at this
        exact this (dd.grow g)
      by_cases c1 : 99 < st.sh.var v + val (.add v e) (st.at t).a
      · rw [decide_eq_true c1]
        exact iteT (iteT (fin (.inl c1)))
      rw [decide_eq_false c1]
      refine iteF ?_
      refine ⟨_, rfl, ?_⟩
      apply d1.f1 T
      refine ⟨_, rfl, l1, x1, _, _, _, rfl, rfl, SqL.of d1.h1, d1.r1, e4, fun u hu => ?_⟩
      have hu : u = .int (st.sh.var v) := by cases v <;> exact hu.toInt
      subst hu
      refine ⟨_, rfl, _, _, rfl, rfl, ?_⟩
      refine ⟨_, rfl, _, _, rfl, rfl, _, rfl, ?_⟩
      by_cases c2 : st.sh.var v + val (.add v e) (st.at t).a < -99
      · rw [decide_eq_true c2]
        exact iteT (fin (.inr c2))
      rw [decide_eq_false c2]
      refine iteF ?_
      refine ⟨_, rfl, ?_⟩
      apply d1.f1 T
      refine ⟨_, rfl, l1, x1, _, _, _, rfl, rfl, SqL.of d1.h1, d1.r1, e4, fun u hu => ?_⟩
      have hu : u = .int (st.sh.var v) := by cases v <;> exact hu.toInt
      subst hu
      refine ⟨_, rfl, _, _, rfl, rfl, ?_⟩
      refine ⟨_, rfl, ?_⟩
      apply d1.f1 T
      have q := kk (upd G l1 (.lst (x1.set j (.int (st.sh.var v + val (.add v e) (st.at t).a)))))
      have nq : ¬ (st.sh.var v + val (.add v e) (st.at t).a > 99 ∨ st.sh.var v + val (.add v e) (st.at t).a < -99) := fun z => z.elim c1 c2
      have e6 : datS (.add v e) t st = ⟨st.sh.setVar v (st.sh.var v + val (.add v e) (st.at t).a), st.ts⟩ := if_neg nq
      have e7 : datW (.add v e) (st.at t) st.sh = none := if_neg nq
      rw [e6, e7] at q
      refine ⟨_, rfl, l1, x1, _, j, rfl, rfl, d1.h1, ixN_nat (by rw [d1.r1.length]; exact e3), q ?_⟩
      refine d1.w1 ?_ ⟨?_, ?_, ?_, ?_, rfl⟩
      · have := d1.r1.set j (.int (st.sh.var v + val (.add v e) (st.at t).a))
        rw [e5] at this
        cases v <;> exact this
      all_goals (cases v <;> rfl)
    | send e =>
      refine tst_ne (a := "send") rfl (by decide +kernel) (iteF ?_)
      refine tst_ne (a := "send") rfl (by decide +kernel) (iteF ?_)
      refine tst_ne (a := "send") rfl (by decide +kernel) (iteF ?_)
      refine tst_ne (a := "send") rfl (by decide +kernel) (iteF ?_)
      refine tst_eq (a := "send") rfl rfl (iteT ?_)
      cases vx rfl
      refine ⟨_, rfl, a, dx, _, rfl, d.ins, rfl, _, rfl, _, _, _, hi.sm d.same, rfl, at1, fun u hu => ?_⟩
      cases hu.toStr
      refine ⟨H0, a, p, t, st, "queue", "q", 0, rfl, dd, .inr (.inr (.inl rfl)), rfl, fun m hm => absurd hm (Nat.not_lt_zero _), fun G g => ?_⟩
      have d1 := d.grow g
      refine ⟨_, rfl, ?_⟩
      apply d1.f3 T
      refine ⟨_, rfl, l3, x3, _, _, _, rfl, rfl, SqL.of d1.h3, d1.r3, rfl, fun u hu => ?_⟩
      refine ⟨_, rfl, _, .cons (.int _) .nil, by show 1 < 1000; decide, fun v5 G5 g5 hv5 => ?_⟩
      refine ⟨_, _, hu.sm g5, hv5, by rw [List.length_map]; exact Nat.le_of_lt (sizeLine_small (by show st.sh.q.length + 1 < _; omega)), fun v6 G6 g6 hv6 => ?_⟩
      have d6 := d1.grow (g5.trans g6)
      refine ⟨_, rfl, ?_⟩
      apply d6.f3 T
      refine ⟨_, rfl, l3, x3, _, 0, rfl, rfl, d6.h3, ixN_nat (t := 0) (by rw [d6.r3.length]; exact Nat.zero_lt_one), kk _ ?_⟩
      refine d6.w3 (y := x3.set 0 v6) ?_ ⟨rfl, rfl, rfl, rfl, rfl, rfl⟩
      have := d6.r3.set 0 hv6
      show RpAll K G6 (x3.set 0 v6) [PyData.tuple (List.map PyData.int (st.sh.q ++ [val (.send e) (st.at t).a]))]
      rw [List.map_append]
      exact this
    | take =>
      refine tst_ne (a := "take") rfl (by decide +kernel) (iteF ?_)
      refine tst_ne (a := "take") rfl (by decide +kernel) (iteF ?_)
      refine tst_ne (a := "take") rfl (by decide +kernel) (iteF ?_)
      refine tst_ne (a := "take") rfl (by decide +kernel) (iteF ?_)
      refine tst_ne (a := "take") rfl (by decide +kernel) (iteF ?_)
      refine tst_eq (a := "take") rfl rfl (iteT ?_)
      refine ⟨_, rfl, a, dx, _, rfl, d.ins, rfl, _, rfl, _, _, _, hi.sm d.same, rfl, at_two, fun u hu => ?_⟩
      cases hu.toStr
      refine ⟨H0, a, p, t, st, "queue", "q", 0, rfl, dd, .inr (.inr (.inl rfl)), rfl, fun m hm => absurd hm (Nat.not_lt_zero _), fun G g => ?_⟩
      have d1 := d.grow g
      refine ⟨_, rfl, a, dx, _, rfl, d1.ins, rfl, _, rfl, _, _, _, hi.sm d1.same, rfl, at1, fun u hu => ?_⟩
      cases hu.toStr
      refine ⟨_, rfl, ?_⟩
      apply d1.f3 T
      refine ⟨_, rfl, l3, x3, _, _, _, rfl, rfl, SqL.of d1.h3, d1.r3, rfl, fun u hu => ?_⟩
      obtain ⟨z, zs, ez⟩ : ∃ z zs, st.sh.q = z :: zs := by
        cases hz : st.sh.q with
        | nil => exact absurd hz (hq rfl)
        | cons z zs => exact ⟨z, zs, rfl⟩
      rw [ez] at hu
      refine ⟨_, _, _, hu, rfl, at0, fun u hu => ?_⟩
      cases hu.toInt
      refine ⟨H0, a, p, t, .a, z, st, rfl, dd.grow g, ht, fun G2 d2 => ?_⟩
      obtain ⟨vp, dx, l1, l2, l3, l4, l5, x1, x2, x3, x4, x5, d2⟩ := d2
      refine ⟨_, rfl, ?_⟩
      apply d2.f3 T
      refine ⟨_, rfl, l3, x3, _, _, _, rfl, rfl, SqL.of d2.h3, d2.r3, rfl, fun u hu => ?_⟩
      have hu : Rp K G2 u (.tuple (st.sh.q.map .int)) := hu
      rw [ez] at hu
      refine ⟨1, rfl, _, hu, fun v3 G3 g3 hv3 => ?_⟩
      have d3 := d2.grow g3
      refine ⟨_, rfl, ?_⟩
      apply d3.f3 T
      refine ⟨_, rfl, l3, x3, _, 0, rfl, rfl, d3.h3, ixN_nat (t := 0) (by rw [d3.r3.length]; exact Nat.zero_lt_one), kk _ ?_⟩
      refine d3.w3 (y := x3.set 0 v3) ?_ ⟨rfl, rfl, rfl, rfl, rfl, ?_⟩
      · have := d3.r3.set 0 hv3
        show RpAll K G3 (x3.set 0 v3) [PyData.tuple (List.map PyData.int (st.sh.q.drop 1))]
        rw [ez]
        have el : (List.drop (HT.sIx (List.map PyData.int (z :: zs)).length 0 (some 1)) (List.map PyData.int (z :: zs))).take (HT.sIx (List.map PyData.int (z :: zs)).length (List.map PyData.int (z :: zs)).length none - HT.sIx (List.map PyData.int (z :: zs)).length 0 (some 1)) = List.map PyData.int zs := by
          rw [show (some (1 : Int)) = some ((1 : Nat) : Int) from rfl, HT.sIx_none, HT.sIx_nat, Nat.min_eq_left (by simp), List.length_map, List.length_cons, Nat.add_sub_cancel, List.map_cons, List.drop_succ_cons, List.drop_zero, List.take_of_length_le (by simp)]
        rw [el] at this
        exact this
      · show st.ts.set t ((st.at t).setReg .a (st.sh.q.headD 0)) = st.ts.set t ((st.at t).setReg .a z)
        rw [ez]
        rfl
    | check e =>
      refine tst_ne (a := "check") rfl (by decide +kernel) (iteF ?_)
      refine tst_ne (a := "check") rfl (by decide +kernel) (iteF ?_)
      refine tst_ne (a := "check") rfl (by decide +kernel) (iteF ?_)
      refine tst_ne (a := "check") rfl (by decide +kernel) (iteF ?_)
      refine tst_ne (a := "check") rfl (by decide +kernel) (iteF ?_)
      refine tst_ne (a := "check") rfl (by decide +kernel) (iteF ?_)
      cases vx rfl
      refine tst_eq (a := "check") rfl rfl (iteT ?_)
      refine ⟨_, rfl, rfl, _, rfl, ?_⟩
      by_cases c : val (.check e) (st.at t).a = 0
      · have e2 : datW (.check e) (st.at t) st.sh = some .check := if_pos c
        have := kk H
        rw [e2] at this
        rw [decide_eq_true (by rw [c])]
        exact iteT (this dd)
      · have e2 : datW (.check e) (st.at t) st.sh = none := if_neg c
        have := kk H
        rw [e2] at this
        rw [decide_eq_false (fun q => c (V.int.inj q))]
        exact iteF (this dd)
    | lock l =>
      refine tst_ne (a := "lock") rfl (by decide +kernel) (iteF ?_)
      refine tst_ne (a := "lock") rfl (by decide +kernel) (iteF ?_)
      refine tst_ne (a := "lock") rfl (by decide +kernel) (iteF ?_)
      refine tst_ne (a := "lock") rfl (by decide +kernel) (iteF ?_)
      refine tst_ne (a := "lock") rfl (by decide +kernel) (iteF ?_)
      refine tst_ne (a := "lock") rfl (by decide +kernel) (iteF ?_)
      exact tst_ne (a := "lock") rfl (by decide +kernel) (iteF (iteF (kk _ dd)))
    | unlock l =>
      refine tst_ne (a := "unlock") rfl (by decide +kernel) (iteF ?_)
      refine tst_ne (a := "unlock") rfl (by decide +kernel) (iteF ?_)
      refine tst_ne (a := "unlock") rfl (by decide +kernel) (iteF ?_)
      refine tst_ne (a := "unlock") rfl (by decide +kernel) (iteF ?_)
      refine tst_ne (a := "unlock") rfl (by decide +kernel) (iteF ?_)
      refine tst_ne (a := "unlock") rfl (by decide +kernel) (iteF ?_)
      exact tst_ne (a := "unlock") rfl (by decide +kernel) (iteF (iteF (kk _ dd)))
    | wait =>
      refine tst_ne (a := "wait") rfl (by decide +kernel) (iteF ?_)
      refine tst_ne (a := "wait") rfl (by decide +kernel) (iteF ?_)
      refine tst_ne (a := "wait") rfl (by decide +kernel) (iteF ?_)
      refine tst_ne (a := "wait") rfl (by decide +kernel) (iteF ?_)
      refine tst_ne (a := "wait") rfl (by decide +kernel) (iteF ?_)
      refine tst_ne (a := "wait") rfl (by decide +kernel) (iteF ?_)
      exact tst_ne (a := "wait") rfl (by decide +kernel) (iteF (iteF (kk _ dd)))
    | notify =>
      refine tst_ne (a := "notify") rfl (by decide +kernel) (iteF ?_)
      refine tst_ne (a := "notify") rfl (by decide +kernel) (iteF ?_)
      refine tst_ne (a := "notify") rfl (by decide +kernel) (iteF ?_)
      refine tst_ne (a := "notify") rfl (by decide +kernel) (iteF ?_)
      refine tst_ne (a := "notify") rfl (by decide +kernel) (iteF ?_)
      refine tst_ne (a := "notify") rfl (by decide +kernel) (iteF ?_)
      exact tst_ne (a := "notify") rfl (by decide +kernel) (iteF (iteF (kk _ dd)))
    | notifyall =>
      refine tst_ne (a := "notifyall") rfl (by decide +kernel) (iteF ?_)
      refine tst_ne (a := "notifyall") rfl (by decide +kernel) (iteF ?_)
      refine tst_ne (a := "notifyall") rfl (by decide +kernel) (iteF ?_)
      refine tst_ne (a := "notifyall") rfl (by decide +kernel) (iteF ?_)
      refine tst_ne (a := "notifyall") rfl (by decide +kernel) (iteF ?_)
      refine tst_ne (a := "notifyall") rfl (by decide +kernel) (iteF ?_)
      exact tst_ne (a := "notifyall") rfl (by decide +kernel) (iteF (iteF (kk _ dd)))
    | go k e =>
      refine tst_ne (a := "go") rfl (by decide +kernel) (iteF ?_)
      refine tst_ne (a := "go") rfl (by decide +kernel) (iteF ?_)
      refine tst_ne (a := "go") rfl (by decide +kernel) (iteF ?_)
      refine tst_ne (a := "go") rfl (by decide +kernel) (iteF ?_)
      refine tst_ne (a := "go") rfl (by decide +kernel) (iteF ?_)
      refine tst_ne (a := "go") rfl (by decide +kernel) (iteF ?_)
      exact tst_ne (a := "go") rfl (by decide +kernel) (iteF (iteF (kk _ dd)))
    | beg =>
      refine tst_ne (a := "begin") rfl (by decide +kernel) (iteF ?_)
      refine tst_ne (a := "begin") rfl (by decide +kernel) (iteF ?_)
      refine tst_ne (a := "begin") rfl (by decide +kernel) (iteF ?_)
      refine tst_ne (a := "begin") rfl (by decide +kernel) (iteF ?_)
      refine tst_ne (a := "begin") rfl (by decide +kernel) (iteF ?_)
      refine tst_ne (a := "begin") rfl (by decide +kernel) (iteF ?_)
      exact tst_ne (a := "begin") rfl (by decide +kernel) (iteF (iteF (kk _ dd)))
    | fin =>
      refine tst_ne (a := "end") rfl (by decide +kernel) (iteF ?_)
      refine tst_ne (a := "end") rfl (by decide +kernel) (iteF ?_)
      refine tst_ne (a := "end") rfl (by decide +kernel) (iteF ?_)
      refine tst_ne (a := "end") rfl (by decide +kernel) (iteF ?_)
      refine tst_ne (a := "end") rfl (by decide +kernel) (iteF ?_)
      refine tst_ne (a := "end") rfl (by decide +kernel) (iteF ?_)
      exact tst_ne (a := "end") rfl (by decide +kernel) (iteF (iteF (kk _ dd)))
/-- what the locks and the notices do -/
def lokW (i : In) (t : Nat) (sh : Sh) : Option Wd := match i with
  | .unlock l => if sh.own l = some t then none else some .owner
  | _ => none
def lokS (i : In) (t : Nat) (s : MS) : MS := match i with
  | .lock l => ⟨s.sh.setOwn l (some t), s.ts⟩
  | .unlock l => if s.sh.own l = some t then ⟨s.sh.setOwn l none, s.ts⟩ else s
  | .notify => ⟨{ s.sh with w := s.sh.w.drop 1 }, wakeL s.ts (s.sh.w.take 1)⟩
  | .notifyall => ⟨{ s.sh with w := s.sh.w.drop s.ts.length }, wakeL s.ts (s.sh.w.take s.ts.length)⟩
  | _ => s
/-- _do_lock: 0 draft, 1 instruction, 2 kind -/
abbrev s_do_lock : Stmt := top 51
theorem sc_do_lock : FnScope ["draft", "instruction", "kind"] ["draft", "instruction"] (defScope s_do_lock) := ⟨rfl, rfl, rfl, by decide +kernel, rfl, by decide +kernel, by decide +kernel⟩
def spLok (K : PySem.W.Frag) (C : Addr) : L2.Sp := fun vs H Q _ => ∃ (H0 : Hp) (a : Addr) (p : Prog) (t : Nat) (s : MS) (i : In) (vi : V), vs = [.ref a, vi] ∧ DraftAt K C H0 H a p t s ∧ Rp K H0 vi (eIn i) ∧ (∀ o ∈ s.sh.w, o < s.ts.length) ∧ s.sh.w.Nodup ∧
  ∀ H', DraftAt K C H0 H' a p t (lokS i t s) → Q (vW (lokW i t s.sh)) H'
theorem DA.own {H0 H : Hp} {a : Addr} {p : Prog} {t : Nat} {s : MS} {vp : V} {dx l1 l2 l3 l4 l5 : Addr} {x1 x2 x3 x4 x5 : List V} {l : Lk} {j : Nat} {v : V} {o : Option Nat} (d : DA K C H0 H a p t s vp dx l1 l2 l3 l4 l5 x1 x2 x3 x4 x5) (e5 : ∀ c, [eOwn s.sh.m, eOwn s.sh.n].set j c = match l with | .m => [c, eOwn s.sh.n] | .n => [eOwn s.sh.m, c]) (r : Rp K H v (eOwn o)) :
    DraftAt K C H0 (upd H l2 (.lst (x2.set j v))) a p t ⟨s.sh.setOwn l o, s.ts⟩ := by
  refine d.w2 ?_ ⟨?_, ?_, ?_, ?_, rfl⟩
  · have := d.r2.set j r
    rw [e5] at this
    cases l <;> exact this
  all_goals (cases l <;> rfl)
theorem ok_do_lock (T : Txt w K mg C) : Cal P w K mg base 5 "_do_lock" ["draft", "instruction"] (spLok K C) := by
  obtain ⟨f_place, fd_place, G_place, M_place, b_place⟩ := ok_Draft_place (P := P) (base := base) T
  obtain ⟨f_wake, fd_wake, G_wake, M_wake, b_wake⟩ := ok_Draft_wake (P := P) (base := base) T
  refine T.d_do_lock.ok sc_do_lock (fun vs H Q E h => ?_) (fun f cdv A outer s H vs Q E hr h => ?_)
  · obtain ⟨_, _, _, _, _, _, _, rfl, _⟩ := h
    rfl
  · obtain ⟨H0, a, p, t, st, i, vi, rfl, dd, hi, hw1, hw2, kk⟩ := h
    have d := dd
    obtain ⟨vp, dx, l1, l2, l3, l4, l5, x1, x2, x3, x4, x5, d⟩ := d
    refine ⟨_, (pss_cons (ps_set (i := 2) sc_do_lock.nd rfl (Or.inl rfl) (pe_ix ix_D (pv 1) pe_int (fun _ _ => rfl)))
        (pss_cons (ps_if (pt_cmpR op_eq (pv 2) pe_str (nomark _))
          (pss_one (ps_asg (pe_fld (pv 0) rfl) (pg_sub (pe_fld (pv 0) rfl) (pe_meth (pv 0) T.cl M_place G_place (hr.mono (by decide)) b_place .nil pass0 (pa_cons pe_str (pa_cons (pe_ix ix_D (pv 1) pe_int (fun _ _ => rfl)) pa_nil))) set_list)))
          (pss_one (ps_if (pt_cmpR op_eq (pv 2) pe_str (nomark _))
            (pss_cons (ps_if (pt_not (pt_val (pe_own (ok_owns T) (hr.mono (by decide)) rfl (pa_cons (pv 0) (pa_cons (pe_ix ix_D (pv 1) pe_int (fun _ _ => rfl)) pa_nil)))))
              (pss_one (ps_ret pe_str))
              pss_nil)
            (pss_one (ps_asg pe_non (pg_sub (pe_fld (pv 0) rfl) (pe_meth (pv 0) T.cl M_place G_place (hr.mono (by decide)) b_place .nil pass0 (pa_cons pe_str (pa_cons (pe_ix ix_D (pv 1) pe_int (fun _ _ => rfl)) pa_nil))) set_list))))
            (pss_one (ps_if (pt_cmpR op_eq (pv 2) pe_str (nomark _))
              (pss_one (ps_expr (pe_meth (pv 0) T.cl M_wake G_wake (hr.mono (by decide)) b_wake .nil pass0 (pa_cons (pe_ix ix_D (pv 1) pe_int (fun _ _ => rfl)) (pa_cons pe_int pa_nil)))))
              (pss_one (ps_if (pt_cmpR op_eq (pv 2) pe_str (nomark _))
                (pss_one (ps_expr (pe_meth (pv 0) T.cl M_wake G_wake (hr.mono (by decide)) b_wake .nil pass0 (pa_cons (pe_ix ix_D (pv 1) pe_int (fun _ _ => rfl)) (pa_cons (pe_callB call_len_seq (by rfl) T.len PySem.boot_len (pa_cons (pe_fld (pv 0) rfl) pa_nil)) pa_nil)))))
                pss_nil)))))))
        (pss_one (ps_ret pe_non)))), ?_⟩
    refine ⟨_, rfl, _, _, _, hi.sm d.same, rfl, at0, fun u hu => ?_⟩
    cases hu.toStr
    cases i with
    | lock l =>
      refine tst_eq (a := "lock") rfl rfl (iteT ?_)
      refine ⟨_, rfl, ?_⟩
      apply d.ft T
      refine ⟨_, rfl, ?_⟩
      apply d.f2 T
      refine ⟨_, rfl, a, dx, _, rfl, d.ins, rfl, _, rfl, _, _, _, hi.sm d.same, rfl, at1, fun u hu => ?_⟩
      cases hu.toStr
      obtain ⟨j, e1, e2, e3, e4, e5⟩ := lk_place l (eOwn st.sh.m) (eOwn st.sh.n)
      refine ⟨H0, a, p, t, st, "lock", _, j, rfl, dd, .inr (.inl rfl), e1, e2, fun G g => ?_⟩
      have d1 := d.grow g
      exact ⟨l2, x2, _, j, rfl, rfl, d1.h2, ixN_nat (by rw [d1.r2.length]; exact e3), kk _ (d1.own e5 (.int _))⟩
    | unlock l =>
      refine tst_ne (a := "unlock") rfl (by decide +kernel) (iteF ?_)
      refine tst_eq (a := "unlock") rfl rfl (iteT ?_)
      refine ⟨_, rfl, _, rfl, _, _, _, hi.sm d.same, rfl, at1, fun u hu => ?_⟩
      cases hu.toStr
      refine ⟨H0, a, p, t, st, l, rfl, dd, fun G g => ?_⟩
      refine ⟨_, rfl, ?_⟩
      have d1 := d.grow g
      by_cases c : st.sh.own l = some t
      · rw [decide_eq_true c]
        refine iteF ?_
        have e6 : lokS (.unlock l) t st = ⟨st.sh.setOwn l none, st.ts⟩ := if_pos c
        have e7 : lokW (.unlock l) t st.sh = none := if_pos c
        rw [e6, e7] at kk
        refine ⟨_, rfl, ?_⟩
        apply d1.f2 T
        refine ⟨_, rfl, a, dx, _, rfl, d1.ins, rfl, _, rfl, _, _, _, hi.sm d1.same, rfl, at1, fun u hu => ?_⟩
        cases hu.toStr
        obtain ⟨j, e1, e2, e3, e4, e5⟩ := lk_place l (eOwn st.sh.m) (eOwn st.sh.n)
        refine ⟨H0, a, p, t, st, "lock", _, j, rfl, dd.grow g, .inr (.inl rfl), e1, e2, fun G2 g2 => ?_⟩
        have d2 := d1.grow g2
        exact ⟨l2, x2, _, j, rfl, rfl, d2.h2, ixN_nat (by rw [d2.r2.length]; exact e3), kk _ (d2.own e5 .non)⟩
      · rw [decide_eq_false c]
        have e6 : lokS (.unlock l) t st = st := if_neg c
        have e7 : lokW (.unlock l) t st.sh = some .owner := if_neg c
        rw [e6, e7] at kk
        exact iteT (kk _ (dd.grow g))
    | notify =>
      refine tst_ne (a := "notify") rfl (by decide +kernel) (iteF ?_)
      refine tst_ne (a := "notify") rfl (by decide +kernel) (iteF ?_)
      refine tst_eq (a := "notify") rfl rfl (iteT ?_)
      refine ⟨_, rfl, a, dx, _, rfl, d.ins, rfl, _, rfl, _, _, _, hi.sm d.same, rfl, at1, fun u hu => ?_⟩
      cases hu.toStr
      refine ⟨H0, a, p, t, 1, st, rfl, dd, hw1, hw2, fun G d' => kk _ d'⟩
    | notifyall =>
      refine tst_ne (a := "notifyall") rfl (by decide +kernel) (iteF ?_)
      refine tst_ne (a := "notifyall") rfl (by decide +kernel) (iteF ?_)
      refine tst_ne (a := "notifyall") rfl (by decide +kernel) (iteF ?_)
      refine tst_eq (a := "notifyall") rfl rfl (iteT ?_)
      refine ⟨_, rfl, a, dx, _, rfl, d.ins, rfl, _, rfl, _, _, _, hi.sm d.same, rfl, at1, fun u hu => ?_⟩
      cases hu.toStr
      refine ⟨_, rfl, ?_⟩
      apply d.f5 T
      refine ⟨l5, x5, rfl, .inl (SqL.of d.h5), ?_⟩
      rw [d.l5]
      exact ⟨H0, a, p, t, st.ts.length, st, rfl, dd, hw1, hw2, fun G d' => kk _ d'⟩
    | lett e =>
      refine tst_ne (a := "let") rfl (by decide +kernel) (iteF ?_)
      refine tst_ne (a := "let") rfl (by decide +kernel) (iteF ?_)
      refine tst_ne (a := "let") rfl (by decide +kernel) (iteF ?_)
      refine tst_ne (a := "let") rfl (by decide +kernel) (iteF ?_)
      exact kk _ dd
    | get r v =>
      refine tst_ne (a := "get") rfl (by decide +kernel) (iteF ?_)
      refine tst_ne (a := "get") rfl (by decide +kernel) (iteF ?_)
      refine tst_ne (a := "get") rfl (by decide +kernel) (iteF ?_)
      refine tst_ne (a := "get") rfl (by decide +kernel) (iteF ?_)
      exact kk _ dd
    | put v e =>
      refine tst_ne (a := "put") rfl (by decide +kernel) (iteF ?_)
      refine tst_ne (a := "put") rfl (by decide +kernel) (iteF ?_)
      refine tst_ne (a := "put") rfl (by decide +kernel) (iteF ?_)
      refine tst_ne (a := "put") rfl (by decide +kernel) (iteF ?_)
      exact kk _ dd
    | add v e =>
      refine tst_ne (a := "add") rfl (by decide +kernel) (iteF ?_)
      refine tst_ne (a := "add") rfl (by decide +kernel) (iteF ?_)
      refine tst_ne (a := "add") rfl (by decide +kernel) (iteF ?_)
      refine tst_ne (a := "add") rfl (by decide +kernel) (iteF ?_)
      exact kk _ dd
    | send e =>
      refine tst_ne (a := "send") rfl (by decide +kernel) (iteF ?_)
      refine tst_ne (a := "send") rfl (by decide +kernel) (iteF ?_)
      refine tst_ne (a := "send") rfl (by decide +kernel) (iteF ?_)
      refine tst_ne (a := "send") rfl (by decide +kernel) (iteF ?_)
      exact kk _ dd
    | take =>
      refine tst_ne (a := "take") rfl (by decide +kernel) (iteF ?_)
      refine tst_ne (a := "take") rfl (by decide +kernel) (iteF ?_)
      refine tst_ne (a := "take") rfl (by decide +kernel) (iteF ?_)
      refine tst_ne (a := "take") rfl (by decide +kernel) (iteF ?_)
      exact kk _ dd
    | check e =>
      refine tst_ne (a := "check") rfl (by decide +kernel) (iteF ?_)
      refine tst_ne (a := "check") rfl (by decide +kernel) (iteF ?_)
      refine tst_ne (a := "check") rfl (by decide +kernel) (iteF ?_)
      refine tst_ne (a := "check") rfl (by decide +kernel) (iteF ?_)
      exact kk _ dd
    | wait =>
      refine tst_ne (a := "wait") rfl (by decide +kernel) (iteF ?_)
      refine tst_ne (a := "wait") rfl (by decide +kernel) (iteF ?_)
      refine tst_ne (a := "wait") rfl (by decide +kernel) (iteF ?_)
      refine tst_ne (a := "wait") rfl (by decide +kernel) (iteF ?_)
      exact kk _ dd
    | go k e =>
      refine tst_ne (a := "go") rfl (by decide +kernel) (iteF ?_)
      refine tst_ne (a := "go") rfl (by decide +kernel) (iteF ?_)
      refine tst_ne (a := "go") rfl (by decide +kernel) (iteF ?_)
      refine tst_ne (a := "go") rfl (by decide +kernel) (iteF ?_)
      exact kk _ dd
    | beg =>
      refine tst_ne (a := "begin") rfl (by decide +kernel) (iteF ?_)
      refine tst_ne (a := "begin") rfl (by decide +kernel) (iteF ?_)
      refine tst_ne (a := "begin") rfl (by decide +kernel) (iteF ?_)
      refine tst_ne (a := "begin") rfl (by decide +kernel) (iteF ?_)
      exact kk _ dd
    | fin =>
      refine tst_ne (a := "end") rfl (by decide +kernel) (iteF ?_)
      refine tst_ne (a := "end") rfl (by decide +kernel) (iteF ?_)
      refine tst_ne (a := "end") rfl (by decide +kernel) (iteF ?_)
      refine tst_ne (a := "end") rfl (by decide +kernel) (iteF ?_)
      exact kk _ dd

def npc (i : In) (pc : Nat) (a : Int) : Nat := match i with
  | .go k e => if val (.go k e) a ≠ 0 then k else pc + 1
  | _ => pc + 1
/-- _next_pc: 0 instruction, 1 pc, 2 worth -/
abbrev s_next_pc : Stmt := top 52
theorem sc_next_pc : FnScope ["instruction", "pc", "worth"] ["instruction", "pc", "worth"] (defScope s_next_pc) := ⟨rfl, rfl, rfl, by decide +kernel, rfl, by decide +kernel, by decide +kernel⟩
def pNpc (ds : List D) (d : D) : Prop := ∃ i, ∃ pc : Nat, ∃ a : Int, ds = [eIn i, .int (pc : Int), eWorth i a] ∧ bad i a = false ∧ d = .int (npc i pc a : Int)
theorem ok_next_pc (T : Txt w K mg C) : Cal P w K mg base 1 "_next_pc" ["instruction", "pc", "worth"] (spR K pNpc) := by
  refine T.d_next_pc.ok sc_next_pc (fun vs H Q E h => ?_) (fun f cdv A outer s H vs Q E hr h => ?_)
  · obtain ⟨ds, d, hd, ⟨_, _, _, rfl, _⟩, _⟩ := h
    exact hd.length
  · obtain ⟨ds, d, hd, ⟨i, pc, a, rfl, hb, rfl⟩, k⟩ := h
    rcases hd with _ | ⟨h1, _ | ⟨h2, _ | ⟨h3, _ | _⟩⟩⟩
    cases h2.toInt
    refine ⟨_, (pss_cons (ps_if (PW.pt (pw_and (pt_cmpR op_eq (pe_ix ix_D (pv 0) pe_int (fun _ _ => rfl)) pe_str (nomark _)) (pw_and1 (pt_cmpR op_ne (pv 2) pe_int (nomark _)))))
          (pss_one (ps_ret (pe_ix ix_D (pv 0) pe_int (fun _ _ => rfl))))
          pss_nil)
        (pss_one (ps_ret (pe_op op_add (pv 1) pe_int)))), ?_⟩
    by_cases hg : ∃ k e, i = .go k e
    · obtain ⟨k', e, rfl⟩ := hg
      refine txt_eq rfl h1 at0 rfl (iteT ?_)
      cases worth_val h3 hb rfl
      refine ⟨_, rfl, rfl, _, rfl, ?_⟩
      by_cases c : val (.go k' e) a = 0
      · have e0 : npc (.go k' e) pc a = pc + 1 := if_neg (fun q => q c)
        rw [e0] at k
        rw [c]
        exact iteF ⟨_, rfl, _, _, rfl, rfl, k _ _ (Same.refl _) (.int _)⟩
      · have e0 : npc (.go k' e) pc a = k' := if_pos c
        rw [e0] at k
        rw [decide_eq_false (fun q => c (V.int.inj q))]
        exact iteT ⟨_, rfl, _, _, _, h1, rfl, at1, fun u hu => k _ _ (Same.refl _) hu⟩
    · have e0 : npc i pc a = pc + 1 := by
        cases i <;> first | rfl | exact absurd ⟨_, _, rfl⟩ hg
      have k1 : i.k ≠ "go" := by
        cases i <;> first | exact absurd ⟨_, _, rfl⟩ hg | (simp only [In.k, ne_eq]; decide +kernel)
      rw [e0] at k
      refine txt_ne rfl h1 at0 k1 (iteF (iteF ?_))
      exact ⟨_, rfl, _, _, rfl, rfl, k _ _ (Same.refl _) (.int _)⟩
end
end Ev

-- part EvW8
set_option maxHeartbeats 400000
set_option Elab.async false
set_option linter.all false
set_option maxRecDepth 100000
set_option maxHeartbeats 4000000
/-! The walks: a step. -/
namespace Ev
open PySem L2
theorem set_at {s : MS} {t : Nat} {x : Thr} (ht : t < s.ts.length) : (s.setT t x).at t = x := by
  unfold MS.setT MS.at
  rw [List.getD_eq_getElem?_getD, List.getElem?_set_self ht]
  rfl
theorem set_twice {s : MS} {t : Nat} {x y : Thr} : (s.setT t x).setT t y = s.setT t y := by
  unfold MS.setT
  rw [List.set_set]
theorem wake_set {ts : List Thr} {o : List Nat} {t : Nat} {x : Thr} (h : t ∉ o) : wakeL (ts.set t x) o = (wakeL ts o).set t x := by
  apply List.ext_getElem?
  intro k
  rw [wake_get, List.getElem?_set, List.getElem?_set, wake_get, wake_len]
  by_cases e : t = k
  · subst e
    by_cases hl : t < ts.length
    · simp [hl, h]
    · simp [hl]
  · simp [e]
theorem wake_at {sh : Sh} {ts : List Thr} {o : List Nat} {t : Nat} (h : t ∉ o) : (MS.mk sh (wakeL ts o)).at t = (MS.mk sh ts).at t := by
  unfold MS.at
  rw [List.getD_eq_getElem?_getD, List.getD_eq_getElem?_getD]
  show ((wakeL ts o)[t]?).getD _ = _
  rw [wake_get]
  cases ts[t]? <;> simp [h]
theorem nxt_nil {p : Prog} {s : MS} {t : Nat} (h : (out p s t).wk = []) : nxt p s t = ⟨(out p s t).sh, s.ts.set t (out p s t).th⟩ := by
  unfold nxt
  rw [h, wake_nil]
theorem fin_law {p : Prog} {s s1 : MS} {t k len : Nat} (hts : ∀ y, s1.ts.set t y = s.ts.set t y) (ho : out p s t = ⟨goTo len (s1.at t) k, s1.sh, [], none⟩) : (out p s t).wd = none ∧ nxt p s t = s1.setT t (goTo len (s1.at t) k) := by
  refine ⟨by rw [ho], ?_⟩
  unfold nxt MS.setT
  rw [ho]
  show MS.mk s1.sh (wakeL (s.ts.set t (goTo len (s1.at t) k)) []) = _
  rw [wake_nil, hts]
theorem fin_wake {p : Prog} {s s1 : MS} {t k len : Nat} {o : List Nat} (h : t ∉ o) (hts : s1.ts = wakeL s.ts o) (ho : out p s t = ⟨goTo len (s.at t) k, s1.sh, o, none⟩) : (out p s t).wd = none ∧ nxt p s t = s1.setT t (goTo len (s1.at t) k) := by
  have e : s1.at t = s.at t := by
    obtain ⟨sh, ts⟩ := s1
    cases hts
    exact wake_at h
  refine ⟨by rw [ho], ?_⟩
  unfold nxt MS.setT
  rw [ho, e]
  show MS.mk s1.sh (wakeL (s.ts.set t (goTo len (s.at t) k)) o) = _
  rw [wake_set h, hts]
theorem do_law {p : Prog} {s : MS} {t : Nat} {i : In} (hi : at' p s t = i) (w : WF p s) (hm : (s.at t).md = .run) (ht : t < s.ts.length) (hb : bad i (s.at t).a = false) (hw : i ≠ .wait) :
    (∃ wd, datW i (s.at t) s.sh = some wd ∧ (out p s t).wd = some wd ∧ datS i t s = s) ∨
    (datW i (s.at t) s.sh = none ∧ ((∃ wd, lokW i t (datS i t s).sh = some wd ∧ (out p s t).wd = some wd ∧ lokS i t (datS i t s) = s) ∨
      (lokW i t (datS i t s).sh = none ∧ (out p s t).wd = none ∧ nxt p s t = (lokS i t (datS i t s)).setT t (goTo (p.getD t []).length ((lokS i t (datS i t s)).at t) (npc i (s.at t).pc (s.at t).a))))) := by
  have hb' : ¬ bad i (s.at t).a = true := by rw [hb]; exact Bool.false_ne_true
  have ho : out p s t = act p.length (p.getD t []).length t i (s.at t) s.sh := by unfold out; rw [hi]
  have hnw : ∀ k, t ∉ s.sh.w.take k := fun k q => by
    have := w.inw t (List.mem_of_mem_take q)
    rw [hm] at this
    cases this
  have wn : wakeL s.ts [] = s.ts := wake_nil _
  cases i with
  | lett e =>
    exact .inr ⟨rfl, .inr ⟨rfl, fin_law (s1 := lokS (.lett e) t (datS (.lett e) t s)) (fun _ => List.set_set ..) (by rw [ho]; unfold act; rw [if_neg hb', show (lokS (.lett e) t (datS (.lett e) t s)).at t = _ from set_at (s := s) ht]; rfl)⟩⟩
  | get r v =>
    exact .inr ⟨rfl, .inr ⟨rfl, fin_law (s1 := lokS (.get r v) t (datS (.get r v) t s)) (fun _ => List.set_set ..) (by rw [ho]; unfold act; rw [if_neg hb', show (lokS (.get r v) t (datS (.get r v) t s)).at t = _ from set_at (s := s) ht]; cases r <;> rfl)⟩⟩
  | put v e =>
    exact .inr ⟨rfl, .inr ⟨rfl, fin_law (s1 := lokS (.put v e) t (datS (.put v e) t s)) (fun _ => rfl) (by rw [ho]; unfold act; rw [if_neg hb']; rfl)⟩⟩
  | add v e =>
    by_cases c : s.sh.var v + val (.add v e) (s.at t).a > 99 ∨ s.sh.var v + val (.add v e) (s.at t).a < -99
    · exact .inl ⟨.range, if_pos c, by rw [ho]; unfold act; rw [if_neg hb']; dsimp only; rw [if_pos c], if_pos c⟩
    · have e1 : datS (.add v e) t s = ⟨s.sh.setVar v (s.sh.var v + val (.add v e) (s.at t).a), s.ts⟩ := if_neg c
      rw [e1]
      exact .inr ⟨if_neg c, .inr ⟨rfl, fin_law (s1 := ⟨s.sh.setVar v (s.sh.var v + val (.add v e) (s.at t).a), s.ts⟩) (fun _ => rfl) (by rw [ho]; unfold act; rw [if_neg hb']; dsimp only; rw [if_neg c]; rfl)⟩⟩
  | lock l =>
    exact .inr ⟨rfl, .inr ⟨rfl, fin_law (s1 := lokS (.lock l) t (datS (.lock l) t s)) (fun _ => rfl) (by rw [ho]; unfold act; rw [if_neg hb']; rfl)⟩⟩
  | unlock l =>
    by_cases c : s.sh.own l = some t
    · have e1 : lokS (.unlock l) t (datS (.unlock l) t s) = ⟨s.sh.setOwn l none, s.ts⟩ := if_pos c
      rw [e1]
      exact .inr ⟨rfl, .inr ⟨if_pos c, fin_law (s1 := ⟨s.sh.setOwn l none, s.ts⟩) (fun _ => rfl) (by rw [ho]; unfold act; rw [if_neg hb']; dsimp only; rw [if_pos c]; rfl)⟩⟩
    · exact .inr ⟨rfl, .inl ⟨.owner, if_neg c, by rw [ho]; unfold act; rw [if_neg hb']; dsimp only; rw [if_neg c], if_neg c⟩⟩
  | wait => exact absurd rfl hw
  | notify =>
    exact .inr ⟨rfl, .inr ⟨rfl, fin_wake (s1 := lokS .notify t (datS .notify t s)) (hnw 1) rfl (by rw [ho]; unfold act; rw [if_neg hb']; rfl)⟩⟩
  | notifyall =>
    exact .inr ⟨rfl, .inr ⟨rfl, fin_wake (s1 := lokS .notifyall t (datS .notifyall t s)) (hnw s.ts.length) rfl (by rw [ho]; unfold act; rw [if_neg hb', ← w.len]; rfl)⟩⟩
  | send e =>
    exact .inr ⟨rfl, .inr ⟨rfl, fin_law (s1 := lokS (.send e) t (datS (.send e) t s)) (fun _ => rfl) (by rw [ho]; unfold act; rw [if_neg hb']; rfl)⟩⟩
  | take =>
    exact .inr ⟨rfl, .inr ⟨rfl, fin_law (s1 := lokS .take t (datS .take t s)) (fun _ => List.set_set ..) (by rw [ho]; unfold act; rw [if_neg hb', show (lokS .take t (datS .take t s)).at t = _ from set_at (s := s) ht]; rfl)⟩⟩
  | check e =>
    by_cases c : val (.check e) (s.at t).a = 0
    · exact .inl ⟨.check, if_pos c, by rw [ho]; unfold act; rw [if_neg hb']; dsimp only; rw [if_pos c], rfl⟩
    · exact .inr ⟨if_neg c, .inr ⟨rfl, fin_law (s1 := s) (fun _ => rfl) (by rw [ho]; unfold act; rw [if_neg hb']; dsimp only; rw [if_neg c]; rfl)⟩⟩
  | go k e =>
    refine .inr ⟨rfl, .inr ⟨rfl, fin_law (s1 := s) (fun _ => rfl) ?_⟩⟩
    rw [ho]
    unfold act
    rw [if_neg hb']
    show (if val (.go k e) (s.at t).a ≠ 0 then _ else _) = _
    by_cases c : val (.go k e) (s.at t).a ≠ 0
    · rw [if_pos c, show npc (.go k e) (s.at t).pc (s.at t).a = k from if_pos c]
    · rw [if_neg c, show npc (.go k e) (s.at t).pc (s.at t).a = (s.at t).pc + 1 from if_neg c]
  | beg =>
    exact .inr ⟨rfl, .inr ⟨rfl, fin_law (s1 := lokS .beg t (datS .beg t s)) (fun _ => rfl) (by rw [ho]; unfold act; rw [if_neg hb']; rfl)⟩⟩
  | fin =>
    exact .inr ⟨rfl, .inr ⟨rfl, fin_law (s1 := lokS .fin t (datS .fin t s)) (fun _ => rfl) (by rw [ho]; unfold act; rw [if_neg hb']; rfl)⟩⟩
theorem WF.wlt {p : Prog} {s : MS} (w : WF p s) : ∀ o ∈ s.sh.w, o < s.ts.length := fun o ho => by
  rcases Nat.lt_or_ge o s.ts.length with q | q
  · exact q
  · have := w.inw o ho
    rw [at_over q] at this
    cases this
theorem dat_w (i : In) (t : Nat) (s : MS) : (datS i t s).sh.w = s.sh.w ∧ (datS i t s).ts.length = s.ts.length := by
  cases i with
  | lett e => exact ⟨rfl, List.length_set⟩
  | get r v => exact ⟨rfl, List.length_set⟩
  | take => exact ⟨rfl, List.length_set⟩
  | put v e => cases v <;> exact ⟨rfl, rfl⟩
  | add v e =>
    unfold datS
    dsimp only
    split
    · exact ⟨rfl, rfl⟩
    · cases v <;> exact ⟨rfl, rfl⟩
  | _ => exact ⟨rfl, rfl⟩
theorem lok_len (i : In) (t : Nat) (s : MS) : (lokS i t s).ts.length = s.ts.length := by
  cases i with
  | unlock l => unfold lokS; dsimp only; split <;> rfl
  | notify => exact wake_len _ _
  | notifyall => exact wake_len _ _
  | _ => rfl
theorem nodup_le : ∀ {n : Nat} {l : List Nat}, l.Nodup → (∀ o ∈ l, o < n) → l.length ≤ n
  | 0, [], _, _ => Nat.le_refl _
  | 0, x :: _, _, h => absurd (h x List.mem_cons_self) (Nat.not_lt_zero _)
  | n + 1, l, nd, h => by
    have e : (l.erase n).length ≤ n := nodup_le (nd.erase n) fun o ho => by
      have h1 := h o (List.mem_of_mem_erase ho)
      have h2 : o ≠ n := fun q => by
        subst q
        exact (nd.not_mem_erase) ho
      omega
    have := List.length_erase (a := n) (l := l)
    split at this <;> omega
theorem WF.wlen {p : Prog} {s : MS} (w : WF p s) : s.sh.w.length ≤ p.length := nodup_le w.nd fun o ho => w.len ▸ w.wlt o ho
theorem act_wait {p : Prog} {s : MS} {t : Nat} (hi : at' p s t = .wait) : out p s t = if (s.at t).md = .woken then ⟨goTo (p.getD t []).length (s.at t) ((s.at t).pc + 1), { s.sh with m := some t }, [], none⟩
      else if s.sh.m = some t then ⟨{ s.at t with md := .wait }, { s.sh with m := none, w := s.sh.w ++ [t] }, [], none⟩
      else ⟨failed (s.at t) .owner, s.sh, [], some .owner⟩ := by
  unfold out
  rw [hi]
  rfl
theorem act_fail {n len t : Nat} {i : In} {th : Thr} {sh : Sh} {wd : Wd} (h : (act n len t i th sh).wd = some wd) : act n len t i th sh = ⟨failed th wd, sh, [], some wd⟩ := by
  unfold act at h ⊢
  by_cases hb : bad i th.a = true
  · rw [if_pos hb] at h ⊢
    cases h
    rfl
  · rw [if_neg hb] at h ⊢
    cases i with
    | add v e =>
      dsimp only at h ⊢
      split at h
      · rename_i c
        rw [if_pos c]
        cases h
        rfl
      · cases h
    | unlock l =>
      dsimp only at h ⊢
      split at h
      · cases h
      · rename_i c
        rw [if_neg c]
        cases h
        rfl
    | wait =>
      dsimp only at h ⊢
      split at h
      · cases h
      · rename_i c
        rw [if_neg c]
        split at h
        · cases h
        · rename_i c2
          rw [if_neg c2]
          cases h
          rfl
    | check e =>
      dsimp only at h ⊢
      split at h
      · rename_i c
        rw [if_pos c]
        cases h
        rfl
      · cases h
    | go k e =>
      dsimp only at h
      split at h <;> cases h
    | _ => cases h
theorem nxt_fail {p : Prog} {s : MS} {t : Nat} {wd : Wd} (h : (out p s t).wd = some wd) : nxt p s t = s.setT t (failed (s.at t) wd) := by
  have e : out p s t = _ := act_fail h
  unfold nxt
  rw [e]
  show MS.mk s.sh (wakeL _ []) = _
  rw [wake_nil]
  rfl
section
variable {P : Program} {w : World} {K : PySem.W.Frag} {mg : Str → Option Value} {base : Heap} {C : Addr}
/-- _do: 0 draft, 1 instruction, 2 mode, 3 worth, 4 pc, 5 lock, 6 word -/
abbrev s_do : Stmt := top 53
theorem sc_do : FnScope ["draft", "instruction", "mode", "worth", "pc", "lock", "word"] ["draft", "instruction", "mode", "worth"] (defScope s_do) := ⟨rfl, rfl, rfl, by decide +kernel, rfl, by decide +kernel, by decide +kernel⟩
def spDo (K : PySem.W.Frag) (C : Addr) : L2.Sp := fun vs H Q _ => ∃ (H0 : Hp) (a : Addr) (p : Prog) (t : Nat) (s : MS) (vi vw : V), vs = [.ref a, vi, .str (s.at t).md.s, vw] ∧ DraftAt K C H0 H a p t s ∧ Rp K H0 vi (eIn (at' p s t)) ∧ Rp K H0 vw (eWorth (at' p s t) (s.at t).a) ∧
  bad (at' p s t) (s.at t).a = false ∧ p.length < 1000 ∧ WF p s ∧ en p s t = true ∧
  ∀ H', DraftAt K C H0 H' a p t (if (out p s t).wd = none then nxt p s t else s) → Q (vW (out p s t).wd) H'
theorem ok_do (T : Txt w K mg C) : Cal P w K mg base 6 "_do" ["draft", "instruction", "mode", "worth"] (spDo K C) := by
  obtain ⟨f_place, fd_place, G_place, M_place, b_place⟩ := ok_Draft_place (P := P) (base := base) T
  obtain ⟨f_go, fd_go, G_go, M_go, b_go⟩ := ok_Draft_go (P := P) (base := base) T
  obtain ⟨f_end, fd_end, G_end, M_end, b_end⟩ := ok_Draft_end (P := P) (base := base) T
  obtain ⟨f_begin_wait, fd_begin_wait, G_begin_wait, M_begin_wait, b_begin_wait⟩ := ok_Draft_begin_wait (P := P) (base := base) T
  refine T.d_do.ok sc_do (fun vs H Q E h => ?_) (fun f cdv A outer s H vs Q E hr h => ?_)
  · obtain ⟨_, _, _, _, _, _, _, rfl, _⟩ := h
    rfl
  · obtain ⟨H0, a, p, t, st, vi, vw, rfl, dd, hi, hw, hb, hps, wf, he, kk⟩ := h
    have ht := en_lt he
    have htp : t < p.length := wf.len ▸ ht
    have d := dd
    obtain ⟨vp, dx, l1, l2, l3, l4, l5, x1, x2, x3, x4, x5, d⟩ := d
    refine ⟨_, (pss_cons (ps_set (i := 4) sc_do.nd rfl (Or.inl rfl) (pe_ix ix_D (pe_ix ix_LD (pe_fld (pv 0) rfl) (pe_fld (pv 0) rfl) (fun _ _ => rfl)) pe_int (fun _ _ => rfl)))
        (pss_cons (ps_if (pt_cmpR op_eq (pe_ix ix_D (pv 1) pe_int (fun _ _ => rfl)) pe_str (nomark _))
          (pss_cons (ps_set (i := 5) sc_do.nd rfl (Or.inl rfl) (pe_own (ok_lock_of T) (hr.mono (by decide)) rfl (pa_cons (pe_fld (pv 0) rfl) (pa_cons (pe_ix ix_D (pv 1) pe_int (fun _ _ => rfl)) pa_nil))))
          (pss_cons (ps_if (pt_cmpR op_eq (pv 2) (pe_gs rfl T.g_WOKEN) (nomark _))
            (pss_cons (ps_asg (pe_fld (pv 0) rfl) (pg_sub (pe_fld (pv 0) rfl) (pe_meth (pv 0) T.cl M_place G_place (hr.mono (by decide)) b_place .nil pass0 (pa_cons pe_str (pa_cons (pv 5) pa_nil))) set_list))
            (pss_one (ps_expr (pe_meth (pv 0) T.cl M_go G_go (hr.mono (by decide)) b_go .nil pass0 (pa_cons (pe_op op_add (pv 4) pe_int) pa_nil)))))
            (pss_one (ps_if (pt_val (pe_own (ok_owns T) (hr.mono (by decide)) rfl (pa_cons (pv 0) (pa_cons (pv 5) pa_nil))))
              (pss_one (ps_expr (pe_meth (pv 0) T.cl M_begin_wait G_begin_wait (hr.mono (by decide)) b_begin_wait .nil pass0 (pa_cons (pe_ix ix_D (pv 1) pe_int (fun _ _ => rfl)) pa_nil))))
              (pss_one (ps_ret pe_str)))))
          (pss_one (ps_ret pe_non))))
          pss_nil)
        (pss_cons (ps_if (pt_cmpR op_eq (pe_ix ix_D (pv 1) pe_int (fun _ _ => rfl)) pe_str (nomark _))
          (pss_cons (ps_expr (pe_meth (pv 0) T.cl M_go G_go (hr.mono (by decide)) b_go .nil pass0 (pa_cons (pe_op op_add (pv 4) pe_int) pa_nil)))
          (pss_cons (ps_expr (pe_meth (pv 0) T.cl M_end G_end (hr.mono (by decide)) b_end .nil pass0 (pa_cons pe_non pa_nil)))
          (pss_one (ps_ret pe_non))))
          pss_nil)
        (pss_cons (ps_set (i := 6) sc_do.nd rfl (Or.inl rfl) (pe_own (ok_do_data T) (hr.mono (by decide)) rfl (pa_cons (pv 0) (pa_cons (pv 1) (pa_cons (pv 3) pa_nil)))))
        (pss_cons (ps_if (pt_cmpR op_isN (pv 6) pe_non (nomark _))
          (pss_one (ps_set (i := 6) sc_do.nd rfl (Or.inl rfl) (pe_own (ok_do_lock T) (hr.mono (by decide)) rfl (pa_cons (pv 0) (pa_cons (pv 1) pa_nil)))))
          pss_nil)
        (pss_cons (ps_if (pt_cmpR op_isN (pv 6) pe_non (nomark _))
          (pss_one (ps_expr (pe_meth (pv 0) T.cl M_go G_go (hr.mono (by decide)) b_go .nil pass0 (pa_cons (pe_own (ok_next_pc T) (hr.mono (by decide)) rfl (pa_cons (pv 1) (pa_cons (pv 4) (pa_cons (pv 3) pa_nil)))) pa_nil))))
          pss_nil)
        (pss_one (ps_ret (pv 6))))))))), ?_⟩
    refine ⟨_, rfl, ?_⟩
    apply d.f5 T
    refine ⟨_, rfl, ?_⟩
    apply d.ft T
    refine ⟨l5, x5, _, _, _, rfl, rfl, SqL.of d.h5, d.r5, at_mapD (d := Thr.d) ht, fun u hu => ?_⟩
    refine ⟨_, _, _, hu, rfl, at0, fun u hu => ?_⟩
    cases hu.toInt
    by_cases hwt : at' p st t = .wait
    · rw [hwt] at hi
      refine txt_eq rfl (hi.sm d.same) at0 rfl (iteT ?_)
      have ho := act_wait hwt
      refine ⟨_, rfl, ?_⟩
      apply d.fp T
      refine ⟨_, rfl, _, _, _, hi.sm d.same, rfl, at1, fun u hu => ?_⟩
      refine ⟨_, _, .cons d.prog (.cons hu .nil), ⟨p, rfl, rfl⟩, fun G v g hv => ?_⟩
      cases hv.toStr
      have d1 := d.grow g
      have dd1 := dd.grow g
      by_cases hk : (st.at t).md = .woken
      · rw [if_pos hk] at ho
        refine tst_eq (a := (st.at t).md.s) rfl (by rw [hk]; rfl) (iteT ?_)
        refine ⟨_, rfl, ?_⟩
        apply d1.ft T
        refine ⟨_, rfl, ?_⟩
        apply d1.f2 T
        refine ⟨_, rfl, a, dx, _, rfl, d1.ins, rfl, _, rfl, ?_⟩
        obtain ⟨j, e1, e2, e3, e4, e5⟩ := lk_place .m (eOwn st.sh.m) (eOwn st.sh.n)
        refine ⟨H0, a, p, t, st, "lock", "m", j, rfl, dd1, .inr (.inl rfl), e1, e2, fun G2 g2 => ?_⟩
        have d2 := d1.grow g2
        refine ⟨l2, x2, _, j, rfl, rfl, d2.h2, ixN_nat (by rw [d2.r2.length]; exact e3), ?_⟩
        have d3 := d2.own (l := .m) (o := some t) (v := .int (t : Int)) e5 (.int _)
        generalize upd G2 l2 (.lst (x2.set j (.int (t : Int)))) = G3 at d3
        have d3' := d3
        obtain ⟨vp, dx, l1, l2, l3, l4, l5, x1, x2, x3, x4, x5, d3'⟩ := d3'
        refine ⟨_, rfl, a, dx, _, rfl, d3'.ins, rfl, _, rfl, _, _, rfl, rfl, ?_⟩
        refine ⟨H0, a, p, t, (st.at t).pc + 1, _, rfl, d3, ht, htp, fun G4 d4 => ?_⟩
        have := kk G4
        rw [(fin_law (s := st) (s1 := ⟨st.sh.setOwn .m (some t), st.ts⟩) (k := (st.at t).pc + 1) (len := (p.getD t []).length) (fun _ => rfl) ho).2, ho] at this
        exact this d4
      · rw [if_neg hk] at ho
        have hk' : (st.at t).md.s ≠ "woken" := fun q => hk (Md.s_inj (b := .woken) q)
        refine tst_ne (a := (st.at t).md.s) rfl hk' (iteF ?_)
        refine ⟨_, rfl, _, rfl, H0, a, p, t, st, .m, rfl, dd1, fun G2 g2 => ?_⟩
        refine ⟨_, rfl, ?_⟩
        have d2 := d1.grow g2
        have dd2 := dd1.grow g2
        by_cases c : st.sh.own .m = some t
        · rw [decide_eq_true c]
          refine iteT ?_
          have c' : st.sh.m = some t := c
          rw [if_pos c'] at ho
          refine ⟨_, rfl, a, dx, _, rfl, d2.ins, rfl, _, rfl, _, _, _, hi.sm d2.same, rfl, at1, fun u hu => ?_⟩
          cases hu.toStr
          refine ⟨H0, a, p, t, st, rfl, dd2, ht, Nat.lt_of_le_of_lt wf.wlen hps, fun G4 d4 => ?_⟩
          have := kk G4
          have e : nxt p st t = MS.setT ⟨{ st.sh with m := none, w := st.sh.w ++ [t] }, st.ts⟩ t { st.at t with md := .wait } := by
            unfold nxt MS.setT
            rw [ho]
            show MS.mk _ (wakeL _ []) = _
            rw [wake_nil]
          rw [e, ho] at this
          exact this d4
        · rw [decide_eq_false c]
          refine iteF ?_
          have c' : ¬ st.sh.m = some t := c
          rw [if_neg c'] at ho
          have := kk G2
          rw [ho] at this
          exact this dd2
    · have k1 : (at' p st t).k ≠ "wait" := by
        cases hh : at' p st t <;> first | exact absurd hh hwt | (simp only [In.k, ne_eq]; decide +kernel)
      have k2 : (at' p st t).k ≠ "stop" := by
        cases hh : at' p st t <;> (simp only [In.k, ne_eq]; decide +kernel)
      refine txt_ne rfl (hi.sm d.same) at0 k1 (iteF ?_)
      refine txt_ne rfl (hi.sm d.same) at0 k2 (iteF ?_)
      have hm : (st.at t).md = .run := by
        rcases en_mode wf he with q | q
        · exact q
        · exact absurd q.1 hwt
      have L := do_law rfl wf hm ht hb hwt
      have hq : at' p st t = .take → st.sh.q ≠ [] := fun q z => by
        have := (en_iff.mp he).2
        unfold need at this
        rw [hm, q] at this
        have hb2 : bad .take (st.at t).a = false := rfl
        simp only [hb2, z] at this
        cases this
      refine ⟨_, rfl, _, rfl, _, rfl, ?_⟩
      refine ⟨H0, a, p, t, st, _, _, _, rfl, dd, hi, hw, hb, ht, hq, Nat.lt_of_le_of_lt wf.ql (by decide), fun G1 d1 => ?_⟩
      rcases L with ⟨wd, e1, e2, e3⟩ | ⟨e1, L⟩
      · rw [e1]
        rw [e3] at d1
        refine ⟨_, rfl, rfl, _, rfl, iteF ?_⟩
        refine ⟨_, rfl, rfl, _, rfl, iteF ?_⟩
        have := kk G1
        rw [e2] at this
        exact ⟨_, rfl, this d1⟩
      · rw [e1]
        refine ⟨_, rfl, rfl, _, rfl, iteT ?_⟩
        refine ⟨_, rfl, _, rfl, ?_⟩
        have w1 : (datS (at' p st t) t st).sh.w = st.sh.w ∧ (datS (at' p st t) t st).ts.length = st.ts.length := by
          exact dat_w _ _ _
        refine ⟨H0, a, p, t, _, _, _, rfl, d1, hi, ?_, ?_, fun G2 d2 => ?_⟩
        · rw [w1.1, w1.2]; exact wf.wlt
        · rw [w1.1]; exact wf.nd
        rcases L with ⟨wd, e4, e5, e6⟩ | ⟨e4, e5, e6⟩
        · rw [e4]
          rw [e6] at d2
          refine ⟨_, rfl, rfl, _, rfl, iteF ?_⟩
          have := kk G2
          rw [e5] at this
          exact ⟨_, rfl, this d2⟩
        · rw [e4]
          refine ⟨_, rfl, rfl, _, rfl, iteT ?_⟩
          have d2' := d2
          obtain ⟨vp, dx, l1, l2, l3, l4, l5, x1, x2, x3, x4, x5, d2'⟩ := d2'
          refine ⟨_, rfl, a, dx, _, rfl, d2'.ins, rfl, _, rfl, _, rfl, _, rfl, ?_⟩
          refine ⟨_, _, .cons (hi.sm d2'.same) (.cons (.int _) (.cons (hw.sm d2'.same) .nil)), ⟨_, _, _, rfl, hb, rfl⟩, fun G3 v g3 hv => ?_⟩
          cases hv.toInt
          refine ⟨H0, a, p, t, _, _, rfl, d2.grow g3, ?_, htp, fun G4 d4 => ?_⟩
          · rw [lok_len, (dat_w _ _ _).2]
            exact ht
          have := kk G4
          rw [e5, if_pos rfl, e6] at this
          exact ⟨_, rfl, this d4⟩

/-- make_step: 0 program, 1 state, 2 thread, 3 instruction, 4 pc, 5 registers, 6 mode, 7 old, 8 worth, 9 draft, 10 word -/
abbrev s_make_step : Stmt := top 54
theorem sc_make_step : FnScope ["program", "state", "thread", "instruction", "pc", "registers", "mode", "old", "worth", "draft", "word"] ["program", "state", "thread"] (defScope s_make_step) := ⟨rfl, rfl, rfl, by decide +kernel, rfl, by decide +kernel, by decide +kernel⟩
def pMk (ds : List D) (d : D) : Prop := ∃ p s t, ds = [eProg p, eSt s, dI t] ∧ p.length < 1000 ∧ WF p s ∧ en p s t = true ∧ d = .tuple [eSt (nxt p s t), eSp (stp p s t)]
theorem ok_make_step (T : Txt w K mg C) : Cal P w K mg base 9 "make_step" ["program", "state", "thread"] (spR K pMk) := by
  obtain ⟨f_Draft, fd_Draft, G_Draft, M_Draft, b_Draft⟩ := ok_Draft___init__ (P := P) (base := base) T
  obtain ⟨f_end, fd_end, G_end, M_end, b_end⟩ := ok_Draft_end (P := P) (base := base) T
  obtain ⟨f_state, fd_state, G_state, M_state, b_state⟩ := ok_Draft_state (P := P) (base := base) T
  refine T.d_make_step.ok sc_make_step (fun vs H Q E h => ?_) (fun f cdv A outer s H vs Q E hr h => ?_)
  · obtain ⟨ds, d, hd, ⟨_, _, _, rfl, _⟩, _⟩ := h
    exact hd.length
  · obtain ⟨ds, d, hd, ⟨p, st, t, rfl, hps, wf, he, rfl⟩, k⟩ := h
    have ht := en_lt he
    have htp : t < p.length := wf.len ▸ ht
    rcases hd with _ | ⟨h1, _ | ⟨h2, _ | ⟨h3, _ | _⟩⟩⟩
    cases h3.toInt
    refine ⟨_, (pss_cons (ps_set (i := 3) sc_make_step.nd rfl (Or.inl rfl) (pe_own (ok_instruction_at T) (hr.mono (by decide)) rfl (pa_cons (pv 0) (pa_cons (pv 1) (pa_cons (pv 2) pa_nil)))))
        (pss_cons (ps_asg (pe_ix ix_D (pe_ix ix_D (pv 1) pe_int (fun _ _ => rfl)) (pv 2) (fun _ _ => rfl)) (pg_tup rfl (pgs_cons (pg_name (i := 4) sc_make_step.nd rfl (Or.inl rfl)) (pgs_cons (pg_name (i := 5) sc_make_step.nd rfl (Or.inl rfl)) (pgs_cons (pg_name (i := 6) sc_make_step.nd rfl (Or.inl rfl)) (pgs_cons (pg_name (i := 7) sc_make_step.nd rfl (Or.inl rfl)) pgs_nil))))))
        (pss_cons (ps_set (i := 8) sc_make_step.nd rfl (Or.inl rfl) (pe_own (ok_worth T) (hr.mono (by decide)) rfl (pa_cons (pv 0) (pa_cons (pv 1) (pa_cons (pv 2) pa_nil)))))
        (pss_cons (ps_set (i := 9) sc_make_step.nd rfl (Or.inl rfl) (pe_make M_Draft G_Draft (hr.mono (by decide)) rfl T.mgC b_Draft .nil pass0 (pa_cons (pv 0) (pa_cons (pv 1) (pa_cons (pv 2) pa_nil)))))
        (pss_cons (ps_if (pt_cmpR op_eq (pv 8) pe_str (nomark _))
          (pss_cons (ps_expr (pe_meth (pv 9) T.cl M_end G_end (hr.mono (by decide)) b_end .nil pass0 (pa_cons pe_str pa_nil)))
          (pss_one (ps_ret (pe_tupN (pa_cons (pe_meth0 (pv 9) T.cl M_state G_state (hr.mono (by decide)) b_state .nil pass0) (pa_cons (pe_tupN (pa_cons (pv 2) (pa_cons (pv 4) (pa_cons (pe_tupN pa_nil) (pa_cons pe_str pa_nil))))) pa_nil))))))
          pss_nil)
        (pss_cons (ps_set (i := 10) sc_make_step.nd rfl (Or.inl rfl) (pe_own (ok_do T) (hr.mono (by decide)) rfl (pa_cons (pv 9) (pa_cons (pv 3) (pa_cons (pv 6) (pa_cons (pv 8) pa_nil))))))
        (pss_cons (ps_if (pt_cmpR op_notN (pv 10) pe_non (nomark _))
          (pss_one (ps_expr (pe_meth (pv 9) T.cl M_end G_end (hr.mono (by decide)) b_end .nil pass0 (pa_cons (pv 10) pa_nil))))
          pss_nil)
        (pss_one (ps_ret (pe_tupN (pa_cons (pe_meth0 (pv 9) T.cl M_state G_state (hr.mono (by decide)) b_state .nil pass0) (pa_cons (pe_tupN (pa_cons (pv 2) (pa_cons (pv 4) (pa_cons (pe_own (ok_touches T) (hr.mono (by decide)) rfl (pa_cons (pv 0) (pa_cons (pv 3) (pa_cons (pv 6) pa_nil)))) (pa_cons (pv 10) pa_nil))))) pa_nil)))))))))))), ?_⟩
    have hpc := wf.pc t htp (en_iff.mp he).1
    refine ⟨_, rfl, _, rfl, _, rfl, ?_⟩
    refine ⟨_, _, .cons h1 (.cons h2 (.cons h3 .nil)), ⟨p, st, t, rfl, htp, wf.len, hpc, rfl⟩, fun G1 vi g1 hvi => ?_⟩
    have h1 := h1.sm g1
    have h2 := h2.sm g1
    refine ⟨_, rfl, _, _, _, h2, rfl, atI_nat (j := 4) rfl, fun u1 hu1 => ?_⟩
    refine ⟨_, rfl, _, _, _, hu1, rfl, at_ts wf.len htp, fun u2 hu2 => ?_⟩
    refine gtup_D hu2 rfl fun xs hxs => ?_
    rcases hxs with _ | ⟨q1, _ | ⟨q2, _ | ⟨q3, _ | ⟨q4, _ | _⟩⟩⟩⟩
    refine ⟨_, _, rfl, _, _, rfl, _, _, rfl, _, _, rfl, rfl, ?_⟩
    cases q1.toInt
    cases q3.toStr
    refine ⟨_, rfl, _, rfl, _, rfl, ?_⟩
    refine ⟨_, _, .cons h1 (.cons h2 (.cons (.int _) .nil)), ⟨p, st, t, rfl, htp, wf, hpc, rfl⟩, fun G2 vw g2 hvw => ?_⟩
    have h1 := h1.sm g2
    have h2 := h2.sm g2
    have hvi := hvi.sm g2
    have g12 := g1.trans g2
    refine ⟨_, rfl, _, rfl, _, rfl, fun a dx ha hdx hne => ?_⟩
    have ha' : upd G2 dx (.own a) a = none := by rw [upd_ne hne.symm]; exact ha
    have sm : Same G2 (upd (upd G2 dx (.own a)) a (.ins C dx [])) := (Same.new0 hdx).new ha'
    have ha2 : upd (upd G2 dx (.own a)) a (.ins C dx []) a = some (.ins C dx []) := upd_same
    generalize upd (upd G2 dx (.own a)) a (.ins C dx []) = G3 at sm ha2
    refine ⟨G2, a, dx, p, t, st, _, _, rfl, sm, ha, ha2, (RpAll.cons h1 (.cons h2 .nil)).sm sm, fun G4 d4 => ⟨rfl, ?_⟩⟩
    obtain ⟨sc, sd⟩ := worth_bad hvw
    refine ⟨_, rfl, sc, _, rfl, ?_⟩
    rw [sd]
    by_cases hb : bad (at' p st t) (st.at t).a = true
    · rw [hb]
      refine iteT ?_
      have hwd : (out p st t).wd = some .range := by unfold out act; rw [if_pos hb]
      have hto : touch (at' p st t) (st.at t) = [] := by unfold touch; rw [if_pos hb]
      have d4' := d4
      obtain ⟨vp, dx, l1, l2, l3, l4, l5, x1, x2, x3, x4, x5, d4'⟩ := d4'
      refine ⟨_, rfl, a, dx, _, rfl, d4'.ins, rfl, ?_⟩
      refine ⟨G2, a, p, t, .range, st, rfl, d4, ht, fun G5 d5 => ?_⟩
      rw [← nxt_fail hwd] at d5
      have d5' := d5
      obtain ⟨vp, dx, l1, l2, l3, l4, l5, x1, x2, x3, x4, x5, d5'⟩ := d5'
      refine ⟨_, rfl, a, dx, _, rfl, d5'.ins, rfl, ?_⟩
      refine ⟨G2, a, p, t, _, rfl, d5, fun G6 v6 g6 hv6 => ?_⟩
      refine ⟨_, rfl, _, rfl, _, .nil, by show 0 < 1000; decide, fun v7 G7 g7 hv7 => ?_⟩
      refine ⟨_, .cons (.int _) (.cons (.int _) (.cons hv7 (.cons (.str _) .nil))), by show 4 < 1000; decide, fun v8 G8 g8 hv8 => ?_⟩
      refine ⟨_, .cons (hv6.sm (g7.trans g8)) (.cons hv8 .nil), by show 2 < 1000; decide, fun v9 G9 g9 hv9 => ?_⟩
      refine k _ _ ((((g12.trans d5.same).trans g6).trans (g7.trans g8)).trans g9) ?_
      have e : stp p st t = ⟨t, (st.at t).pc, [], some .range⟩ := by unfold stp; rw [hto, hwd]
      rw [e]
      exact hv9
    · have hb' : bad (at' p st t) (st.at t).a = false := by simpa using hb
      rw [hb']
      refine iteF ?_
      refine ⟨_, rfl, _, rfl, _, rfl, _, rfl, ?_⟩
      refine ⟨G2, a, p, t, st, _, _, rfl, d4, hvi, hvw, hb', hps, wf, he, fun G5 d5 => ?_⟩
      cases hwd : (out p st t).wd with
      | none =>
        rw [hwd, if_pos rfl] at d5
        refine ⟨_, rfl, rfl, _, rfl, iteF ?_⟩
        have d6 := d5
        have d6' := d6
        obtain ⟨vp, dx, l1, l2, l3, l4, l5, x1, x2, x3, x4, x5, d6'⟩ := d6'
        refine ⟨_, rfl, a, dx, _, rfl, d6'.ins, rfl, ?_⟩
        refine ⟨G2, a, p, t, _, rfl, d6, fun G7 v7 g7 hv7 => ?_⟩
        have g7' := d6.same.trans g7
        refine ⟨_, rfl, _, rfl, _, rfl, _, rfl, _, rfl, ?_⟩
        refine ⟨_, _, .cons (h1.sm g7') (.cons (hvi.sm g7') (.cons (.str _) .nil)), ⟨p, _, st.at t, rfl, hb', rfl⟩, fun G8 v8 g8 hv8 => ?_⟩
        refine ⟨_, rfl, _, .cons (.int _) (.cons (.int _) (.cons hv8 (.cons (.non) .nil))), by show 4 < 1000; decide, fun v9 G9 g9 hv9 => ?_⟩
        refine ⟨_, .cons (hv7.sm (g8.trans g9)) (.cons hv9 .nil), by show 2 < 1000; decide, fun v10 G10 g10 hv10 => ?_⟩
        refine k _ _ ((((g12.trans d6.same).trans g7).trans (g8.trans g9)).trans g10) ?_
        have e : stp p st t = ⟨t, (st.at t).pc, touch (at' p st t) (st.at t), none⟩ := by unfold stp; rw [hwd]
        rw [e]
        exact hv10
      | some wd =>
        rw [hwd, if_neg (fun q => nomatch q)] at d5
        refine ⟨_, rfl, rfl, _, rfl, iteT ?_⟩
        have d5' := d5
        obtain ⟨vp, dx, l1, l2, l3, l4, l5, x1, x2, x3, x4, x5, d5'⟩ := d5'
        refine ⟨_, rfl, a, dx, _, rfl, d5'.ins, rfl, _, rfl, ?_⟩
        refine ⟨G2, a, p, t, wd, st, rfl, d5, ht, fun G6 d6 => ?_⟩
        rw [← nxt_fail hwd] at d6
        have d6' := d6
        obtain ⟨vp, dx, l1, l2, l3, l4, l5, x1, x2, x3, x4, x5, d6'⟩ := d6'
        refine ⟨_, rfl, a, dx, _, rfl, d6'.ins, rfl, ?_⟩
        refine ⟨G2, a, p, t, _, rfl, d6, fun G7 v7 g7 hv7 => ?_⟩
        have g7' := d6.same.trans g7
        refine ⟨_, rfl, _, rfl, _, rfl, _, rfl, _, rfl, ?_⟩
        refine ⟨_, _, .cons (h1.sm g7') (.cons (hvi.sm g7') (.cons (.str _) .nil)), ⟨p, _, st.at t, rfl, hb', rfl⟩, fun G8 v8 g8 hv8 => ?_⟩
        refine ⟨_, rfl, _, .cons (.int _) (.cons (.int _) (.cons hv8 (.cons (.str _) .nil))), by show 4 < 1000; decide, fun v9 G9 g9 hv9 => ?_⟩
        refine ⟨_, .cons (hv7.sm (g8.trans g9)) (.cons hv9 .nil), by show 2 < 1000; decide, fun v10 G10 g10 hv10 => ?_⟩
        refine k _ _ ((((g12.trans d6.same).trans g7).trans (g8.trans g9)).trans g10) ?_
        have e : stp p st t = ⟨t, (st.at t).pc, touch (at' p st t) (st.at t), some wd⟩ := by unfold stp; rw [hwd]
        rw [e]
        exact hv10
end
end Ev

-- part EvW9
set_option maxHeartbeats 400000
set_option Elab.async false
set_option linter.all false
set_option maxRecDepth 100000
set_option maxHeartbeats 4000000
/-! The walks: the order of the steps, the blocks. -/
namespace Ev
open PySem L2
theorem room1 {k : Nat} {A : Around} (r : Room k A) : A.units + 1 < cLine := by have := r.un; omega
/-- the keys of a dict of whole numbers -/
def KS (kvs : List (Key × V)) (S : Nat → Prop) : Prop := ∃ ks : List Nat, kvs.map (·.1) = ks.map (fun k : Nat => Sum.inl (k : Int)) ∧ ks.Nodup ∧ ∀ k, k ∈ ks ↔ S k
theorem KS.nil : KS [] (fun _ => False) := ⟨[], rfl, List.nodup_nil, fun k => by simp⟩
theorem KS.cg {kvs : List (Key × V)} {S S' : Nat → Prop} (h : KS kvs S) (e : ∀ k, S k ↔ S' k) : KS kvs S' := by
  obtain ⟨ks, a, b, c⟩ := h
  exact ⟨ks, a, b, fun k => (c k).trans (e k)⟩
theorem KS.put {kvs : List (Key × V)} {S : Nat → Prop} {j : Nat} {v : V} (h : KS kvs S) : KS (putK kvs (Sum.inl (j : Int)) v) (fun k => S k ∨ k = j) := by
  obtain ⟨ks, a, b, c⟩ := h
  unfold putK
  have hany : (kvs.any fun kv => decide (kv.1 = Sum.inl (j : Int))) = true ↔ j ∈ ks := by
    rw [List.any_eq_true]
    constructor
    · rintro ⟨x, hx, e⟩
      have e := of_decide_eq_true e
      have : x.1 ∈ kvs.map (·.1) := List.mem_map_of_mem hx
      rw [a, e] at this
      obtain ⟨k, hk, q⟩ := List.mem_map.mp this
      have : k = j := by have := Sum.inl.inj q; omega
      exact this ▸ hk
    · intro hj
      have : (Sum.inl (j : Int) : Key) ∈ kvs.map (·.1) := by rw [a]; exact List.mem_map_of_mem (f := fun k : Nat => (Sum.inl (k : Int) : Key)) hj
      obtain ⟨x, hx, e⟩ := List.mem_map.mp this
      exact ⟨x, hx, decide_eq_true e⟩
  by_cases hj : j ∈ ks
  · rw [if_pos (hany.mpr hj)]
    refine ⟨ks, ?_, b, fun k => (c k).trans ⟨.inl, fun q => q.elim id fun e => e ▸ (c j).mp hj⟩⟩
    rw [← a, List.map_map]
    apply List.map_congr_left
    intro kv _
    show (if kv.1 = _ then (kv.1, v) else kv).1 = kv.1
    split <;> rfl
  · rw [if_neg (fun q => hj (hany.mp q))]
    refine ⟨ks ++ [j], by rw [List.map_append, List.map_append, a]; rfl, ?_, fun k => ?_⟩
    · rw [List.nodup_append]
      exact ⟨b, by simp, fun x hx y hy e => hj (by rw [List.mem_singleton] at hy; rw [← hy, ← e]; exact hx)⟩
    · rw [List.mem_append, c, List.mem_singleton]
theorem KS.len {kvs : List (Key × V)} {S : Nat → Prop} {n : Nat} (h : KS kvs S) (hn : ∀ k, S k → k < n) : kvs.length ≤ n := by
  obtain ⟨ks, a, b, c⟩ := h
  have : ks.length ≤ n := nodup_le b fun o ho => hn o ((c o).mp ho)
  have e := congrArg List.length a
  rw [List.length_map, List.length_map] at e
  omega
theorem asc_eq : ∀ {l m : List Nat}, l.Pairwise (· < ·) → m.Pairwise (· < ·) → (∀ k, k ∈ l ↔ k ∈ m) → l = m
  | [], [], _, _, _ => rfl
  | [], b :: m, _, _, h => absurd ((h b).mpr List.mem_cons_self) (fun q => nomatch q)
  | a :: l, [], _, _, h => absurd ((h a).mp List.mem_cons_self) (fun q => nomatch q)
  | a :: l, b :: m, hl, hm, h => by
    obtain ⟨l1, l2⟩ := List.pairwise_cons.mp hl
    obtain ⟨m1, m2⟩ := List.pairwise_cons.mp hm
    have e : a = b := by
      rcases List.mem_cons.mp ((h a).mp List.mem_cons_self) with q | q
      · exact q
      · rcases List.mem_cons.mp ((h b).mpr List.mem_cons_self) with r | r
        · exact r.symm
        · have := m1 a q; have := l1 b r; omega
    subst e
    rw [asc_eq l2 m2 fun k => ?_]
    constructor
    · intro q
      rcases List.mem_cons.mp ((h k).mp (List.mem_cons_of_mem _ q)) with r | r
      · have := l1 k q; omega
      · exact r
    · intro q
      rcases List.mem_cons.mp ((h k).mpr (List.mem_cons_of_mem _ q)) with r | r
      · have := m1 k q; omega
      · exact r
theorem row_asc (R : List Stp) (F : List (List Nat)) (j : Nat) : (row R F j).Pairwise (· < ·) := List.Pairwise.filter _ List.pairwise_lt_range
theorem row_lt {R : List Stp} {F : List (List Nat)} {j k : Nat} (h : k ∈ row R F j) : k < j := List.mem_range.mp (List.mem_filter.mp h).1
theorem mem_row {R : List Stp} {F : List (List Nat)} {j k : Nat} : k ∈ row R F j ↔ k < j ∧ ∃ i, i < j ∧ dep (R.getD i Stp.d) (R.getD j Stp.d) = true ∧ (k = i ∨ k ∈ F.getD i []) := by
  unfold row
  rw [List.mem_filter, List.mem_range, List.any_eq_true]
  constructor
  · rintro ⟨h, i, hi, q⟩
    rw [Bool.and_eq_true, Bool.or_eq_true] at q
    exact ⟨h, i, List.mem_range.mp hi, q.1, q.2.imp of_decide_eq_true (fun z => List.contains_iff_mem.mp z)⟩
  · rintro ⟨h, i, hi, q, z⟩
    refine ⟨h, i, List.mem_range.mpr hi, ?_⟩
    rw [Bool.and_eq_true, Bool.or_eq_true]
    exact ⟨q, z.imp (fun e => decide_eq_true e) (fun z => List.contains_iff_mem.mpr z)⟩
theorem bef_lt {R : List Stp} {j i k : Nat} (h : k ∈ (befTo R j).getD i []) : k < i := by
  rcases Nat.lt_or_ge i j with q | q
  · rw [befTo_get R j i q] at h
    exact row_lt h
  · rw [List.getD_eq_getElem?_getD, List.getElem?_eq_none (by rw [befTo_len]; exact q)] at h
    exact nomatch h
def eIx (l : List Nat) : D := .tuple (l.map dI)
section
variable {P : Program} {w : World} {K : PySem.W.Frag} {mg : Str → Option Value} {base : Heap} {C : Addr}
/-- before: 0 steps, 1 found, 2 j, 3 earlier, 4 i, 5 k -/
abbrev s_before : Stmt := top 3
theorem sc_before : FnScope ["steps", "found", "j", "earlier", "i", "k"] ["steps"] (defScope s_before) := ⟨rfl, rfl, rfl, by decide +kernel, rfl, by decide +kernel, by decide +kernel⟩
def pBef (ds : List D) (es : List D) : Prop := ∃ R, ds = [eRow R] ∧ R.length < 64 ∧ es = (bef R).map eIx
theorem ok_before (T : Txt w K mg C) : Cal P w K mg base 3 "before" ["steps"] (spL K pBef) := by
  refine T.d_before.ok sc_before (fun vs H Q E h => ?_) (fun f cdv A outer s H vs Q E hr h => ?_)
  · obtain ⟨ds, d, hd, ⟨R, rfl, _⟩, _⟩ := h
    exact hd.length
  · obtain ⟨ds, d, hd, ⟨R, rfl, hR, rfl⟩, k⟩ := h
    rcases hd with _ | ⟨h1, _ | _⟩
    rename_i v1
    refine ⟨_, (pss_cons (ps_set (i := 1) sc_before.nd rfl (Or.inl rfl) (pe_lst pa_nil))
        (pss_cons (ps_for PassesOwn.never rfl (pi_range1 rfl T.range (pa_cons (pe_callB call_lenD' (by rfl) T.len PySem.boot_len (pa_cons (pv 0) pa_nil)) pa_nil)) (pg_name (i := 2) sc_before.nd rfl (Or.inl rfl))
          (pss_cons (ps_set (i := 3) sc_before.nd rfl (Or.inl rfl) pe_dnewK)
          (pss_cons (ps_for PassesOwn.never rfl (pi_range1 rfl T.range (pa_cons (pv 2) pa_nil)) (pg_name (i := 4) sc_before.nd rfl (Or.inl rfl))
            (pss_one (ps_if (pt_val (pe_own (ok_dependent T) (hr.mono (by decide)) rfl (pa_cons (pe_ix ix_D (pv 0) (pv 4) (fun _ _ => rfl)) (pa_cons (pe_ix ix_D (pv 0) (pv 2) (fun _ _ => rfl)) pa_nil))))
              (pss_cons (ps_dput (room1 hr) (pv 3) (pv 4) pe_bl rfl)
              (pss_one (ps_for PassesOwn.never rfl (pi_tup (pe_ix ix_LD (pv 1) (pv 4) (fun _ _ => rfl))) (pg_name (i := 5) sc_before.nd rfl (Or.inl rfl))
                (pss_one (ps_dput (room1 hr) (pv 3) (pv 5) pe_bl rfl)))))
              pss_nil)))
          (pss_one (ps_expr (pe_bm PySem.F.plainAttrs_list PySem.F.slot_list_append PySem.F.type_list_append mt_append (pv 1) (pa_cons (pe_callTy call_tuple_N (by rfl) T.tuple (by decide +kernel) (pa_cons (pe_callB (call_sortedDI rfl) (by rfl) T.sorted (by decide +kernel) (pa_cons (pv 3) pa_nil)) pa_nil)) pa_nil)))))))
        (pss_one (ps_ret (pv 1))))), ?_⟩
    refine ⟨Nat.zero_le _, fun l hl => ?_⟩
    have s0 : Same H (upd H l (.lst [])) := Same.new0 hl
    refine ⟨_, rfl, _, _, rfl, h1.sm s0, ?_⟩
    have el : (((R.map eSp).length : Nat) : Int) = (R.length : Int) := by rw [List.length_map]
    refine ⟨_, rfl, by rw [el]; omega, by rw [el]; omega, ?_⟩
    have en' : (((R.map eSp).length : Nat) : Int).toNat = R.length := by rw [el]; omega
    rw [en']
    refine for_range (lo := 0) (n := R.length) (fun j σ H' => Same H H' ∧ ∃ xs a b c d, σ = [some v1, some (V.ref l), a, b, c, d] ∧ H' l = some (.lst xs) ∧ RpAll K H' xs ((befTo R j).map eIx))
      ⟨s0, [], none, none, none, none, rfl, upd_same, .nil⟩ ?_ ?_
    · rintro j σ H1 hj ⟨s1, xs, a, b, c, d, rfl, hx, ra⟩
      have ei : ((0 : Int) + (j : Int)) = (j : Int) := by omega
      rw [ei]
      intro e he
      have s2 : Same H1 (upd H1 e (.dK [])) := Same.new0 he
      have hxe' := hx
      refine ⟨_, rfl, j, rfl, by omega, by omega, ?_⟩
      rw [show ((j : Nat) : Int).toNat = j from rfl]
      refine for_range (lo := 0) (n := j) (fun i σ H' => Same H1 H' ∧ ∃ kvs a b, σ = [some v1, some (V.ref l), some (V.int (j : Int)), some (V.ref e), a, b] ∧ H' e = some (.dK kvs) ∧ KS kvs (fun k => k < j ∧ ∃ i', i' < i ∧ dep (R.getD i' Stp.d) (R.getD j Stp.d) = true ∧ (k = i' ∨ k ∈ ((befTo R j).getD i' []))))
        ⟨s2, [], _, _, rfl, upd_same, KS.nil.cg fun k => by simp⟩ ?_ ?_
      · rintro i σ H2 hi ⟨s3, kvs, a, b, rfl, hd, ks⟩
        have ei : ((0 : Int) + (i : Int)) = (i : Int) := by omega
        rw [ei]
        have s4 := s1.trans s3
        have at_r : ∀ {t : Nat}, t < j + 1 → atI (R.map eSp) (t : Int) = some (eSp (R.getD t Stp.d)) := fun ht => at_mapD (d := Stp.d) (by omega)
        refine ⟨_, rfl, _, rfl, _, _, _, h1.sm s4, rfl, at_r (by omega), fun u1 hu1 => ⟨_, rfl, _, rfl, _, _, _, h1.sm s4, rfl, at_r (by omega), fun u2 hu2 => ?_⟩⟩
        refine ⟨_, _, .cons hu1 (.cons hu2 .nil), ⟨_, _, rfl, rfl⟩, fun H3 v s5 hv => ?_⟩
        cases hv.toBl
        refine ⟨_, rfl, ?_⟩
        have hd3 := s5 _ _ hd
        have kl : ∀ {kv : List (Key × V)} {S : Nat → Prop}, KS kv S → (∀ k, S k → k < j) → kv.length < sizeLine := fun q h => sizeLine_small (by have := q.len h; omega)
        cases hdp : dep (R.getD i Stp.d) (R.getD j Stp.d) with
        | false =>
          refine iteF ⟨s3.trans s5, kvs, _, _, rfl, hd3, ks.cg fun k => ?_⟩
          constructor
          · rintro ⟨h, i', h1, h2⟩
            exact ⟨h, i', by omega, h2⟩
          · rintro ⟨h, i', h1, h2, h3⟩
            refine ⟨h, i', ?_, h2, h3⟩
            rcases Nat.lt_or_ge i' i with q | q
            · exact q
            · have : i' = i := by omega
              rw [this, hdp] at h2
              cases h2
        | true =>
          refine iteT ?_
          refine ⟨_, rfl, _, rfl, e, _, rfl, DPut.k (k := .inl (i : Int)) hd3 (kl ks fun k h => h.1), ?_⟩
          have ks1 := ks.put (j := i) (v := .bl true)
          have he3 : H3 e = some (.dK kvs) := hd3
          have s6 : Same H1 (upd H3 e (.dK (putK kvs (.inl (i : Int)) (.bl true)))) := (s3.trans s5).wr he
          have hd6 : upd H3 e (.dK (putK kvs (.inl (i : Int)) (.bl true))) e = some (.dK (putK kvs (.inl (i : Int)) (.bl true))) := upd_same
          generalize upd H3 e (.dK (putK kvs (.inl (i : Int)) (.bl true))) = H4 at s6 hd6
          generalize putK kvs (.inl (i : Int)) (.bl true) = kvs1 at ks1 hd6
          have eat : atI ((befTo R j).map eIx) (i : Int) = some (eIx ((befTo R j).getD i [])) := at_mapD (d := []) (by rw [befTo_len]; exact hi)
          refine ⟨_, rfl, _, rfl, l, xs, _, _, _, rfl, rfl, SqL.of (s6 _ _ hx), ra.sm s6, eat, fun u hu => ?_⟩
          refine for_D (fun m σ H' => Same H1 H' ∧ Tle K H4 H' ∧ ∃ kvs b, σ = [some v1, some (V.ref l), some (V.int (j : Int)), some (V.ref e), some (V.int (i : Int)), b] ∧ H' e = some (.dK kvs) ∧ KS kvs (fun k => ((k < j ∧ ∃ i', i' < i ∧ dep (R.getD i' Stp.d) (R.getD j Stp.d) = true ∧ (k = i' ∨ k ∈ ((befTo R j).getD i' []))) ∨ k = i) ∨ k ∈ ((befTo R j).getD i []).take m)) hu
            ⟨s6, Tle.refl, kvs1, _, rfl, hd6, ks1.cg fun k => by simp⟩ (fun m σ H' q => q.2.1) ?_ ?_
          · rintro m x dd σ H5 em r ⟨s7, tl, kvs, b, rfl, hd, ks⟩
            rw [List.getElem?_map] at em
            obtain ⟨z, hz, rfl⟩ := Option.map_eq_some_iff.mp em
            cases r.toInt
            have hzi : z < i := bef_lt (List.mem_of_getElem? hz)
            refine ⟨_, rfl, _, rfl, e, _, rfl, DPut.k (k := .inl (z : Int)) hd (kl ks fun k h => ?_), ?_⟩
            · rcases h with (h | h) | h
              · exact h.1
              · omega
              · have := bef_lt (List.mem_of_mem_take h); omega
            refine ⟨s7.wr he, tl.trans (Tle.upd (by rw [hd]; trivial)), _, _, rfl, upd_same, (ks.put (j := z)).cg fun k => ?_⟩
            rw [List.take_add_one, hz, List.mem_append]
            simp only [Option.toList, List.mem_singleton]
            exact ⟨fun q => q.elim (fun q => q.elim .inl fun q => .inr (.inl q)) fun q => .inr (.inr q), fun q => q.elim (fun q => .inl (.inl q)) fun q => q.elim (fun q => .inl (.inr q)) .inr⟩
          · rintro σ H5 ⟨s7, tl, kvs, b, rfl, hd, ks⟩
            refine ⟨s7, kvs, _, _, rfl, hd, ks.cg fun k => ?_⟩
            rw [List.length_map, List.take_length]
            constructor
            · rintro ((⟨h, i', h1, h2⟩ | h) | h)
              · exact ⟨h, i', by omega, h2⟩
              · exact ⟨by omega, i, by omega, hdp, .inl h⟩
              · have := bef_lt h
                exact ⟨by omega, i, by omega, hdp, .inr h⟩
            · rintro ⟨h, i', h1, h2, h3⟩
              rcases Nat.lt_or_ge i' i with q | q
              · exact .inl (.inl ⟨h, i', q, h2, h3⟩)
              · have : i' = i := by omega
                subst this
                exact h3.elim (fun z => .inl (.inr z)) .inr
      · rintro σ H2 ⟨s3, kvs, a, b, rfl, hd, ks⟩
        obtain ⟨ks, ka, kn, kc⟩ := ks
        have hlen : ks.length ≤ j := nodup_le kn fun o ho => ((kc o).mp ho).1
        refine ⟨_, rfl, .inl ⟨rfl, _, SqL.of (s3 _ _ hxe')⟩, _, rfl, e, kvs, ks.map (fun k : Nat => (k : Int)), rfl, .inl hd, ?_, ?_, fun ys p hp hs hpn => ?_⟩
        · rw [ka, List.map_map]; rfl
        · rw [List.length_map]; omega
        have ey : ys = (row R (befTo R j) j).map (fun k : Nat => (k : Int)) := by
          have nr : (row R (befTo R j) j).Nodup := (row_asc R _ j).imp fun h e => by omega
          have pk : ks.Perm (row R (befTo R j) j) := (List.perm_ext_iff_of_nodup kn nr).mpr fun k => by rw [kc, mem_row]
          refine List.Perm.eq_of_pairwise (le := fun a b : Int => a ≤ b) (fun a b _ _ h1 h2 => by omega) hs ?_ (hp.trans (pk.map _))
          exact List.Pairwise.map _ (fun a b h => by omega) (row_asc R _ j)
        subst ey
        have s8 : Same H1 (upd H2 p (.lst (((row R (befTo R j) j).map (fun k : Nat => (k : Int))).map V.int))) := s3.new hpn
        refine ⟨p, _, (row R (befTo R j) j).map dI, rfl, SqL.of upd_same, ?_, fun v H5 s9 hv => ?_⟩
        · have e : (row R (befTo R j) j).map dI = ((row R (befTo R j) j).map (fun k : Nat => (k : Int))).map .int := by rw [List.map_map]; rfl
          rw [e]
          exact RpAll.ofInt K _ _
        have s10 := s8.trans s9
        have hx5 := s10 _ _ hx
        refine ⟨l, xs, v, rfl, rfl, hx5, sizeLine_small (by rw [ra.length, List.length_map, befTo_len]; omega), ?_⟩
        refine ⟨(s1.trans s10).wr hl, _, _, _, _, _, rfl, upd_same, ?_⟩
        show RpAll K _ (xs ++ [v]) (List.map eIx (befTo R j ++ [row R (befTo R j) j]))
        rw [List.map_append]
        exact ((ra.sm s10).snoc hv).tle (Tle.lst hx5)
    · rintro σ H' ⟨s1, xs, a, b, c, d, rfl, hx, ra⟩
      exact ⟨_, rfl, k _ _ _ s1 hl hx ra⟩
end
end Ev

-- part EvW10
set_option maxHeartbeats 400000
set_option Elab.async false
set_option linter.all false
set_option maxRecDepth 100000
set_option maxHeartbeats 4000000
/-! The walks: blocks. -/
namespace Ev
open PySem L2
/-- a promise about data that are not given beforehand -/
def spN (K : PySem.W.Frag) (P : List PyData → PyData → Prop) (Pre : List PyData → Prop) : L2.Sp := fun vs H Q _ => ∃ ds, RpAll K H vs ds ∧ Pre ds ∧ ∀ d H' v, P ds d → Same H H' → Rp K H' v d → Q v H'
def spLN (K : PySem.W.Frag) (P : List PyData → List PyData → Prop) (Pre : List PyData → Prop) : L2.Sp := fun vs H Q _ => ∃ ds, RpAll K H vs ds ∧ Pre ds ∧ ∀ es H' l xs, P ds es → Same H H' → H l = none → H' l = some (.lst xs) → RpAll K H' xs es → Q (.ref l) H'
/-- the rows that are asked about -/
def RowOk (p : Prog) (R : List Stp) : Prop := R.length < 64 ∧ ∀ e ∈ R, e.th < p.length ∧ e.pc < (p.getD e.th []).length
def In.isEnd (i : In) : Bool := match i with | .fin => true | _ => false
theorem k_end (i : In) (h : i ≠ .fin) : i.k ≠ "end" := by
  cases i <;> first | exact absurd rfl h | (simp only [In.k, ne_eq]; decide +kernel)
theorem k_beg (i : In) (h : i ≠ .beg) : i.k ≠ "begin" := by
  cases i <;> first | exact absurd rfl h | (simp only [In.k, ne_eq]; decide +kernel)
theorem key_end (i : In) : decide (V.str i.k = V.str "end") = decide (i = .fin) := by
  by_cases h : i = .fin
  · subst h; rw [decide_eq_true (rfl : In.fin = In.fin)]; exact decide_eq_true rfl
  · rw [decide_eq_false h, decide_eq_false fun q => k_end i h (V.str.inj q)]
theorem key_beg (i : In) : decide (V.str i.k = V.str "begin") = decide (i = .beg) := by
  by_cases h : i = .beg
  · subst h; rw [decide_eq_true (rfl : In.beg = In.beg)]; exact decide_eq_true rfl
  · rw [decide_eq_false h, decide_eq_false fun q => k_beg i h (V.str.inj q)]
theorem flat_ints (l : List Nat) : ((l.map fun k : Nat => V.int (k : Int)).all flatV) = true := by
  rw [List.all_map, List.all_eq_true]
  intro x _
  rfl
theorem in_ints (l : List Nat) (z : Nat) : inV (.int (z : Int)) (l.map fun k : Nat => V.int (k : Int)) = decide (z ∈ l) := by
  unfold inV
  rw [List.any_map]
  induction l with
  | nil => rfl
  | cons a l ih =>
    rw [List.any_cons, ih]
    show (eqV (.int (a : Int)) (.int (z : Int)) || _) = _
    rw [show eqV (.int (a : Int)) (.int (z : Int)) = decide (a = z) from decide_eq_decide.mpr ⟨fun q => by omega, fun q => by rw [q]⟩]
    by_cases e : a = z
    · subst e; simp
    · rw [decide_eq_false e, Bool.false_or]
      exact decide_eq_decide.mpr ⟨fun q => List.mem_cons_of_mem _ q, fun q => (List.mem_cons.mp q).elim (fun z => absurd z.symm e) id⟩
theorem RpAll.nats {K : PySem.W.Frag} {H : Hp} {l : List Nat} {vs : List V} (h : RpAll K H vs (l.map dI)) : vs = l.map fun k : Nat => V.int (k : Int) := by
  have e : l.map dI = (l.map fun k : Nat => (k : Int)).map .int := by rw [List.map_map]; rfl
  rw [e] at h
  rw [h.int, List.map_map]
  rfl
section
variable {P : Program} {w : World} {K : PySem.W.Frag} {mg : Str → Option Value} {base : Heap} {C : Addr}
/-- kind_of_step: 0 program, 1 step -/
abbrev s_kind_of_step : Stmt := top 5
theorem sc_kind_of_step : FnScope ["program", "step"] ["program", "step"] (defScope s_kind_of_step) := ⟨rfl, rfl, rfl, by decide +kernel, rfl, by decide +kernel, by decide +kernel⟩
def pKind (ds : List D) (d : D) : Prop := ∃ p, ∃ e : Stp, ds = [eProg p, eSp e] ∧ e.th < p.length ∧ e.pc < (p.getD e.th []).length ∧ d = .str (insOf p e).k
theorem ok_kind_of_step (T : Txt w K mg C) : Cal P w K mg base 1 "kind_of_step" ["program", "step"] (spR K pKind) := by
  refine T.d_kind_of_step.ok sc_kind_of_step (fun vs H Q E h => ?_) (fun f cdv A outer s H vs Q E hr h => ?_)
  · obtain ⟨ds, d, hd, ⟨_, _, rfl, _⟩, _⟩ := h
    exact hd.length
  · obtain ⟨ds, d, hd, ⟨p, e, rfl, h1, h2, rfl⟩, k⟩ := h
    rcases hd with _ | ⟨g1, _ | ⟨g2, _ | _⟩⟩
    refine ⟨_, (pss_one (ps_ret (pe_ix ix_D (pe_ix ix_D (pe_ix ix_D (pe_ix ix_D (pv 0) pe_int (fun _ _ => rfl)) (pe_ix ix_D (pv 1) pe_int (fun _ _ => rfl)) (fun _ _ => rfl)) (pe_ix ix_D (pv 1) pe_int (fun _ _ => rfl)) (fun _ _ => rfl)) pe_int (fun _ _ => rfl)))), ?_⟩
    refine ⟨_, rfl, _, _, _, g1, rfl, at1, fun u hu => ⟨_, rfl, _, _, _, g2, rfl, at0, fun u2 hu2 => ?_⟩⟩
    cases hu2.toInt
    refine ⟨_, _, _, hu, rfl, at_pr h1, fun u3 hu3 => ⟨_, rfl, _, _, _, g2, rfl, at1, fun u4 hu4 => ?_⟩⟩
    cases hu4.toInt
    exact ⟨_, _, _, hu3, rfl, at_in h2, fun u5 hu5 => ⟨_, _, _, hu5, rfl, at0, fun u6 hu6 => k _ _ (Same.refl _) hu6⟩⟩

/-- block_from: 0 program, 1 steps, 2 start, 3 found, 4 k -/
abbrev s_block_from : Stmt := top 6
theorem sc_block_from : FnScope ["program", "steps", "start", "found", "k"] ["program", "steps", "start"] (defScope s_block_from) := ⟨rfl, rfl, rfl, by decide +kernel, rfl, by decide +kernel, by decide +kernel⟩
def qBlk (p : Prog) (R : List Stp) (i : Nat) (l : List Nat) : Prop := l.Pairwise (· < ·) ∧ ∀ k, k ∈ l ↔ InBlk p R i k
def pBlkF (ds : List D) (d : D) : Prop := ∀ p R i, ds = [eProg p, eRow R, dI i] → ∃ l, qBlk p R i l ∧ d = eIx l
def spBlkF (K : PySem.W.Frag) : L2.Sp := fun vs H Q _ => ∃ p R, ∃ i : Nat, RpAll K H vs [eProg p, eRow R, dI i] ∧ RowOk p R ∧ i < R.length ∧ ∀ l H' v, qBlk p R i l → Same H H' → Rp K H' v (eIx l) → Q v H'
theorem ok_block_from (T : Txt w K mg C) : Cal P w K mg base 2 "block_from" ["program", "steps", "start"] (spBlkF K) := by
  refine T.d_block_from.ok sc_block_from (fun vs H Q E h => ?_) (fun f cdv A outer s H vs Q E hr h => ?_)
  · obtain ⟨_, _, _, hd, _⟩ := h
    exact hd.length
  · obtain ⟨p, R, i, hd, hR, hi, k⟩ := h
    rcases hd with _ | ⟨g1, _ | ⟨g2, _ | ⟨g3, _ | _⟩⟩⟩
    cases g3.toInt
    rename_i v1 v2
    refine ⟨_, (pss_cons (ps_set (i := 3) sc_block_from.nd rfl (Or.inl rfl) (pe_lst pa_nil))
        (pss_cons (ps_for PassesOwn.never rfl (pi_range2 rfl T.range (pa_cons (pv 2) (pa_cons (pe_callB call_lenD' (by rfl) T.len PySem.boot_len (pa_cons (pv 1) pa_nil)) pa_nil))) (pg_name (i := 4) sc_block_from.nd rfl (Or.inl rfl))
          (pss_one (ps_if (pt_cmpR op_eq (pe_ix ix_D (pe_ix ix_D (pv 1) (pv 4) (fun _ _ => rfl)) pe_int (fun _ _ => rfl)) (pe_ix ix_D (pe_ix ix_D (pv 1) (pv 2) (fun _ _ => rfl)) pe_int (fun _ _ => rfl)) (nomark _))
            (pss_cons (ps_expr (pe_bm PySem.F.plainAttrs_list PySem.F.slot_list_append PySem.F.type_list_append mt_append (pv 3) (pa_cons (pv 4) pa_nil)))
            (pss_one (ps_if (pt_cmpR op_eq (pe_own (ok_kind_of_step T) (hr.mono (by decide)) rfl (pa_cons (pv 0) (pa_cons (pe_ix ix_D (pv 1) (pv 4) (fun _ _ => rfl)) pa_nil))) pe_str (nomark _))
              (pss_one (ps_ret (pe_callTy call_tuple_N (by rfl) T.tuple (by decide +kernel) (pa_cons (pv 3) pa_nil))))
              pss_nil)))
            pss_nil)))
        (pss_one (ps_ret (pe_callTy call_tuple_N (by rfl) T.tuple (by decide +kernel) (pa_cons (pv 3) pa_nil)))))), ?_⟩
    refine ⟨Nat.zero_le _, fun l hl => ?_⟩
    have s0 : Same H (upd H l (.lst [])) := Same.new0 hl
    refine ⟨_, rfl, _, rfl, _, _, rfl, g2.sm s0, ?_⟩
    have hR1 := hR.1
    have el : (((R.map eSp).length : Nat) : Int) = (R.length : Int) := by rw [List.length_map]
    refine ⟨_, _, rfl, ⟨by omega, by omega, by rw [el]; omega, by rw [el]; omega⟩, ?_⟩
    have en' : ((((R.map eSp).length : Nat) : Int) - (i : Int)).toNat = R.length - i := by rw [el]; omega
    rw [en']
    refine for_range (lo := (i : Int)) (n := R.length - i) (fun m σ H' => Same H H' ∧ ∃ xs ks b, σ = [some v1, some v2, some (V.int (i : Int)), some (V.ref l), b] ∧ H' l = some (.lst xs) ∧ RpAll K H' xs (ks.map dI) ∧ ks.Pairwise (· < ·) ∧ (∀ k, k ∈ ks ↔ k < i + m ∧ InBlk p R i k) ∧
        (∀ k g, i ≤ k → k < i + m → R[k]? = some g → g.th = (R.getD i Stp.d).th → insOf p g ≠ .fin))
      ⟨s0, [], [], none, rfl, upd_same, .nil, .nil, fun k => ⟨fun q => (nomatch q), fun q => by have := q.2.1; omega⟩, fun k g h1 h2 => by omega⟩ ?_ ?_
    · rintro m σ H1 hm ⟨s1, xs, ks, b, rfl, hx, ra, pw, mem, nf⟩
      rw [show ((i : Int) + (m : Int)) = ((i + m : Nat) : Int) by omega]
      have him : i + m < R.length := by omega
      obtain ⟨e, he⟩ : ∃ e, R[i]? = some e := ⟨_, List.getElem?_eq_getElem hi⟩
      obtain ⟨g, hg⟩ : ∃ g, R[i + m]? = some g := ⟨_, List.getElem?_eq_getElem him⟩
      have ei : R.getD i Stp.d = e := getD_some he
      have hgR := hR.2 g (List.mem_of_getElem? hg)
      refine ⟨_, rfl, _, rfl, _, _, _, g2.sm s1, rfl, at_map hg, fun u1 hu1 => ⟨_, _, _, hu1, rfl, at0, fun u2 hu2 => ?_⟩⟩
      cases hu2.toInt
      refine ⟨_, rfl, _, rfl, _, _, _, g2.sm s1, rfl, at_map he, fun u3 hu3 => ⟨_, _, _, hu3, rfl, at0, fun u4 hu4 => ?_⟩⟩
      cases hu4.toInt
      refine ⟨rfl, _, rfl, ?_⟩
      rw [show decide (V.int (g.th : Int) = V.int (e.th : Int)) = decide (g.th = e.th) from decide_eq_decide.mpr ⟨fun q => by have := V.int.inj q; omega, fun q => by rw [q]⟩]
      by_cases ht : g.th = e.th
      · rw [decide_eq_true ht]
        refine iteT ?_
        have hin : InBlk p R i (i + m) := ⟨by omega, e, g, he, hg, ht, fun k g' h1 h2 h3 h4 => nf k g' h1 h2 h3 (by rw [ei]; exact h4)⟩
        refine ⟨_, rfl, .inl ⟨rfl, _, SqL.of hx⟩, _, rfl, ?_⟩
        refine ⟨l, xs, _, rfl, rfl, hx, ?_, ?_⟩
        · have q := nodup_le (n := 64) (l := ks) (pw.imp fun h e => by omega) fun o ho => by have := (mem o).mp ho; omega
          have q2 := ra.length
          rw [List.length_map] at q2
          exact sizeLine_small (by omega)
        have s2 : Same H (upd H1 l (.lst (xs ++ [V.int ((i + m : Nat) : Int)]))) := s1.wr hl
        have hx2 : upd H1 l (.lst (xs ++ [V.int ((i + m : Nat) : Int)])) l = some (.lst (xs ++ [V.int ((i + m : Nat) : Int)])) := upd_same
        have ra2 : RpAll K (upd H1 l (.lst (xs ++ [V.int ((i + m : Nat) : Int)]))) (xs ++ [V.int ((i + m : Nat) : Int)]) ((ks ++ [i + m]).map dI) := by
          rw [List.map_append]
          exact (ra.snoc (.int _)).tle (Tle.lst hx)
        generalize upd H1 l (.lst (xs ++ [V.int ((i + m : Nat) : Int)])) = H2 at s2 hx2 ra2
        have pw2 : (ks ++ [i + m]).Pairwise (· < ·) := List.pairwise_append.mpr ⟨pw, List.pairwise_singleton _ _, fun a ha b hb => by
          rw [List.mem_singleton] at hb
          have := ((mem a).mp ha).1
          omega⟩
        have mem2 : ∀ k, k ∈ ks ++ [i + m] ↔ k < i + (m + 1) ∧ InBlk p R i k := fun k => by
          rw [List.mem_append, mem, List.mem_singleton]
          constructor
          · rintro (⟨h1, h2⟩ | rfl)
            · exact ⟨by omega, h2⟩
            · exact ⟨by omega, hin⟩
          · rintro ⟨h1, h2⟩
            rcases Nat.lt_or_ge k (i + m) with q | q
            · exact .inl ⟨q, h2⟩
            · exact .inr (by omega)
        refine ⟨_, rfl, _, rfl, _, rfl, _, _, _, g2.sm s2, rfl, at_map hg, fun u5 hu5 => ?_⟩
        refine ⟨_, _, .cons (g1.sm s2) (.cons hu5 .nil), ⟨p, g, rfl, hgR.1, hgR.2, rfl⟩, fun H3 v s3 hv => ?_⟩
        cases hv.toStr
        refine ⟨rfl, _, rfl, ?_⟩
        rw [key_end]
        have hx3 := s3 _ _ hx2
        have ra3 := ra2.sm s3
        have s23 := s2.trans s3
        by_cases hf : insOf p g = .fin
        · rw [decide_eq_true hf]
          refine iteT ⟨_, rfl, l, _, _, rfl, SqL.of hx3, ra3, fun v H4 s4 hv4 => k (ks ++ [i + m]) _ _ ⟨pw2, fun k' => (mem2 k').trans ⟨fun q => q.2, fun q => ⟨?_, q⟩⟩⟩ (s23.trans s4) hv4⟩
          obtain ⟨q1, e', f', he', hf', hth, hno⟩ := q
          rcases Nat.lt_or_ge k' (i + (m + 1)) with z | z
          · exact z
          · rw [he] at he'
            cases he'
            exact absurd hf (hno (i + m) g (by omega) (by omega) hg ht)
        · rw [decide_eq_false hf]
          refine iteF ⟨s23, _, ks ++ [i + m], _, rfl, hx3, ra3, pw2, mem2, fun k' g' h1 h2 h3 h4 => ?_⟩
          rcases Nat.lt_or_ge k' (i + m) with q | q
          · exact nf k' g' h1 q h3 h4
          · have : k' = i + m := by omega
            subst this
            rw [hg] at h3
            cases h3
            exact hf
      · rw [decide_eq_false ht]
        refine iteF ⟨s1, xs, ks, _, rfl, hx, ra, pw, fun k' => (mem k').trans ⟨fun q => ⟨by omega, q.2⟩, fun q => ⟨?_, q.2⟩⟩, fun k' g' h1 h2 h3 h4 => ?_⟩
        · obtain ⟨q0, q1, e', f', he', hf', hth, hno⟩ := q
          rcases Nat.lt_or_ge k' (i + m) with z | z
          · exact z
          · have : k' = i + m := by omega
            subst this
            rw [he] at he'
            rw [hg] at hf'
            cases he'
            cases hf'
            exact absurd hth ht
        · rcases Nat.lt_or_ge k' (i + m) with q | q
          · exact nf k' g' h1 q h3 h4
          · have : k' = i + m := by omega
            subst this
            rw [hg] at h3
            cases h3
            rw [ei] at h4
            exact absurd h4 ht
    · rintro σ H1 ⟨s1, xs, ks, b, rfl, hx, ra, pw, mem, nf⟩
      refine ⟨_, rfl, l, _, _, rfl, SqL.of hx, ra, fun v H4 s4 hv4 => k ks _ _ ⟨pw, fun k' => (mem k').trans ⟨fun q => q.2, fun q => ⟨?_, q⟩⟩⟩ (s1.trans s4) hv4⟩
      obtain ⟨q1, e', f', he', hf', hth, hno⟩ := q
      have := (List.getElem?_eq_some_iff.mp hf').1
      omega

/-- block_steps: 0 program, 1 steps, 2 found, 3 k -/
abbrev s_block_steps : Stmt := top 7
theorem sc_block_steps : FnScope ["program", "steps", "found", "k"] ["program", "steps"] (defScope s_block_steps) := ⟨rfl, rfl, rfl, by decide +kernel, rfl, by decide +kernel, by decide +kernel⟩
/-- a list of the blocks -/
def qBlks (p : Prog) (R : List Stp) (L : List (Nat × List Nat)) : Prop := (∀ b ∈ L, qBlk p R b.1 b.2 ∧ ∃ e, R[b.1]? = some e ∧ insOf p e = .beg) ∧ ∀ i e, R[i]? = some e → insOf p e = .beg → ∃ l, (i, l) ∈ L
def spBlks (K : PySem.W.Frag) : L2.Sp := fun vs H Q _ => ∃ p R, RpAll K H vs [eProg p, eRow R] ∧ RowOk p R ∧ ∀ L H' l xs, qBlks p R L → L.length ≤ R.length → Same H H' → H l = none → H' l = some (.lst xs) → RpAll K H' xs (L.map fun b => eIx b.2) → Q (.ref l) H'
theorem ok_block_steps (T : Txt w K mg C) : Cal P w K mg base 3 "block_steps" ["program", "steps"] (spBlks K) := by
  refine T.d_block_steps.ok sc_block_steps (fun vs H Q E h => ?_) (fun f cdv A outer s H vs Q E hr h => ?_)
  · obtain ⟨_, _, hd, _⟩ := h
    exact hd.length
  · obtain ⟨p, R, hd, hR, k⟩ := h
    rcases hd with _ | ⟨g1, _ | ⟨g2, _ | _⟩⟩
    rename_i v1 v2
    refine ⟨_, (pss_cons (ps_set (i := 2) sc_block_steps.nd rfl (Or.inl rfl) (pe_lst pa_nil))
        (pss_cons (ps_for PassesOwn.never rfl (pi_range1 rfl T.range (pa_cons (pe_callB call_lenD' (by rfl) T.len PySem.boot_len (pa_cons (pv 1) pa_nil)) pa_nil)) (pg_name (i := 3) sc_block_steps.nd rfl (Or.inl rfl))
          (pss_one (ps_if (pt_cmpR op_eq (pe_own (ok_kind_of_step T) (hr.mono (by decide)) rfl (pa_cons (pv 0) (pa_cons (pe_ix ix_D (pv 1) (pv 3) (fun _ _ => rfl)) pa_nil))) pe_str (nomark _))
            (pss_one (ps_expr (pe_bm PySem.F.plainAttrs_list PySem.F.slot_list_append PySem.F.type_list_append mt_append (pv 2) (pa_cons (pe_own (ok_block_from T) (hr.mono (by decide)) rfl (pa_cons (pv 0) (pa_cons (pv 1) (pa_cons (pv 3) pa_nil)))) pa_nil))))
            pss_nil)))
        (pss_one (ps_ret (pv 2))))), ?_⟩
    refine ⟨Nat.zero_le _, fun l hl => ?_⟩
    have s0 : Same H (upd H l (.lst [])) := Same.new0 hl
    have hR1 := hR.1
    have el : (((R.map eSp).length : Nat) : Int) = (R.length : Int) := by rw [List.length_map]
    refine ⟨_, rfl, _, _, rfl, g2.sm s0, _, rfl, by rw [el]; omega, by rw [el]; omega, ?_⟩
    have en' : (((R.map eSp).length : Nat) : Int).toNat = R.length := by rw [el]; omega
    rw [en']
    refine for_range (lo := 0) (n := R.length) (fun m σ H' => Same H H' ∧ ∃ xs L b, σ = [some v1, some v2, some (V.ref l), b] ∧ H' l = some (.lst xs) ∧ RpAll K H' xs (L.map fun b : Nat × List Nat => eIx b.2) ∧ L.length ≤ m ∧ (∀ b ∈ L, qBlk p R b.1 b.2 ∧ ∃ e, R[b.1]? = some e ∧ insOf p e = .beg) ∧ ∀ i e, i < m → R[i]? = some e → insOf p e = .beg → ∃ l, (i, l) ∈ L)
      ⟨s0, [], [], none, rfl, upd_same, .nil, Nat.le_refl _, fun b hb => (nomatch hb), fun i e h => by omega⟩ ?_ ?_
    · rintro m σ H1 hm ⟨s1, xs, L, b, rfl, hx, ra, hlen, h1, h2⟩
      rw [show ((0 : Int) + (m : Int)) = (m : Int) by omega]
      obtain ⟨g, hg⟩ : ∃ g, R[m]? = some g := ⟨_, List.getElem?_eq_getElem hm⟩
      have hgR := hR.2 g (List.mem_of_getElem? hg)
      refine ⟨_, rfl, _, rfl, _, rfl, _, _, _, g2.sm s1, rfl, at_map hg, fun u5 hu5 => ?_⟩
      refine ⟨_, _, .cons (g1.sm s1) (.cons hu5 .nil), ⟨p, g, rfl, hgR.1, hgR.2, rfl⟩, fun H3 v s3 hv => ?_⟩
      cases hv.toStr
      refine ⟨rfl, _, rfl, ?_⟩
      rw [key_beg]
      have hx3 := s3 _ _ hx
      have ra3 := ra.sm s3
      have s13 := s1.trans s3
      by_cases hf : insOf p g = .beg
      · rw [decide_eq_true hf]
        refine iteT ?_
        refine ⟨_, rfl, .inl ⟨rfl, _, SqL.of hx3⟩, _, rfl, _, rfl, _, rfl, ?_⟩
        refine ⟨p, R, m, .cons (g1.sm s13) (.cons (g2.sm s13) (.cons (.int _) .nil)), hR, hm, fun bl H4 v4 hb s4 hv4 => ?_⟩
        have hx4 := s4 _ _ hx3
        refine ⟨l, xs, _, rfl, rfl, hx4, sizeLine_small (by rw [ra.length, List.length_map]; omega), ?_⟩
        refine ⟨(s13.trans s4).wr hl, _, L ++ [(m, bl)], _, rfl, upd_same, ?_, by rw [List.length_append]; show L.length + 1 ≤ _; omega, fun c hc => ?_, fun i e hi he hb' => ?_⟩
        · rw [List.map_append]
          exact ((ra3.sm s4).snoc hv4).tle (Tle.lst hx4)
        · rcases List.mem_append.mp hc with hc | hc
          · exact h1 c hc
          · rw [List.mem_singleton] at hc
            subst hc
            exact ⟨hb, g, hg, hf⟩
        · rcases Nat.lt_or_ge i m with q | q
          · obtain ⟨l', hl'⟩ := h2 i e q he hb'
            exact ⟨l', List.mem_append_left _ hl'⟩
          · have : i = m := by omega
            subst this
            exact ⟨bl, List.mem_append_right _ List.mem_cons_self⟩
      · rw [decide_eq_false hf]
        refine iteF ⟨s13, xs, L, _, rfl, hx3, ra3, by omega, h1, fun i e hi he hb' => ?_⟩
        rcases Nat.lt_or_ge i m with q | q
        · exact h2 i e q he hb'
        · have : i = m := by omega
          subst this
          rw [hg] at he
          cases he
          exact absurd hb' hf
    · rintro σ H1 ⟨s1, xs, L, b, rfl, hx, ra, hlen, h1, h2⟩
      exact ⟨_, rfl, k L _ _ _ ⟨h1, fun i e he hb => h2 i e (List.getElem?_eq_some_iff.mp he).1 he hb⟩ (by omega) s1 hl hx ra⟩

theorem take_ex {α : Type} {l : List α} {i : Nat} {a : α} {Q : α → Prop} (h : l[i]? = some a) : (∃ b ∈ l.take (i + 1), Q b) ↔ (∃ b ∈ l.take i, Q b) ∨ Q a := by
  rw [List.take_add_one, h]
  simp only [Option.toList, List.mem_append, List.mem_singleton]
  constructor
  · rintro ⟨b, h1 | rfl, h2⟩
    · exact .inl ⟨b, h1, h2⟩
    · exact .inr h2
  · rintro (⟨b, h1, h2⟩ | h2)
    · exact ⟨b, .inl h1, h2⟩
    · exact ⟨a, .inr rfl, h2⟩
/-- breaks: 0 earlier, 1 block, 2 index, 3 behind, 4 k -/
abbrev s_breaks : Stmt := top 8
theorem sc_breaks : FnScope ["earlier", "block", "index", "behind", "k"] ["earlier", "block", "index"] (defScope s_breaks) := ⟨rfl, rfl, rfl, by decide +kernel, rfl, by decide +kernel, by decide +kernel⟩
def spBrk (K : PySem.W.Frag) : L2.Sp := fun vs H Q _ => ∃ R le xs vb, ∃ l : List Nat, ∃ k : Nat, vs = [.ref le, vb, .int (k : Int)] ∧ H le = some (.lst xs) ∧ RpAll K H xs ((bef R).map eIx) ∧ Rp K H vb (eIx l) ∧ (∀ b ∈ l, b < R.length) ∧ k < R.length ∧
  ∀ c, (c = true ↔ (∃ b ∈ l, HB R b k) ∧ ∃ b ∈ l, HB R k b) → Q (.bl c) H
theorem ok_breaks (T : Txt w K mg C) : Cal P w K mg base 1 "breaks" ["earlier", "block", "index"] (spBrk K) := by
  refine T.d_breaks.ok sc_breaks (fun vs H Q E h => ?_) (fun f cdv A outer s H vs Q E hr h => ?_)
  · obtain ⟨_, _, _, _, _, _, rfl, _⟩ := h
    rfl
  · obtain ⟨R, le, xs, vb, l, k, rfl, hx, ra, rb, hl, hk, kk⟩ := h
    have eat : ∀ {i : Nat}, i < R.length → atI ((bef R).map eIx) (i : Int) = some (eIx ((bef R).getD i [])) := fun h => at_mapD (d := []) (by unfold bef; rw [befTo_len]; exact h)
    refine ⟨_, (pss_cons (ps_set (i := 3) sc_breaks.nd rfl (Or.inl rfl) pe_bl)
        (pss_cons (ps_for PassesOwn.never rfl (pi_tup (pv 1)) (pg_name (i := 4) sc_breaks.nd rfl (Or.inl rfl))
          (pss_one (ps_if (pt_cmpR op_in_seq (pv 4) (pe_ix ix_LD (pv 0) (pv 2) (fun _ _ => rfl)) (by rfl))
            (pss_one (ps_set (i := 3) sc_breaks.nd rfl (Or.inl rfl) pe_bl))
            pss_nil)))
        (pss_cons (ps_for PassesOwn.never rfl (pi_tup (pv 1)) (pg_name (i := 4) sc_breaks.nd rfl (Or.inl rfl))
          (pss_one (ps_if (PW.pt (pw_and (pt_val (pv 3)) (pw_and1 (pt_cmpR op_in_seq (pv 2) (pe_ix ix_LD (pv 0) (pv 4) (fun _ _ => rfl)) (by rfl)))))
            (pss_one (ps_ret pe_bl))
            pss_nil)))
        (pss_one (ps_ret pe_bl))))), ?_⟩
    refine ⟨_, rfl, ?_⟩
    refine for_D (fun m σ H' => H' = H ∧ ∃ bh b, σ = [some (V.ref le), some vb, some (V.int (k : Int)), some (V.bl bh), b] ∧ (bh = true ↔ ∃ b ∈ l.take m, HB R b k)) rb ⟨rfl, false, none, rfl, by simp⟩ (fun m σ H' q => by rw [q.1]; exact Tle.refl) ?_ ?_
    · rintro m x dd σ H1 em r ⟨rfl, bh, b, rfl, hb⟩
      rw [List.getElem?_map] at em
      obtain ⟨z, hz, rfl⟩ := Option.map_eq_some_iff.mp em
      cases r.toInt
      refine ⟨_, rfl, _, rfl, _, rfl, le, xs, _, _, _, rfl, rfl, SqL.of hx, ra, eat hk, fun u hu => ?_⟩
      obtain ⟨a, ys, rfl, hT, hys⟩ := hu.toTup
      cases hys.nats
      refine ⟨a, _, rfl, .inr hT, rfl, flat_ints _, _, rfl, ?_⟩
      rw [if_neg Bool.false_ne_true, in_ints]
      by_cases c : z ∈ (bef R).getD k []
      · rw [decide_eq_true c]
        exact iteT ⟨rfl, true, _, rfl, by rw [take_ex hz]; exact ⟨fun _ => .inr ((bef_iff hk).mp c), fun _ => rfl⟩⟩
      · rw [decide_eq_false c]
        refine iteF ⟨rfl, bh, _, rfl, ?_⟩
        rw [take_ex hz, hb]
        exact ⟨.inl, fun q => q.elim id fun q => absurd ((bef_iff hk).mpr q) c⟩
    · rintro σ H1 ⟨rfl, bh, b, rfl, hb⟩
      rw [List.length_map, List.take_length] at hb
      refine ⟨_, rfl, ?_⟩
      refine for_D (fun m σ H' => H' = H1 ∧ ∃ b, σ = [some (V.ref le), some vb, some (V.int (k : Int)), some (V.bl bh), b] ∧ (bh = true → ¬ ∃ b ∈ l.take m, HB R k b)) rb ⟨rfl, _, rfl, fun _ => by simp⟩ (fun m σ H' q => by rw [q.1]; exact Tle.refl) ?_ ?_
      · rintro m x dd σ H2 em r ⟨rfl, b, rfl, hn⟩
        rw [List.getElem?_map] at em
        obtain ⟨z, hz, rfl⟩ := Option.map_eq_some_iff.mp em
        cases r.toInt
        have hzl := hl z (List.mem_of_getElem? hz)
        refine ⟨_, rfl, bh, rfl, ?_⟩
        cases hbh : bh with
        | false => exact iteF (iteF ⟨rfl, _, rfl, fun q => nomatch q⟩)
        | true =>
          refine iteT ?_
          refine ⟨_, rfl, _, rfl, _, rfl, le, xs, _, _, _, rfl, rfl, SqL.of hx, ra, eat hzl, fun u hu => ?_⟩
          obtain ⟨a, ys, rfl, hT, hys⟩ := hu.toTup
          cases hys.nats
          refine ⟨a, _, rfl, .inr hT, rfl, flat_ints _, _, rfl, ?_⟩
          rw [if_neg Bool.false_ne_true, in_ints]
          by_cases c : k ∈ (bef R).getD z []
          · rw [decide_eq_true c]
            exact iteT (kk true ⟨fun _ => ⟨hb.mp hbh, z, List.mem_of_getElem? hz, (bef_iff hzl).mp c⟩, fun _ => rfl⟩)
          · rw [decide_eq_false c]
            refine iteF ⟨rfl, _, rfl, fun _ => ?_⟩
            rw [take_ex hz]
            exact fun q => q.elim (hn hbh) fun q => absurd ((bef_iff hzl).mpr q) c
      · rintro σ H2 ⟨rfl, b, rfl, hn⟩
        rw [List.length_map, List.take_length] at hn
        refine kk false ⟨fun q => (nomatch q), fun q => absurd q.2 (hn (hb.mpr q.1))⟩

def BrkBy (R : List Stp) (b : Nat × List Nat) (k : Nat) (F : Ft) : Prop := ∃ e g, R[b.1]? = some e ∧ R[k]? = some g ∧ g.th ≠ e.th ∧ (∃ x ∈ b.2, HB R x k) ∧ (∃ x ∈ b.2, HB R k x) ∧ F = .broken e.th e.pc g.th g.pc
theorem brk_iff {p : Prog} {R : List Stp} {B : List (Nat × List Nat)} (hB : qBlks p R B) (F : Ft) : (∃ b ∈ B, ∃ k, BrkBy R b k F) ↔ BrokenAt p R F := by
  constructor
  · rintro ⟨b, hb, k, e, g, he, hg, hne, ⟨x, hx, h1⟩, ⟨y, hy, h2⟩, rfl⟩
    obtain ⟨q, e', he', hbeg⟩ := hB.1 b hb
    rw [he] at he'
    cases he'
    exact ⟨b.1, k, x, y, e, g, he, hbeg, hg, hne, (q.2 x).mp hx, (q.2 y).mp hy, h1, h2, rfl⟩
  · rintro ⟨i, k, x, y, e, g, he, hbeg, hg, hne, hx, hy, h1, h2, rfl⟩
    obtain ⟨l, hl⟩ := hB.2 i e he hbeg
    have q := (hB.1 _ hl).1
    exact ⟨(i, l), hl, k, e, g, he, hg, hne, ⟨x, (q.2 x).mpr hx, h1⟩, ⟨y, (q.2 y).mpr hy, h2⟩, rfl⟩
/-- the form of a block -/
theorem blk_form {p : Prog} {R : List Stp} {i : Nat} {l : List Nat} {e : Stp} (q : qBlk p R i l) (he : R[i]? = some e) : ∃ r, l = i :: r ∧ ∀ hne x, x ∈ l → x ≤ l.getLast hne := by
  have hi : i ∈ l := (q.2 i).mpr ⟨Nat.le_refl _, e, e, he, he, rfl, fun m g h1 h2 => by omega⟩
  have hlast : ∀ hne x, x ∈ l → x ≤ l.getLast hne := by
    intro hne x hx
    have := q.1
    rw [← List.dropLast_concat_getLast hne, List.pairwise_append] at this
    rw [← List.dropLast_concat_getLast hne, List.mem_append] at hx
    rcases hx with hx | hx
    · exact Nat.le_of_lt (this.2.2 x hx _ List.mem_cons_self)
    · rw [List.mem_singleton] at hx
      exact Nat.le_of_eq hx
  cases l with
  | nil => exact nomatch hi
  | cons a r =>
    refine ⟨r, ?_, hlast⟩
    have ha : i ≤ a := ((q.2 a).mp List.mem_cons_self).1
    rcases List.mem_cons.mp hi with h | h
    · rw [h]
    · have := (List.pairwise_cons.mp q.1).1 i h
      omega
theorem at_last {l : List Nat} (h : l ≠ []) : atI (l.map dI) (-1) = some (dI (l.getLast h)) := by
  have hl := List.length_pos_iff.mpr h
  have e : ixN (l.map dI).length (-1) = some (l.length - 1) := by
    rw [List.length_map]
    unfold ixN
    rw [if_neg (by omega), if_pos (by omega)]
    congr 1
    omega
  unfold atI
  rw [e]
  show (l.map dI)[l.length - 1]? = _
  rw [List.getElem?_map, ← List.getLast?_eq_getElem?, List.getLast?_eq_some_getLast h]
  rfl
/-- broken_blocks: 0 program, 1 steps, 2 earlier, 3 found, 4 block, 5 start, 6 k -/
abbrev s_broken_blocks : Stmt := top 9
theorem sc_broken_blocks : FnScope ["program", "steps", "earlier", "found", "block", "start", "k"] ["program", "steps"] (defScope s_broken_blocks) := ⟨rfl, rfl, rfl, by decide +kernel, rfl, by decide +kernel, by decide +kernel⟩
def eFt : Ft → D
  | .fail t pc w => .tuple [.str "failure", dI t, dI pc, .str w.s]
  | .dead l => .tuple [.str "deadlock", eBl l]
  | .race t pc o opc v => .tuple [.str "race", dI t, dI pc, dI o, dI opc, .str v.s]
  | .lost t pc => .tuple [.str "lost", dI t, dI pc, .str "w"]
  | .broken t pc o opc => .tuple [.str "broken", dI t, dI pc, dI o, dI opc]
def spBroken (K : PySem.W.Frag) : L2.Sp := fun vs H Q _ => ∃ p R, RpAll K H vs [eProg p, eRow R] ∧ RowOk p R ∧ ∀ (L : List Ft) H' l xs, (∀ F, F ∈ L ↔ BrokenAt p R F) → L.length ≤ R.length * 64 → Same H H' → H l = none → H' l = some (.lst xs) → RpAll K H' xs (L.map eFt) → Q (.ref l) H'
theorem ok_broken_blocks (T : Txt w K mg C) : Cal P w K mg base 4 "broken_blocks" ["program", "steps"] (spBroken K) := by
  refine T.d_broken_blocks.ok sc_broken_blocks (fun vs H Q E h => ?_) (fun f cdv A outer s H vs Q E hr h => ?_)
  · obtain ⟨_, _, hd, _⟩ := h
    exact hd.length
  · obtain ⟨p, R, hd, hR, k⟩ := h
    rcases hd with _ | ⟨g1, _ | ⟨g2, _ | _⟩⟩
    rename_i v1 v2
    refine ⟨_, (pss_cons (ps_set (i := 2) sc_broken_blocks.nd rfl (Or.inl rfl) (pe_own (ok_before T) (hr.mono (by decide)) rfl (pa_cons (pv 1) pa_nil)))
        (pss_cons (ps_set (i := 3) sc_broken_blocks.nd rfl (Or.inl rfl) (pe_lst pa_nil))
        (pss_cons (ps_for PassesOwn.never rfl (pi_list (pe_own (ok_block_steps T) (hr.mono (by decide)) rfl (pa_cons (pv 0) (pa_cons (pv 1) pa_nil)))) (pg_name (i := 4) sc_broken_blocks.nd rfl (Or.inl rfl))
          (pss_cons (ps_set (i := 5) sc_broken_blocks.nd rfl (Or.inl rfl) (pe_ix ix_D (pv 1) (pe_ix ix_D (pv 4) pe_int (fun _ _ => rfl)) (fun _ _ => rfl)))
          (pss_one (ps_for PassesOwn.never rfl (pi_range2 rfl T.range (pa_cons (pe_op op_add (pe_ix ix_D (pv 4) pe_int (fun _ _ => rfl)) pe_int) (pa_cons (pe_ix ix_D (pv 4) (pe_un un_neg pe_int) (fun _ _ => rfl)) pa_nil))) (pg_name (i := 6) sc_broken_blocks.nd rfl (Or.inl rfl))
            (pss_one (ps_if (PW.pt (pw_and (pt_cmpR op_ne (pe_ix ix_D (pe_ix ix_D (pv 1) (pv 6) (fun _ _ => rfl)) pe_int (fun _ _ => rfl)) (pe_ix ix_D (pv 5) pe_int (fun _ _ => rfl)) (nomark _)) (pw_and1 (pt_val (pe_own (ok_breaks T) (hr.mono (by decide)) rfl (pa_cons (pv 2) (pa_cons (pv 4) (pa_cons (pv 6) pa_nil))))))))
              (pss_one (ps_expr (pe_bm PySem.F.plainAttrs_list PySem.F.slot_list_append PySem.F.type_list_append mt_append (pv 3) (pa_cons (pe_tupN (pa_cons pe_str (pa_cons (pe_ix ix_D (pv 5) pe_int (fun _ _ => rfl)) (pa_cons (pe_ix ix_D (pv 5) pe_int (fun _ _ => rfl)) (pa_cons (pe_ix ix_D (pe_ix ix_D (pv 1) (pv 6) (fun _ _ => rfl)) pe_int (fun _ _ => rfl)) (pa_cons (pe_ix ix_D (pe_ix ix_D (pv 1) (pv 6) (fun _ _ => rfl)) pe_int (fun _ _ => rfl)) pa_nil)))))) pa_nil))))
              pss_nil))))))
        (pss_one (ps_ret (pv 3)))))), ?_⟩
    refine ⟨_, rfl, _, _, .cons g2 .nil, ⟨R, rfl, hR.1, rfl⟩, fun H1 le xe s1 hle hxe rae => ?_⟩
    refine ⟨Nat.zero_le _, fun l hl => ?_⟩
    have hl0 : H l = none := s1.free hl
    have s2 := Same.new0 (o := .lst []) hl
    have s12 := s1.trans s2
    refine ⟨_, rfl, _, rfl, p, R, .cons (g1.sm s12) (.cons (g2.sm s12) .nil), hR, fun B H2 lb xb hB hBl s3 hlb hxb rab => ?_⟩
    have s13 := s12.trans s3
    have hl2 : H2 l = some (.lst []) := s3 _ _ upd_same
    have hlbl : lb ≠ l := fun q => by subst q; rw [upd_same] at hlb; cases hlb
    have hlel : le ≠ l := fun q => by subst q; rw [hxe] at hl; cases hl
    have hxe2 := (s2.trans s3) _ _ hxe
    have rae2 := rae.sm (s2.trans s3)
    have hR1 := hR.1
    refine for_LD (fun i σ H' => (SqL K H' lb xb ∧ Tle K H2 H') ∧ H' lb = some (.lst xb) ∧ Same H H' ∧ H' le = some (.lst xe) ∧ ∃ xs L a b c, σ = [some v1, some v2, some (.ref le), some (.ref l), a, b, c] ∧ H' l = some (.lst xs) ∧ RpAll K H' xs (L.map eFt) ∧ (∀ F, F ∈ L ↔ ∃ b ∈ B.take i, ∃ k, BrkBy R b k F) ∧ L.length ≤ i * 64)
      (SqL.of hxb) rab ⟨⟨SqL.of hxb, Tle.refl⟩, hxb, s13, hxe2, [], [], none, none, none, rfl, hl2, .nil, fun F => by simp, Nat.le_refl _⟩ (fun i σ H' q => q.1) ?_ ?_
    · rintro i x dd σ H3 ed rx ⟨⟨_, tl⟩, hb3, s4, he3, xs, L, a, b, c, rfl, hx, ra, mem, hlen⟩
      rw [List.getElem?_map] at ed
      obtain ⟨⟨b0, bl⟩, hbl, rfl⟩ := Option.map_eq_some_iff.mp ed
      obtain ⟨qb, e, he, hbeg⟩ := hB.1 _ (List.mem_of_getElem? hbl)
      obtain ⟨r, hr', hlast⟩ := blk_form qb he
      have hr' : bl = b0 :: r := hr'
      have hlast : ∀ hne x, x ∈ bl → x ≤ bl.getLast hne := hlast
      have hne : bl ≠ [] := by rw [hr']; exact fun q => nomatch q
      have hlastm : bl.getLast hne < R.length := by
        obtain ⟨_, _, f, _, hf, _⟩ := (qb.2 _).mp (List.getLast_mem hne)
        exact (List.getElem?_eq_some_iff.mp hf).1
      have hb0 : b0 < R.length := (List.getElem?_eq_some_iff.mp he).1
      have at_0 : atI (bl.map dI) 0 = some (dI b0) := by rw [hr']; exact at0
      have rx : Rp K H3 x (.tuple (bl.map dI)) := rx
      refine ⟨_, rfl, _, rfl, _, _, _, rx, rfl, at_0, fun u hu => ?_⟩
      cases hu.toInt
      refine ⟨_, _, _, g2.sm s4, rfl, at_map he, fun ve hve => ?_⟩
      refine ⟨_, rfl, _, _, _, rx, rfl, at_0, fun u hu => ?_⟩
      cases hu.toInt
      refine ⟨_, _, rfl, rfl, _, rfl, _, rfl, _, _, _, rx, rfl, at_last hne, fun u hu => ?_⟩
      cases hu.toInt
      refine ⟨_, _, rfl, ⟨by omega, by omega, by omega, by omega⟩, ?_⟩
      have en' : (((bl.getLast hne : Nat) : Int) - ((b0 : Int) + 1)).toNat = bl.getLast hne - (b0 + 1) := by omega
      rw [en']
      have start0 : ∀ k F, BrkBy R (b0, bl) k F → b0 + 1 ≤ k := fun k F q => by
        obtain ⟨_, _, _, _, _, ⟨y, hy, h1⟩, _⟩ := q
        have := ((qb.2 y).mp hy).1
        have := h1.lt
        omega
      have stop0 : ∀ k F, BrkBy R (b0, bl) k F → k < bl.getLast hne := fun k F q => by
        obtain ⟨_, _, _, _, _, _, ⟨y, hy, h1⟩, _⟩ := q
        have := hlast hne y hy
        have := h1.lt
        omega
      refine for_range (lo := (b0 : Int) + 1) (n := bl.getLast hne - (b0 + 1)) (fun m σ H' => Tle K H3 H' ∧ H' lb = some (.lst xb) ∧ Same H H' ∧ H' le = some (.lst xe) ∧ ∃ xs L c, σ = [some v1, some v2, some (.ref le), some (.ref l), some x, some ve, c] ∧ H' l = some (.lst xs) ∧ RpAll K H' xs (L.map eFt) ∧ (∀ F, F ∈ L ↔ (∃ b ∈ B.take i, ∃ k, BrkBy R b k F) ∨ ∃ k, k < b0 + 1 + m ∧ BrkBy R (b0, bl) k F) ∧ L.length ≤ i * 64 + m)
        ⟨Tle.refl, hb3, s4, he3, xs, L, _, rfl, hx, ra, fun F => (mem F).trans ⟨.inl, fun q => q.elim id fun ⟨k, h1, h2⟩ => by have := start0 k F h2; omega⟩, hlen⟩ ?_ ?_
      · rintro m σ H4 hm ⟨tl4, hb4, s5, he4, xs, L, c, rfl, hx, ra, mem, hlen⟩
        rw [show ((b0 : Int) + 1 + (m : Int)) = ((b0 + 1 + m : Nat) : Int) by omega]
        have hk : b0 + 1 + m < R.length := by omega
        obtain ⟨g, hg⟩ : ∃ g, R[b0 + 1 + m]? = some g := ⟨_, List.getElem?_eq_getElem hk⟩
        have stay : (∀ F, ¬ BrkBy R (b0, bl) (b0 + 1 + m) F) → ∀ F, F ∈ L ↔ (∃ b ∈ B.take i, ∃ k, BrkBy R b k F) ∨ ∃ k, k < b0 + 1 + (m + 1) ∧ BrkBy R (b0, bl) k F := fun no F => by
          rw [mem]
          constructor
          · rintro (q | ⟨k, h1, h2⟩)
            · exact .inl q
            · exact .inr ⟨k, by omega, h2⟩
          · rintro (q | ⟨k, h1, h2⟩)
            · exact .inl q
            · rcases Nat.lt_or_ge k (b0 + 1 + m) with z | z
              · exact .inr ⟨k, z, h2⟩
              · have : k = b0 + 1 + m := by omega
                subst this
                exact absurd h2 (no F)
        have hve4 := hve.tle tl4
        refine ⟨_, rfl, _, rfl, _, _, _, g2.sm s5, rfl, at_map hg, fun u hu => ⟨_, _, _, hu, rfl, at0, fun u hu => ?_⟩⟩
        cases hu.toInt
        refine ⟨_, rfl, _, _, _, hve4, rfl, at0, fun u hu => ?_⟩
        cases hu.toInt
        refine ⟨rfl, _, rfl, ?_⟩
        rw [show decide (V.int (g.th : Int) = V.int (e.th : Int)) = decide (g.th = e.th) from decide_eq_decide.mpr ⟨fun q => by have := V.int.inj q; omega, fun q => by rw [q]⟩]
        by_cases ht : g.th = e.th
        · rw [decide_eq_true ht]
          refine iteF (iteF ⟨tl4, hb4, s5, he4, xs, L, _, rfl, hx, ra, stay fun F q => ?_, by omega⟩)
          obtain ⟨e', g', he', hg', hn, _⟩ := q
          have he' : R[b0]? = some e' := he'
          rw [he] at he'
          rw [hg] at hg'
          cases he'
          cases hg'
          exact hn ht
        · rw [decide_eq_false ht]
          refine iteT ?_
          refine ⟨_, rfl, _, rfl, _, rfl, R, le, xe, x, bl, b0 + 1 + m, rfl, he4, ?_, ?_, ?_, hk, fun c hc => ⟨_, rfl, ?_⟩⟩
          · exact rae2.tle (tl.trans tl4)
          · exact rx.tle tl4
          · intro b hb
            obtain ⟨_, _, f, _, hf, _⟩ := (qb.2 b).mp hb
            exact (List.getElem?_eq_some_iff.mp hf).1
          cases c with
          | false =>
            refine iteF ⟨tl4, hb4, s5, he4, xs, L, _, rfl, hx, ra, stay fun F q => ?_, by omega⟩
            obtain ⟨_, _, _, _, _, q1, q2, _⟩ := q
            exact absurd (hc.mpr ⟨q1, q2⟩) Bool.false_ne_true
          | true =>
            refine iteT ?_
            obtain ⟨c1, c2⟩ := hc.mp rfl
            refine ⟨_, rfl, .inl ⟨rfl, _, SqL.of hx⟩, ?_⟩
            refine ⟨_, rfl, _, _, _, hve4, rfl, at0, fun u hu => ?_⟩
            cases hu.toInt
            refine ⟨_, rfl, _, _, _, hve4, rfl, at1, fun u hu => ?_⟩
            cases hu.toInt
            refine ⟨_, rfl, _, rfl, _, _, _, g2.sm s5, rfl, at_map hg, fun u hu => ⟨_, _, _, hu, rfl, at0, fun u hu => ?_⟩⟩
            cases hu.toInt
            refine ⟨_, rfl, _, rfl, _, _, _, g2.sm s5, rfl, at_map hg, fun u hu => ⟨_, _, _, hu, rfl, at1, fun u hu => ?_⟩⟩
            cases hu.toInt
            refine ⟨_, .cons (.str _) (.cons (.int _) (.cons (.int _) (.cons (.int _) (.cons (.int _) .nil)))), by show 5 < 1000; decide, fun v H5 s6 hv => ?_⟩
            have hx5 := s6 _ _ hx
            refine ⟨l, xs, _, rfl, rfl, hx5, sizeLine_small (by rw [ra.length, List.length_map]; have := List.getElem?_eq_some_iff.mp hbl; obtain ⟨q, _⟩ := this; omega), ?_⟩
            have hlb5 : lb ≠ l := hlbl
            refine ⟨(tl4.trans (Tle.same s6)).trans (Tle.lst hx5), by rw [upd_ne hlbl]; exact s6 _ _ hb4, (s5.trans s6).wr hl0, by rw [upd_ne hlel]; exact s6 _ _ he4, _, L ++ [.broken e.th e.pc g.th g.pc], _, rfl, upd_same, ?_, fun F => ?_, by rw [List.length_append]; show L.length + 1 ≤ _; omega⟩
            · rw [List.map_append]
              exact ((ra.sm s6).snoc hv).tle (Tle.lst hx5)
            · rw [List.mem_append, mem, List.mem_singleton]
              constructor
              · rintro ((q | ⟨k, h1, h2⟩) | rfl)
                · exact .inl q
                · exact .inr ⟨k, by omega, h2⟩
                · exact .inr ⟨_, by omega, e, g, he, hg, ht, c1, c2, rfl⟩
              · rintro (q | ⟨k, h1, h2⟩)
                · exact .inl (.inl q)
                · rcases Nat.lt_or_ge k (b0 + 1 + m) with z | z
                  · exact .inl (.inr ⟨k, z, h2⟩)
                  · have : k = b0 + 1 + m := by omega
                    subst this
                    obtain ⟨e', g', he', hg', _, _, _, rfl⟩ := h2
                    have he' : R[b0]? = some e' := he'
                    rw [he] at he'
                    rw [hg] at hg'
                    cases he'
                    cases hg'
                    exact .inr rfl
      · rintro σ H4 ⟨tl4, hb4, s5, he4, xs, L, c, rfl, hx, ra, mem, hlen⟩
        refine ⟨⟨SqL.of hb4, tl.trans tl4⟩, hb4, s5, he4, xs, L, _, _, _, rfl, hx, ra, fun F => ?_, by omega⟩
        rw [mem, take_ex hbl]
        constructor
        · rintro (q | ⟨k, h1, h2⟩)
          · exact .inl q
          · exact .inr ⟨k, h2⟩
        · rintro (q | ⟨k, h2⟩)
          · exact .inl q
          · exact .inr ⟨k, by have := stop0 k F h2; omega, h2⟩
    · rintro σ H3 ⟨⟨_, tl⟩, hb3, s4, he3, xs, L, a, b, c, rfl, hx, ra, mem, hlen⟩
      rw [List.length_map, List.take_length] at mem
      rw [List.length_map] at hlen
      exact ⟨_, rfl, k L _ _ _ (fun F => (mem F).trans (brk_iff hB F)) (by omega) s4 hl0 hx ra⟩
end
end Ev

-- part EvW11
set_option maxHeartbeats 400000
set_option Elab.async false
set_option linter.all false
set_option maxRecDepth 100000
set_option maxHeartbeats 4000000
/-! The walks: the search. -/
namespace Ev
open PySem L2
section
variable {P : Program} {w : World} {K : PySem.W.Frag} {mg : Str → Option Value} {base : Heap} {C : Addr}
theorem dI_inj {a b : Nat} (h : dI a = dI b) : a = b := by
  have := PyData.int.inj h
  omega
theorem mapI_inj : ∀ {a b : List Nat}, a.map dI = b.map dI → a = b
  | [], [], _ => rfl
  | [], _ :: _, h => nomatch h
  | _ :: _, [], h => nomatch h
  | x :: a, y :: b, h => by
    have h1 := (List.cons.inj h).1
    have h2 := (List.cons.inj h).2
    rw [dI_inj h1, mapI_inj h2]
theorem eSch_inj {a b : List Nat} (h : eSch a = eSch b) : a = b := mapI_inj (PyData.tuple.inj h)
/-- beginnings: 0 program, 1 limit, 2 entry, 3 found, 4 thread, 5 made -/
abbrev s_beginnings : Stmt := top 56
theorem sc_beginnings : FnScope ["program", "limit", "entry", "found", "thread", "made"] ["program", "limit", "entry"] (defScope s_beginnings) := ⟨rfl, rfl, rfl, by decide +kernel, rfl, by decide +kernel, by decide +kernel⟩
def pBegin (ds es : List D) : Prop := ∃ p L, ∃ e : Ent, ds = [eProg p, dI L, eEnt e] ∧ p.length < 1000 ∧ WF p e.s ∧ e.S.length < 900 ∧ e.R.length < 900 ∧ es = (kidsT p L e).map eEnt
theorem ok_beginnings (T : Txt w K mg C) : Cal P w K mg base 10 "beginnings" ["program", "limit", "entry"] (spL K pBegin) := by
  refine T.d_beginnings.ok sc_beginnings (fun vs H Q E h => ?_) (fun f cdv A outer s H vs Q E hr h => ?_)
  · obtain ⟨_, _, hd, ⟨_, _, _, rfl, _⟩, _⟩ := h
    exact hd.length
  · obtain ⟨ds, es, hd, ⟨p, L, e, rfl, hp, wf, hS, hRl, rfl⟩, k⟩ := h
    rcases hd with _ | ⟨g1, _ | ⟨g2, _ | ⟨g3, _ | _⟩⟩⟩
    cases g2.toInt
    rename_i v1 v3
    refine ⟨_, (pss_cons (ps_set (i := 3) sc_beginnings.nd rfl (Or.inl rfl) (pe_lst pa_nil))
        (pss_cons (ps_if (pt_cmpR op_lt (pe_callB call_lenD' (by rfl) T.len PySem.boot_len (pa_cons (pe_ix ix_D (pv 2) pe_int (fun _ _ => rfl)) pa_nil)) (pv 1) (nomark _))
          (pss_one (ps_for PassesOwn.never rfl (pi_tup (pe_own (ok_enabled T) (hr.mono (by decide)) rfl (pa_cons (pv 0) (pa_cons (pe_ix ix_D (pv 2) pe_int (fun _ _ => rfl)) pa_nil)))) (pg_name (i := 4) sc_beginnings.nd rfl (Or.inl rfl))
            (pss_cons (ps_set (i := 5) sc_beginnings.nd rfl (Or.inl rfl) (pe_own (ok_make_step T) (hr.mono (by decide)) rfl (pa_cons (pv 0) (pa_cons (pe_ix ix_D (pv 2) pe_int (fun _ _ => rfl)) (pa_cons (pv 4) pa_nil)))))
            (pss_one (ps_if (pt_not (pt_val (pe_own (ok_can_come_sooner T) (hr.mono (by decide)) rfl (pa_cons (pe_ix ix_D (pv 2) pe_int (fun _ _ => rfl)) (pa_cons (pe_ix ix_D (pv 5) pe_int (fun _ _ => rfl)) pa_nil)))))
              (pss_one (ps_expr (pe_bm PySem.F.plainAttrs_list PySem.F.slot_list_append PySem.F.type_list_append mt_append (pv 3) (pa_cons (pe_tupN (pa_cons (pe_op op_catD (pe_ix ix_D (pv 2) pe_int (fun _ _ => rfl)) (pe_tupN (pa_cons (pv 4) pa_nil))) (pa_cons (pe_op op_catD (pe_ix ix_D (pv 2) pe_int (fun _ _ => rfl)) (pe_tupN (pa_cons (pe_ix ix_D (pv 5) pe_int (fun _ _ => rfl)) pa_nil))) (pa_cons (pe_ix ix_D (pv 5) pe_int (fun _ _ => rfl)) pa_nil)))) pa_nil))))
              pss_nil)))))
          pss_nil)
        (pss_one (ps_ret (pv 3))))), ?_⟩
    refine ⟨Nat.zero_le _, fun l hl => ?_⟩
    have s0 : Same H (upd H l (.lst [])) := Same.new0 hl
    refine ⟨_, rfl, _, _, _, g3.sm s0, rfl, at0, fun u hu => ⟨_, _, rfl, hu, ?_⟩⟩
    refine ⟨_, rfl, _, _, rfl, rfl, _, rfl, ?_⟩
    rw [show decide (((e.S.map dI).length : Int) < (L : Int)) = decide (e.S.length < L) from by rw [List.length_map]; exact decide_eq_decide.mpr (by omega)]
    have ek : kidsT p L e = if e.S.length < L then ((enabled p e.s).filter fun t => !canSooner e.R (stp p e.s t)).map (kid p e) else [] := rfl
    by_cases hL : e.S.length < L
    · rw [decide_eq_true hL]
      rw [if_pos hL] at ek
      refine iteT ?_
      refine ⟨_, rfl, _, rfl, _, _, _, g3.sm s0, rfl, atI_nat (j := 2) rfl, fun u hu => ?_⟩
      refine ⟨_, _, .cons (g1.sm s0) (.cons hu .nil), ⟨p, e.s, rfl, hp, wf, rfl⟩, fun H1 v s1 hv => ?_⟩
      have s01 := s0.trans s1
      refine for_D (fun m σ H' => Same H H' ∧ Tle K H1 H' ∧ ∃ xs a b, σ = [some v1, some (.int (L : Int)), some v3, some (.ref l), a, b] ∧ H' l = some (.lst xs) ∧ xs.length ≤ m ∧ RpAll K H' xs (((((enabled p e.s).take m).filter fun t => !canSooner e.R (stp p e.s t)).map (kid p e)).map eEnt)) hv
        ⟨s01, Tle.refl, [], none, none, rfl, s1 _ _ upd_same, Nat.le_refl _, .nil⟩ (fun i σ H' q => q.2.1) ?_ ?_
      · rintro m x dd σ H2 em r ⟨s2, tl, xs, a, b, rfl, hx, hlen, ra⟩
        rw [List.getElem?_map] at em
        obtain ⟨t, ht, rfl⟩ := Option.map_eq_some_iff.mp em
        cases r.toInt
        have hen := (en_mem wf).mp (List.mem_of_getElem? ht)
        have hm : m < 1000 := by
          have := (List.getElem?_eq_some_iff.mp ht).1
          have := enabled_len p e.s
          omega
        refine ⟨_, rfl, _, rfl, _, _, _, g3.sm s2, rfl, atI_nat (j := 2) rfl, fun u hu => ⟨_, rfl, ?_⟩⟩
        refine ⟨_, _, .cons (g1.sm s2) (.cons hu (.cons (.int _) .nil)), ⟨p, e.s, t, rfl, hp, wf, hen, rfl⟩, fun H3 v3' s3 hv3 => ?_⟩
        have s23 := s2.trans s3
        refine ⟨_, rfl, _, _, _, g3.sm s23, rfl, at1, fun u hu => ⟨_, rfl, _, _, _, hv3, rfl, at1, fun u2 hu2 => ?_⟩⟩
        refine ⟨_, _, .cons hu (.cons hu2 .nil), ⟨e.R, _, rfl, by omega, rfl⟩, fun H4 v4 s4 hv4 => ?_⟩
        cases hv4.toBl
        refine ⟨_, rfl, ?_⟩
        have s34 := s23.trans s4
        have hx4 := s4 _ _ (s3 _ _ hx)
        have ra4 := (ra.sm s3).sm s4
        have hv34 := hv3.sm s4
        have ft := filt_take (p := fun t => !canSooner e.R (stp p e.s t)) ht
        cases hc : canSooner e.R (stp p e.s t) with
        | true =>
          refine iteF ⟨s34, (tl.trans (Tle.same s3)).trans (Tle.same s4), xs, _, _, rfl, hx4, by omega, ?_⟩
          rw [ft, if_neg (by simp [hc]), List.append_nil]
          exact ra4
        | false =>
          refine iteT ?_
          refine ⟨_, rfl, .inl ⟨rfl, _, SqL.of hx4⟩, ?_⟩
          refine ⟨_, rfl, _, _, _, g3.sm s34, rfl, at0, fun u5 hu5 => ?_⟩
          refine ⟨_, rfl, _, .cons (.int _) .nil, by show 1 < 1000; decide, fun v6 H6 s6 hv6 => ?_⟩
          refine ⟨_, _, hu5.sm s6, hv6, by rw [List.length_map]; exact Nat.le_of_lt (sizeLine_small (by show e.S.length + 1 < _; omega)), fun v7 H7 s7 hv7 => ?_⟩
          have s47 := (s34.trans s6).trans s7
          refine ⟨_, rfl, _, _, _, g3.sm s47, rfl, at1, fun u8 hu8 => ?_⟩
          refine ⟨_, rfl, _, _, _, (hv34.sm s6).sm s7, rfl, at1, fun u9 hu9 => ?_⟩
          refine ⟨_, .cons hu9 .nil, by show 1 < 1000; decide, fun v10 H10 s10 hv10 => ?_⟩
          refine ⟨_, _, hu8.sm s10, hv10, by rw [List.length_map]; exact Nat.le_of_lt (sizeLine_small (by show e.R.length + 1 < _; omega)), fun v11 H11 s11 hv11 => ?_⟩
          refine ⟨_, rfl, _, _, _, (((hv34.sm s6).sm s7).sm s10).sm s11, rfl, at0, fun u12 hu12 => ?_⟩
          refine ⟨_, .cons ((hv7.sm s10).sm s11) (.cons hv11 (.cons hu12 .nil)), by show 3 < 1000; decide, fun v13 H13 s13 hv13 => ?_⟩
          have s4d := (((s6.trans s7).trans s10).trans s11).trans s13
          have hx13 := s4d _ _ hx4
          refine ⟨l, xs, _, rfl, rfl, hx13, sizeLine_small (by omega), ?_⟩
          refine ⟨(s34.trans s4d).wr hl, ((tl.trans (Tle.same (s3.trans s4))).trans (Tle.same s4d)).trans (Tle.lst hx13), _, _, _, rfl, upd_same, by rw [List.length_append]; show xs.length + 1 ≤ _; omega, ?_⟩
          rw [ft, if_pos (by simp [hc]), List.map_append, List.map_append]
          refine ((ra4.sm s4d).snoc ?_).tle (Tle.lst hx13)
          have ee : eEnt (kid p e t) = .tuple [.tuple (e.S.map dI ++ [dI t]), .tuple (e.R.map eSp ++ [eSp (stp p e.s t)]), eSt (nxt p e.s t)] := by
            unfold eEnt kid eSch eRow
            rw [List.map_append, List.map_append]
            rfl
          rw [ee]
          exact hv13
      · rintro σ H2 ⟨s2, tl, xs, a, b, rfl, hx, hlen, ra⟩
        rw [List.length_map, List.take_length] at ra
        rw [ek] at k
        exact ⟨_, rfl, k _ _ _ s2 hl hx ra⟩
    · rw [decide_eq_false hL]
      rw [if_neg hL] at ek
      rw [ek] at k
      exact iteF ⟨_, rfl, k _ _ _ s0 hl upd_same .nil⟩

/-- all that the search meets -/
theorem dfs_ok {p : Prog} (po : POk p) {Kd : Ent → List Ent} {L : Nat} (g : Grow Kd L) (hK : ∀ e k, k ∈ Kd e → k ∈ kidsA p L e) {e : Ent} (h : e ∈ dfs Kd L (mk p [])) : e = mk p e.S ∧ okS p (first p) e.S ∧ e.S.length ≤ L ∧ WF p e.s := by
  obtain ⟨V, rfl, h1, h2⟩ := mem_dfs po g hK L [] (by simp) trivial (Nat.zero_le _) e h
  exact ⟨rfl, h1, h2, wf_goAll po (wf_first po) h1⟩
theorem RpAll.unsnoc {K : PySem.W.Frag} {H : Hp} {vs : List V} {ds : List D} {d : D} (h : RpAll K H vs (ds ++ [d])) : ∃ v, vs[vs.length - 1]? = some v ∧ Rp K H v d ∧ RpAll K H vs.dropLast ds := by
  have hl := h.length
  rw [List.length_append] at hl
  have hl : vs.length = ds.length + 1 := hl
  obtain ⟨v, e, r⟩ := h.get (i := ds.length) (d := d) (by rw [List.getElem?_append_right (Nat.le_refl _), Nat.sub_self]; rfl)
  refine ⟨v, by rw [hl]; exact e, r, ?_⟩
  have := h.take ds.length
  rw [List.take_left] at this
  rw [List.dropLast_eq_take, hl]
  exact this
/-- tried: 0 program, 1 limit, 2 most, 3 found, 4 waiting, 5 entry -/
abbrev s_tried : Stmt := top 57
theorem sc_tried : FnScope ["program", "limit", "most", "found", "waiting", "entry"] ["program", "limit", "most"] (defScope s_tried) := ⟨rfl, rfl, rfl, by decide +kernel, rfl, by decide +kernel, by decide +kernel⟩
def pTried (ds es : List D) : Prop := ∃ p, ∃ L most : Nat, ds = [eProg p, dI L, dI most] ∧ p.length < 1000 ∧ POk p ∧ Small p ∧ L ≤ 8 ∧ 700 ≤ most ∧ es = (dfs (kidsT p L) L (mk p [])).map eEnt
theorem ok_tried (T : Txt w K mg C) : Cal P w K mg base 11 "tried" ["program", "limit", "most"] (spL K pTried) := by
  refine T.d_tried.ok sc_tried (fun vs H Q E h => ?_) (fun f cdv A outer s H vs Q E hr h => ?_)
  · obtain ⟨_, _, hd, ⟨_, _, _, rfl, _⟩, _⟩ := h
    exact hd.length
  · obtain ⟨ds, es, hd, ⟨p, L, most, rfl, hp, po, sm, hL, hm, rfl⟩, k⟩ := h
    rcases hd with _ | ⟨g1, _ | ⟨g2, _ | ⟨g3, _ | _⟩⟩⟩
    cases g2.toInt
    cases g3.toInt
    rename_i v1
    have gr := grow_T p L
    have hsub := sub_T p L
    have hall : ∀ {e}, e ∈ dfs (kidsT p L) L (mk p []) → _ := fun h => dfs_ok po gr hsub h
    have hcnt := dfs_len po sm hL gr hsub (kidsT_len p L)
    refine ⟨_, (pss_cons (ps_set (i := 3) sc_tried.nd rfl (Or.inl rfl) (pe_lst pa_nil))
        (pss_cons (ps_set (i := 4) sc_tried.nd rfl (Or.inl rfl) (pe_lst (pa_cons (pe_tupN (pa_cons (pe_tupN pa_nil) (pa_cons (pe_tupN pa_nil) (pa_cons (pe_own (ok_first_state T) (hr.mono (by decide)) rfl (pa_cons (pv 0) pa_nil)) pa_nil)))) pa_nil)))
        (pss_cons (ps_while PassesOwn.never (pt_cmpR op_gt (pe_callB call_len_seq (by rfl) T.len PySem.boot_len (pa_cons (pv 4) pa_nil)) pe_int (nomark _))
          (pss_cons (ps_set (i := 5) sc_tried.nd rfl (Or.inl rfl) (pe_bm0 PySem.F.plainAttrs_list PySem.F.slot_list_pop PySem.F.type_list_pop mt_pop (pv 4)))
          (pss_cons (ps_if (pt_cmpR op_ge (pe_callB call_len_seq (by rfl) T.len PySem.boot_len (pa_cons (pv 3) pa_nil)) (pv 2) (nomark _))
            (pss_one ps_never)
            pss_nil)
          (pss_cons (ps_expr (pe_bm PySem.F.plainAttrs_list PySem.F.slot_list_append PySem.F.type_list_append mt_append (pv 3) (pa_cons (pv 5) pa_nil)))
          (pss_one (ps_expr (pe_bm PySem.F.plainAttrs_list PySem.F.slot_list_extend PySem.F.type_list_extend mt_extend (pv 4) (pa_cons (pe_revL (pe_own (ok_beginnings T) (hr.mono (by decide)) rfl (pa_cons (pv 0) (pa_cons (pv 1) (pa_cons (pv 5) pa_nil))))) pa_nil))))))))
        (pss_one (ps_ret (pv 3)))))), ?_⟩
    refine ⟨Nat.zero_le _, fun l hl => ?_⟩
    have s0 : Same H (upd H l (.lst [])) := Same.new0 hl
    have hx0 : upd H l (.lst []) l = some (.lst []) := upd_same
    generalize upd H l (.lst []) = G1 at s0 hx0
    refine ⟨_, .nil, by show 0 < 1000; decide, fun w1 G2 g1' r1 => ⟨_, .nil, by show 0 < 1000; decide, fun w2 G3 g2' r2 => ?_⟩⟩
    refine ⟨_, rfl, _, _, .cons (g1.sm ((s0.trans g1').trans g2')) .nil, ⟨p, rfl, hp, rfl⟩, fun G4 w3 g3' r3 => ?_⟩
    refine ⟨_, .cons ((r1.sm g2').sm g3') (.cons (r2.sm g3') (.cons r3 .nil)), by show 3 < 1000; decide, fun w4 G5 g4' r4 => ?_⟩
    refine ⟨by show 1 ≤ sizeLine; exact Nat.le_of_lt (sizeLine_small (by decide)), fun lw hlw => ?_⟩
    have s5 := (((s0.trans g1').trans g2').trans g3').trans g4'
    have s6 : Same H (upd G5 lw (.lst [w4])) := s5.new hlw
    have hlw0 : H lw = none := s5.free hlw
    have hx5 : G5 l = some (.lst []) := g4' _ _ (g3' _ _ (g2' _ _ (g1' _ _ hx0)))
    have hne : lw ≠ l := fun q => by subst q; rw [hx5] at hlw; cases hlw
    have r4 : Rp K G5 w4 (eEnt (mk p [])) := r4
    refine ⟨fun m σ H' => Same H H' ∧ ∃ (F St : List Ent) (xs ys : List V) (b : Option V), σ = [some v1, some (.int (L : Int)), some (.int (most : Int)), some (.ref l), some (.ref lw), b] ∧ H' l = some (.lst xs) ∧ H' lw = some (.lst ys) ∧ RpAll K H' xs (F.map eEnt) ∧ RpAll K H' ys (St.reverse.map eEnt) ∧
        F ++ St.flatMap (dfs (kidsT p L) L) = dfs (kidsT p L) L (mk p []) ∧ m = (St.flatMap (dfs (kidsT p L) L)).length,
      ⟨_, s6, [], [mk p []], [], [w4], none, rfl, by rw [upd_ne hne.symm]; exact hx5, upd_same, .nil, .cons (r4.tle (Tle.new hlw)) .nil, by simp, rfl⟩, ?_⟩
    rintro m σ H1 ⟨s1, F, St, xs, ys, b, rfl, hx, hy, rx, ry, tot, rfl⟩
    refine ⟨_, rfl, lw, ys, rfl, .inl (SqL.of hy), _, _, rfl, rfl, _, rfl, ?_⟩
    have ely : ys.length = St.length := by rw [ry.length, List.length_map, List.length_reverse]
    cases St with
    | nil =>
      rw [show decide (((0 : Int)) < (ys.length : Int)) = false from by rw [ely]; rfl]
      refine iteF ⟨_, rfl, k _ _ _ s1 hl hx ?_⟩
      rw [List.flatMap_nil, List.append_nil] at tot
      rw [← tot]
      exact rx
    | cons e St =>
      rw [show decide (((0 : Int)) < (ys.length : Int)) = true from by rw [ely]; exact decide_eq_true (by show (0 : Int) < ((St.length + 1 : Nat) : Int); omega)]
      refine iteT ?_
      refine ⟨_, fun σ' H' q => q, ?_⟩
      have hein : e ∈ dfs (kidsT p L) L (mk p []) := by
        rw [← tot, List.flatMap_cons, dfs_eq gr]
        simp
      obtain ⟨hmk, hok, hlen, hwf⟩ := hall hein
      have htl : F.length + 1 ≤ 600 := by
        refine Nat.le_trans ?_ hcnt
        rw [← tot, List.flatMap_cons, dfs_eq gr e, List.length_append]
        simp only [List.cons_append, List.length_cons]
        omega
      have hkl := kidsT_len p L e
      have hSl : St.length ≤ 600 := by
        refine Nat.le_trans ?_ hcnt
        rw [← tot, List.flatMap_cons, List.length_append, List.length_append]
        have : ∀ l : List Ent, l.length ≤ (l.flatMap (dfs (kidsT p L) L)).length := by
          intro l
          induction l with
          | nil => exact Nat.le_refl _
          | cons a l ih =>
            rw [List.flatMap_cons, dfs_eq gr a, List.length_append, List.length_cons, List.length_cons]
            omega
        have := this St
        omega
      rw [List.reverse_cons, List.map_append] at ry
      obtain ⟨ve, hve, rve, ry'⟩ := RpAll.unsnoc ry
      refine ⟨_, rfl, .inl ⟨rfl, _, SqL.of hy⟩, lw, ys, ve, rfl, rfl, hy, hve, ?_⟩
      have s2 : Same H (upd H1 lw (.lst ys.dropLast)) := s1.wr hlw0
      have T2 : Tle K H1 (upd H1 lw (.lst ys.dropLast)) := Tle.lst hy
      have hx2 : upd H1 lw (.lst ys.dropLast) l = some (.lst xs) := by rw [upd_ne hne.symm]; exact hx
      have hy2 : upd H1 lw (.lst ys.dropLast) lw = some (.lst ys.dropLast) := upd_same
      have rx := rx.tle T2
      have ry := ry'.tle T2
      have rve := rve.tle T2
      generalize upd H1 lw (.lst ys.dropLast) = H2 at s2 hx2 hy2 rx ry rve
      have lx : xs.length = F.length := by rw [rx.length, List.length_map]
      refine ⟨_, rfl, l, xs, rfl, .inl (SqL.of hx2), _, rfl, _, _, rfl, rfl, _, rfl, ?_⟩
      rw [decide_eq_false (by rw [lx]; omega)]
      refine iteF ?_
      refine ⟨_, rfl, .inl ⟨rfl, _, SqL.of hx2⟩, _, rfl, l, xs, _, rfl, rfl, hx2, sizeLine_small (by omega), ?_⟩
      have s3 : Same H (upd H2 l (.lst (xs ++ [ve]))) := s2.wr hl
      have T3 : Tle K H2 (upd H2 l (.lst (xs ++ [ve]))) := Tle.lst hx2
      have hx3 : upd H2 l (.lst (xs ++ [ve])) l = some (.lst (xs ++ [ve])) := upd_same
      have hy3 : upd H2 l (.lst (xs ++ [ve])) lw = some (.lst ys.dropLast) := by rw [upd_ne hne]; exact hy2
      have rx3 : RpAll K (upd H2 l (.lst (xs ++ [ve]))) (xs ++ [ve]) ((F ++ [e]).map eEnt) := by
        rw [List.map_append]
        exact (rx.snoc rve).tle T3
      have ry := ry.tle T3
      have rve := rve.tle T3
      generalize upd H2 l (.lst (xs ++ [ve])) = H3 at s3 hx3 hy3 rx3 ry rve
      have hRlen : e.R.length < 900 := by
        rw [hmk]
        show (stepsOf p (first p) e.S).length < 900
        rw [stepsOf_len]
        omega
      refine ⟨_, rfl, .inl ⟨rfl, _, SqL.of hy3⟩, _, rfl, _, rfl, _, rfl, ?_⟩
      refine ⟨_, _, .cons (g1.sm s3) (.cons (.int _) (.cons rve .nil)), ⟨p, L, e, rfl, hp, hwf, by omega, hRlen, rfl⟩, fun H4 l3 x3 s4 hl3 hx4 r4' => ?_⟩
      refine ⟨l3, x3, rfl, SqL.of hx4, fun q hq => ?_⟩
      have s5' := s3.trans (s4.new hq (o := .lst x3.reverse))
      have T5 : Tle K H4 (upd H4 q (.lst x3.reverse)) := Tle.new hq
      have hy5 : upd H4 q (.lst x3.reverse) lw = some (.lst ys.dropLast) := (s4.new hq) _ _ hy3
      have hx5' : upd H4 q (.lst x3.reverse) l = some (.lst (xs ++ [ve])) := (s4.new hq) _ _ hx3
      have rx5 := (rx3.sm s4).tle T5
      have ry5 := (ry.sm s4).tle T5
      have r5 := (r4'.rev).tle T5
      have hq5 : upd H4 q (.lst x3.reverse) q = some (.lst x3.reverse) := upd_same
      generalize upd H4 q (.lst x3.reverse) = H5 at s5' hy5 hx5' rx5 ry5 r5 hq5
      have ly : ys.dropLast.length = St.length := by rw [ry5.length, List.length_map, List.length_reverse]
      have lx3 : x3.reverse.length = (kidsT p L e).length := by rw [r5.length, List.length_reverse, List.length_map]
      refine ⟨lw, q, ys.dropLast, x3.reverse, rfl, rfl, hy5, hq5, Nat.le_of_lt (sizeLine_small (by omega)), ?_⟩
      refine ⟨_, ?_, s5'.wr hlw0, F ++ [e], kidsT p L e ++ St, _, _, _, rfl, by rw [upd_ne hne.symm]; exact hx5', upd_same, rx5.tle (Tle.lst hy5), ?_, ?_, rfl⟩
      · rw [List.flatMap_cons, dfs_eq gr e, List.flatMap_append]
        simp only [List.cons_append, List.length_cons]
        omega
      · rw [List.reverse_append, List.map_append, List.map_reverse (l := kidsT p L e)]
        exact (ry5.app r5).tle (Tle.lst hy5)
      · rw [← tot, List.flatMap_cons, dfs_eq gr e, List.flatMap_append]
        simp

/-- is_complete: 0 program, 1 limit, 2 entry -/
abbrev s_is_complete : Stmt := top 58
theorem sc_is_complete : FnScope ["program", "limit", "entry"] ["program", "limit", "entry"] (defScope s_is_complete) := ⟨rfl, rfl, rfl, by decide +kernel, rfl, by decide +kernel, by decide +kernel⟩
def compl (p : Prog) (L : Nat) (e : Ent) : Bool := decide (e.S.length = L) || decide ((enabled p e.s).length = 0)
def pCompl (ds : List D) (d : D) : Prop := ∃ p L, ∃ e : Ent, ds = [eProg p, dI L, eEnt e] ∧ p.length < 1000 ∧ WF p e.s ∧ d = .bool (compl p L e)
theorem ok_is_complete (T : Txt w K mg C) : Cal P w K mg base 10 "is_complete" ["program", "limit", "entry"] (spR K pCompl) := by
  refine T.d_is_complete.ok sc_is_complete (fun vs H Q E h => ?_) (fun f cdv A outer s H vs Q E hr h => ?_)
  · obtain ⟨_, _, hd, ⟨_, _, _, rfl, _⟩, _⟩ := h
    exact hd.length
  · obtain ⟨ds, es, hd, ⟨p, L, e, rfl, hp, wf, rfl⟩, k⟩ := h
    rcases hd with _ | ⟨g1, _ | ⟨g2, _ | ⟨g3, _ | _⟩⟩⟩
    cases g2.toInt
    refine ⟨_, (pss_one (ps_ret (pe_or (pe_cmpR op_eq (pe_callB call_lenD' (by rfl) T.len PySem.boot_len (pa_cons (pe_ix ix_D (pv 2) pe_int (fun _ _ => rfl)) pa_nil)) (pv 1) (nomark _)) (pe_one (pe_cmpR op_eq (pe_callB call_lenD' (by rfl) T.len PySem.boot_len (pa_cons (pe_own (ok_enabled T) (hr.mono (by decide)) rfl (pa_cons (pv 0) (pa_cons (pe_ix ix_D (pv 2) pe_int (fun _ _ => rfl)) pa_nil))) pa_nil)) pe_int (nomark _)))))), ?_⟩
    refine ⟨_, rfl, _, _, _, g3, rfl, at0, fun u hu => ⟨_, _, rfl, hu, ?_⟩⟩
    refine ⟨_, rfl, rfl, _, rfl, ?_⟩
    rw [show decide (V.int ((e.S.map dI).length : Int) = V.int (L : Int)) = decide (e.S.length = L) from by rw [List.length_map]; exact decide_eq_decide.mpr ⟨fun q => by have := V.int.inj q; omega, fun q => by rw [q]⟩]
    unfold compl at k
    by_cases c : e.S.length = L
    · rw [decide_eq_true c] at k ⊢
      exact iteT (k _ _ (Same.refl _) (.bl _))
    · rw [decide_eq_false c] at k ⊢
      rw [Bool.false_or] at k
      refine iteF ?_
      refine ⟨_, rfl, _, rfl, _, _, _, g3, rfl, atI_nat (j := 2) rfl, fun u hu => ?_⟩
      refine ⟨_, _, .cons g1 (.cons hu .nil), ⟨p, e.s, rfl, hp, wf, rfl⟩, fun H1 v s1 hv => ?_⟩
      refine ⟨_, _, rfl, hv, rfl, ?_⟩
      have := k H1 (.bl (decide ((enabled p e.s).length = 0))) s1 (.bl _)
      rw [show decide (V.int ((((enabled p e.s).map dI).length : Nat) : Int) = V.int 0) = decide ((enabled p e.s).length = 0) from by rw [List.length_map]; exact decide_eq_decide.mpr ⟨fun q => by have := V.int.inj q; omega, fun q => by rw [q]; rfl⟩]
      exact this

open Classical in
/-- an entry is kept if its schedule is of the set -/
noncomputable def keepF (q : List Nat → Prop) : D → Option D
  | .tuple (a :: r) => if ∃ S, a = eSch S ∧ q S then some (.tuple (a :: r)) else none
  | _ => none
open Classical in
theorem keep_ent {q : List Nat → Prop} {e : Ent} : keepF q (eEnt e) = if q e.S then some (eEnt e) else none := by
  by_cases h : q e.S
  · rw [if_pos h]
    exact if_pos ⟨_, rfl, h⟩
  · rw [if_neg h]
    exact if_neg fun ⟨S, h1, h2⟩ => h (by rw [eSch_inj h1]; exact h2)
theorem keep_all {q : List Nat → Prop} {b : Ent → Bool} : ∀ {E : List Ent}, (∀ e ∈ E, q e.S ↔ b e = true) → (E.map eEnt).filterMap (keepF q) = (E.filter b).map eEnt
  | [], _ => rfl
  | e :: E, h => by
    rw [List.map_cons, List.filterMap_cons, keep_ent, List.filter_cons]
    by_cases c : q e.S
    · rw [if_pos c, if_pos ((h e List.mem_cons_self).mp c), List.map_cons, keep_all fun x hx => h x (List.mem_cons_of_mem _ hx)]
    · rw [if_neg c, if_neg fun z => c ((h e List.mem_cons_self).mpr z), keep_all fun x hx => h x (List.mem_cons_of_mem _ hx)]
/-- complete_ones: 0 program, 1 limit, 2 entries, 3 entry -/
abbrev s_complete_ones : Stmt := top 59
theorem sc_complete_ones : FnScope ["program", "limit", "entries", "entry"] ["program", "limit", "entries"] (defScope s_complete_ones) := ⟨rfl, rfl, rfl, by decide +kernel, rfl, by decide +kernel, by decide +kernel⟩
def spCO (K : PySem.W.Frag) : L2.Sp := fun vs H Q _ => ∃ p, ∃ L : Nat, ∃ E : List Ent, ∃ vp le xs, vs = [vp, .int (L : Int), .ref le] ∧ Rp K H vp (eProg p) ∧ H le = some (.lst xs) ∧ RpAll K H xs (E.map eEnt) ∧ p.length < 1000 ∧ E.length < 100000 ∧ (∀ e ∈ E, e = mk p e.S ∧ WF p e.s) ∧
  ∀ H' l ys, Same H H' → H l = none → H' l = some (.lst ys) → RpAll K H' ys ((E.filter (compl p L)).map eEnt) → Q (.ref l) H'
theorem ok_complete_ones (T : Txt w K mg C) : Cal P w K mg base 11 "complete_ones" ["program", "limit", "entries"] (spCO K) := by
  refine T.d_complete_ones.ok sc_complete_ones (fun vs H Q E h => ?_) (fun f cdv A outer s H vs Q E hr h => ?_)
  · obtain ⟨_, _, _, _, _, _, rfl, _⟩ := h
    rfl
  · obtain ⟨p, L, En, vp, le, xs, rfl, g1, hx, rx, hp, hlen, hE, k⟩ := h
    refine ⟨_, (pss_one (ps_ret (pe_lc (own := [("entry", 3)]) (g := gName 3) rfl sc_complete_ones.nd (pi_list (pv 2)) (blkOk_by (N := ["program", "limit", "entries", "entry"]) (sc := defScope s_complete_ones) (own := [("entry", 3)]) (by decide +kernel)) (fun _ _ _ _ _ => (pg_name (i := 3) sc_complete_ones.nd rfl (Or.inl rfl))) (fun _ _ _ _ _ => (pts_one (pt_val (pe_own (ok_is_complete T) (hr.mono (by decide)) rfl (pa_cons (pv 0) (pa_cons (pv 1) (pa_cons (pv 3) pa_nil))))))) (fun _ _ _ _ _ => (pv 3))))), ?_⟩
    refine ⟨_, rfl, ?_⟩
    have hq : ∀ e ∈ En, (∃ e', e' ∈ En ∧ e'.S = e.S ∧ compl p L e' = true) ↔ compl p L e = true := fun e he => ⟨fun ⟨e', h1, h2, h3⟩ => by
      have q1 := (hE e he).1
      have q2 := (hE e' h1).1
      rw [h2, ← q1] at q2
      rw [← q2]
      exact h3, fun h => ⟨e, he, rfl, h⟩⟩
    refine lc_LD (keepF fun S => ∃ e', e' ∈ En ∧ e'.S = S ∧ compl p L e' = true) (SqL.of hx) rx (by rw [List.length_map]; omega) (fun x d H' Cn N hd r s1 c1 c2 => ⟨rfl, ?_⟩) fun l acc H' hl s1 e ra => ?_
    · obtain ⟨e, he, rfl⟩ := List.mem_map.mp hd
      refine ⟨_, rfl, _, rfl, _, rfl, ?_⟩
      refine ⟨_, _, .cons (g1.sm s1) (.cons (.int _) (.cons r .nil)), ⟨p, L, e, rfl, hp, (hE e he).2, rfl⟩, fun H2 v s2 hv => ?_⟩
      cases hv.toBl
      refine ⟨_, rfl, ?_⟩
      by_cases c : compl p L e = true
      · rw [c]
        exact iteT ⟨_, rfl, c1 _ _ _ (by rw [keep_ent, if_pos ((hq e he).mpr c)]) (r.sm s2) s2⟩
      · rw [show compl p L e = false by simpa using c]
        exact iteF (c2 (by rw [keep_ent, if_neg fun z => c ((hq e he).mp z)]) _ s2)
    · rw [keep_all hq] at ra
      exact k _ _ _ s1 hl e ra

/-- executions: 0 program, 1 limit, 2 most -/
abbrev s_executions : Stmt := top 60
theorem sc_executions : FnScope ["program", "limit", "most"] ["program", "limit", "most"] (defScope s_executions) := ⟨rfl, rfl, rfl, by decide +kernel, rfl, by decide +kernel, by decide +kernel⟩
def pExec (ds es : List D) : Prop := ∃ p, ∃ L most : Nat, ds = [eProg p, dI L, dI most] ∧ p.length < 1000 ∧ POk p ∧ Small p ∧ L ≤ 8 ∧ 700 ≤ most ∧ es = ((dfs (kidsT p L) L (mk p [])).filter (compl p L)).map eEnt
theorem ok_executions (T : Txt w K mg C) : Cal P w K mg base 12 "executions" ["program", "limit", "most"] (spL K pExec) := by
  refine T.d_executions.ok sc_executions (fun vs H Q E h => ?_) (fun f cdv A outer s H vs Q E hr h => ?_)
  · obtain ⟨_, _, hd, ⟨_, _, _, rfl, _⟩, _⟩ := h
    exact hd.length
  · obtain ⟨ds, es, hd, ⟨p, L, most, rfl, hp, po, sm, hL, hm, rfl⟩, k⟩ := h
    rcases hd with _ | ⟨g1, _ | ⟨g2, _ | ⟨g3, _ | _⟩⟩⟩
    cases g2.toInt
    refine ⟨_, (pss_one (ps_ret (pe_own (ok_complete_ones T) (hr.mono (by decide)) rfl (pa_cons (pv 0) (pa_cons (pv 1) (pa_cons (pe_own (ok_tried T) (hr.mono (by decide)) rfl (pa_cons (pv 0) (pa_cons (pv 1) (pa_cons (pv 2) pa_nil)))) pa_nil)))))), ?_⟩
    refine ⟨_, rfl, _, rfl, _, rfl, _, rfl, _, rfl, ?_⟩
    refine ⟨_, _, .cons g1 (.cons (.int _) (.cons g3 .nil)), ⟨p, L, most, rfl, hp, po, sm, hL, hm, rfl⟩, fun H1 l xs s1 hl hx ra => ?_⟩
    refine ⟨p, L, _, _, l, xs, rfl, g1.sm s1, hx, ra, hp, ?_, fun e he => ?_, fun H2 l2 ys s2 hl2 hy ry => k _ _ _ (s1.trans s2) (s1.free hl2) hy ry⟩
    · have := dfs_len po sm hL (grow_T p L) (sub_T p L) (kidsT_len p L)
      omega
    · have := dfs_ok po (grow_T p L) (sub_T p L) he
      exact ⟨this.1, this.2.2.2⟩
end
end Ev

-- part EvW12
set_option maxHeartbeats 400000
set_option Elab.async false
set_option linter.all false
set_option maxRecDepth 100000
set_option maxHeartbeats 4000000
/-! The walks: failures, deadlocks, lost notices. -/
namespace Ev
open PySem L2
section
variable {P : Program} {w : World} {K : PySem.W.Frag} {mg : Str → Option Value} {base : Heap} {C : Addr}
def failL (R : List Stp) : List Ft := R.filterMap fun e => e.wd.map fun w => .fail e.th e.pc w
theorem mem_failL {R : List Stp} {F : Ft} : F ∈ failL R ↔ FailAt R F := by
  unfold failL FailAt
  rw [List.mem_filterMap]
  constructor
  · rintro ⟨e, he, h⟩
    obtain ⟨w, hw, rfl⟩ := Option.map_eq_some_iff.mp h
    exact ⟨e, w, he, hw, rfl⟩
  · rintro ⟨e, w, he, hw, rfl⟩
    exact ⟨e, he, by rw [hw]; rfl⟩
def failF : D → Option D
  | .tuple [_, _, _, .none] => none
  | .tuple [t, pc, _, w] => some (.tuple [.str "failure", t, pc, w])
  | _ => none
theorem fail_all (R : List Stp) : (R.map eSp).filterMap failF = (failL R).map eFt := by
  induction R with
  | nil => rfl
  | cons e R ih =>
    obtain ⟨th, pc, to, wd⟩ := e
    cases wd with
    | none => exact ih
    | some w =>
      show _ :: _ = _ :: _
      rw [ih]
      rfl
/-- failures: 0 steps, 1 step -/
abbrev s_failures : Stmt := top 62
theorem sc_failures : FnScope ["steps", "step"] ["steps"] (defScope s_failures) := ⟨rfl, rfl, rfl, by decide +kernel, rfl, by decide +kernel, by decide +kernel⟩
def pFail (ds es : List D) : Prop := ∃ R, ds = [eRow R] ∧ R.length < 1000 ∧ es = (failL R).map eFt
theorem ok_failures (T : Txt w K mg C) : Cal P w K mg base 1 "failures" ["steps"] (spL K pFail) := by
  refine T.d_failures.ok sc_failures (fun vs H Q E h => ?_) (fun f cdv A outer s H vs Q E hr h => ?_)
  · obtain ⟨_, _, hd, ⟨_, rfl, _⟩, _⟩ := h
    exact hd.length
  · obtain ⟨ds, es, hd, ⟨R, rfl, hR, rfl⟩, k⟩ := h
    rcases hd with _ | ⟨g1, _ | _⟩
    refine ⟨_, (pss_one (ps_ret (pe_lc (own := [("step", 1)]) (g := gName 1) rfl sc_failures.nd (pi_tup (pv 0)) (blkOk_by (N := ["steps", "step"]) (sc := defScope s_failures) (own := [("step", 1)]) (by decide +kernel)) (fun _ _ _ _ _ => (pg_name (i := 1) sc_failures.nd rfl (Or.inl rfl))) (fun _ _ _ _ _ => (pts_one (pt_cmpR op_notN (pe_ix (ix_DK rfl) (pv 1) pe_int (fun _ _ => rfl)) pe_non (nomark _)))) (fun _ _ _ _ _ => (pe_tup (pa_cons pe_str (pa_cons (pe_ix (ix_DK rfl) (pv 1) pe_int (fun _ _ => rfl)) (pa_cons (pe_ix (ix_DK rfl) (pv 1) pe_int (fun _ _ => rfl)) (pa_cons (pe_ix (ix_DK rfl) (pv 1) pe_int (fun _ _ => rfl)) pa_nil))))))))), ?_⟩
    refine ⟨_, rfl, ?_⟩
    refine lc_D failF g1 (by rw [List.length_map]; omega) (fun x d H' Cn N hd r s1 c1 c2 => ⟨rfl, ?_⟩) fun l acc H' hl s1 e ra => ?_
    · obtain ⟨⟨th, pc, to, wd⟩, he, rfl⟩ := List.mem_map.mp hd
      refine ⟨_, rfl, _, _, _, r, rfl, atI_nat (j := 3) rfl, fun u hu => ?_⟩
      cases wd with
      | none =>
        cases hu.toNon
        exact ⟨rfl, _, rfl, iteF (c2 rfl _ (Same.refl _))⟩
      | some wd =>
        cases (show Rp K H' u (.str wd.s) from hu).toStr
        refine ⟨rfl, _, rfl, iteT ?_⟩
        refine ⟨_, rfl, _, _, _, r, rfl, at0, fun u1 hu1 => ⟨_, rfl, _, _, _, r, rfl, at1, fun u2 hu2 => ⟨_, rfl, _, _, _, r, rfl, atI_nat (j := 3) rfl, fun u3 hu3 => ?_⟩⟩⟩
        refine ⟨by show 4 ≤ sizeLine; exact Nat.le_of_lt (sizeLine_small (by decide)), fun q hq => c1 _ _ _ rfl (Rp.newT hq (.cons (.str _) (.cons hu1 (.cons hu2 (.cons hu3 .nil))))) (Same.new0 hq)⟩
    · rw [fail_all] at ra
      exact k _ _ _ s1 hl e ra

/-- deadlocks: 0 program, 1 state -/
abbrev s_deadlocks : Stmt := top 63
theorem sc_deadlocks : FnScope ["program", "state"] ["program", "state"] (defScope s_deadlocks) := ⟨rfl, rfl, rfl, by decide +kernel, rfl, by decide +kernel, by decide +kernel⟩
def deadL (p : Prog) (s : MS) : List Ft := if isDead p s = true then [.dead (blockedL p s)] else []
theorem mem_deadL {p : Prog} {s : MS} {F : Ft} : F ∈ deadL p s ↔ DeadAt p s F := by
  unfold deadL DeadAt
  split
  · rename_i h
    rw [List.mem_singleton]
    exact ⟨fun q => ⟨h, q⟩, fun q => q.2⟩
  · rename_i h
    exact ⟨fun q => (nomatch q), fun q => absurd q.1 h⟩
def pDeadL (ds es : List D) : Prop := ∃ p s, ds = [eProg p, eSt s] ∧ p.length < 1000 ∧ WF p s ∧ es = (deadL p s).map eFt
theorem ok_deadlocks (T : Txt w K mg C) : Cal P w K mg base 11 "deadlocks" ["program", "state"] (spL K pDeadL) := by
  refine T.d_deadlocks.ok sc_deadlocks (fun vs H Q E h => ?_) (fun f cdv A outer s H vs Q E hr h => ?_)
  · obtain ⟨_, _, hd, ⟨_, _, rfl, _⟩, _⟩ := h
    exact hd.length
  · obtain ⟨ds, es, hd, ⟨p, st, rfl, hp, wf, rfl⟩, k⟩ := h
    rcases hd with _ | ⟨g1, _ | ⟨g2, _ | _⟩⟩
    refine ⟨_, (pss_cons (ps_if (pt_val (pe_own (ok_is_deadlock T) (hr.mono (by decide)) rfl (pa_cons (pv 0) (pa_cons (pv 1) pa_nil))))
          (pss_one (ps_ret (pe_lst (pa_cons (pe_tupN (pa_cons pe_str (pa_cons (pe_own (ok_blocked T) (hr.mono (by decide)) rfl (pa_cons (pv 0) (pa_cons (pv 1) pa_nil))) pa_nil))) pa_nil))))
          pss_nil)
        (pss_one (ps_ret (pe_lst pa_nil)))), ?_⟩
    refine ⟨_, rfl, _, rfl, _, _, .cons g1 (.cons g2 .nil), ⟨p, st, rfl, hp, wf, rfl⟩, fun H1 v s1 hv => ?_⟩
    cases hv.toBl
    refine ⟨_, rfl, ?_⟩
    unfold deadL at k
    by_cases c : isDead p st = true
    · rw [if_pos c] at k
      rw [c]
      refine iteT ?_
      refine ⟨_, rfl, _, rfl, _, _, .cons (g1.sm s1) (.cons (g2.sm s1) .nil), ⟨p, st, rfl, hp, wf, rfl⟩, fun H2 v2 s2 hv2 => ?_⟩
      refine ⟨_, .cons (.str _) (.cons hv2 .nil), by show 2 < 1000; decide, fun v3 H3 s3 hv3 => ?_⟩
      refine ⟨by show 1 ≤ sizeLine; exact Nat.le_of_lt (sizeLine_small (by decide)), fun l hl => ?_⟩
      have s13 := (s1.trans s2).trans s3
      exact k _ _ _ (s13.new hl) (s13.free hl) upd_same (.cons (hv3.tle (Tle.new hl)) .nil)
    · rw [if_neg c] at k
      rw [show isDead p st = false by simpa using c]
      refine iteF ⟨Nat.zero_le _, fun l hl => k _ _ _ (s1.new hl) (s1.free hl) upd_same .nil⟩

/-- waiting_for: 0 program, 1 state, 2 name -/
abbrev s_waiting_for : Stmt := top 65
theorem sc_waiting_for : FnScope ["program", "state", "name"] ["program", "state", "name"] (defScope s_waiting_for) := ⟨rfl, rfl, rfl, by decide +kernel, rfl, by decide +kernel, by decide +kernel⟩
def pWaitF (ds : List D) (d : D) : Prop := ∃ p s, ds = [eProg p, eSt s, .str "w"] ∧ d = .tuple (s.sh.w.map dI)
theorem ok_waiting_for (T : Txt w K mg C) : Cal P w K mg base 2 "waiting_for" ["program", "state", "name"] (spR K pWaitF) := by
  refine T.d_waiting_for.ok sc_waiting_for (fun vs H Q E h => ?_) (fun f cdv A outer s H vs Q E hr h => ?_)
  · obtain ⟨_, _, hd, ⟨_, _, rfl, _⟩, _⟩ := h
    exact hd.length
  · obtain ⟨ds, d, hd, ⟨p, st, rfl, rfl⟩, k⟩ := h
    rcases hd with _ | ⟨g1, _ | ⟨g2, _ | ⟨g3, _ | _⟩⟩⟩
    cases g3.toStr
    refine ⟨_, (pss_one (ps_ret (pe_ix ix_D (pe_ix ix_D (pv 1) pe_int (fun _ _ => rfl)) (pe_bmX PySem.F.plainAttrs_tuple PySem.F.slot_tuple_index PySem.F.type_tuple_index mt_tup_index (pe_own (ok_names_ofX T) (hr.mono (by decide)) rfl (pa_cons (pv 0) (pa_cons pe_str pa_nil))) (pa_cons (pv 2) pa_nil)) (fun _ _ => rfl)))), ?_⟩
    refine ⟨_, rfl, _, _, _, g2, rfl, atI_nat (j := 3) rfl, fun u hu => ?_⟩
    refine ⟨_, rfl, p, "cond", .inr (.inr (.inr rfl)), .cons g1 (.cons (.str _) .nil), fun H' l s1 hl e => ?_⟩
    refine ⟨l, _, rfl, e, _, rfl, ?_⟩
    refine ⟨l, namesL "cond", "w", 0, rfl, rfl, SqT.of upd_same, rfl, fun m hm => absurd hm (Nat.not_lt_zero _), ?_⟩
    have s2 := s1.wr (o := .tup ((namesL "cond").map V.str)) hl
    exact ⟨_, _, _, hu.sm s2, rfl, rfl, fun u2 hu2 => k _ _ s2 hu2⟩

theorem note_k (i : In) : (("notify" : Str) == i.k || ("notifyall" : Str) == i.k) = isNote i := by
  cases i <;> (simp only [In.k, isNote]; decide +kernel)
theorem note_1 {i : In} (h : isNote i = true) : atI (inL i) 1 = some (.str "w") := by
  cases i <;> first | exact at1 | cases h
theorem take_snoc {α : Type} {l : List α} {m : Nat} {a : α} (h : l[m]? = some a) : l.take (m + 1) = l.take m ++ [a] := by
  rw [List.take_add_one, h]; rfl
theorem okS_at {p : Prog} {S : List Nat} {m t : Nat} (ho : okS p (first p) S) (ht : S[m]? = some t) : okS p (first p) (S.take m) ∧ en p (goAll p (first p) (S.take m)) t = true := by
  have e : S = S.take m ++ (t :: S.drop (m + 1)) := by
    obtain ⟨h, rfl⟩ := List.getElem?_eq_some_iff.mp ht
    rw [List.getElem_cons_drop, List.take_append_drop]
  rw [e, okS_app] at ho
  exact ⟨ho.1, ho.2.1⟩
/-- unheard: 0 program, 1 schedule, 2 state, 3 found, 4 k, 5 thread, 6 pc, 7 instruction -/
abbrev s_unheard : Stmt := top 66
theorem sc_unheard : FnScope ["program", "schedule", "state", "found", "k", "thread", "pc", "instruction"] ["program", "schedule"] (defScope s_unheard) := ⟨rfl, rfl, rfl, by decide +kernel, rfl, by decide +kernel, by decide +kernel⟩
def eLost (z : Nat × Nat) : D := eFt (.lost z.1 z.2)
def spUnh (K : PySem.W.Frag) : L2.Sp := fun vs H Q _ => ∃ p S, RpAll K H vs [eProg p, eSch S] ∧ p.length < 1000 ∧ POk p ∧ okS p (first p) S ∧ S.length < 64 ∧
  ∀ H' a v l xs, Same H H' → SqT K H' a [v, .ref l] → Rp K H' v (eSt (goAll p (first p) S)) → H l = none → H' l = some (.lst xs) → RpAll K H' xs ((unh p (first p) S).map eLost) → Q (.ref a) H'
theorem ok_unheard (T : Txt w K mg C) : Cal P w K mg base 10 "unheard" ["program", "schedule"] (spUnh K) := by
  refine T.d_unheard.ok sc_unheard (fun vs H Q E h => ?_) (fun f cdv A outer s H vs Q E hr h => ?_)
  · obtain ⟨_, _, hd, _⟩ := h
    exact hd.length
  · obtain ⟨p, S, hd, hp, po, ho, hS, k⟩ := h
    rcases hd with _ | ⟨g1, _ | ⟨g2, _ | _⟩⟩
    rename_i v1 v2
    refine ⟨_, (pss_cons (ps_set (i := 2) sc_unheard.nd rfl (Or.inl rfl) (pe_own (ok_first_state T) (hr.mono (by decide)) rfl (pa_cons (pv 0) pa_nil)))
        (pss_cons (ps_set (i := 3) sc_unheard.nd rfl (Or.inl rfl) (pe_lst pa_nil))
        (pss_cons (ps_for PassesOwn.never rfl (pi_range1 rfl T.range (pa_cons (pe_callB call_lenD' (by rfl) T.len PySem.boot_len (pa_cons (pv 1) pa_nil)) pa_nil)) (pg_name (i := 4) sc_unheard.nd rfl (Or.inl rfl))
          (pss_cons (ps_set (i := 5) sc_unheard.nd rfl (Or.inl rfl) (pe_ix ix_D (pv 1) (pv 4) (fun _ _ => rfl)))
          (pss_cons (ps_if (pt_cmpR op_notIn_seq (pv 5) (pe_own (ok_enabled T) (hr.mono (by decide)) rfl (pa_cons (pv 0) (pa_cons (pv 2) pa_nil))) (by rfl))
            (pss_one ps_never)
            pss_nil)
          (pss_cons (ps_set (i := 6) sc_unheard.nd rfl (Or.inl rfl) (pe_ix ix_D (pe_ix ix_D (pe_ix ix_D (pv 2) pe_int (fun _ _ => rfl)) (pv 5) (fun _ _ => rfl)) pe_int (fun _ _ => rfl)))
          (pss_cons (ps_set (i := 7) sc_unheard.nd rfl (Or.inl rfl) (pe_ix ix_D (pe_ix ix_D (pe_ix ix_D (pv 0) pe_int (fun _ _ => rfl)) (pv 5) (fun _ _ => rfl)) (pv 6) (fun _ _ => rfl)))
          (pss_cons (ps_if (PW.pt (pw_and (pt_cmpR op_in_seq (pe_ix ix_D (pv 7) pe_int (fun _ _ => rfl)) (pe_tup (pa_cons pe_str (pa_cons pe_str pa_nil))) (by rfl)) (pw_and1 (pt_cmpR op_eq (pe_callB call_lenD' (by rfl) T.len PySem.boot_len (pa_cons (pe_own (ok_waiting_for T) (hr.mono (by decide)) rfl (pa_cons (pv 0) (pa_cons (pv 2) (pa_cons (pe_ix ix_D (pv 7) pe_int (fun _ _ => rfl)) pa_nil)))) pa_nil)) pe_int (nomark _)))))
            (pss_one (ps_expr (pe_bm PySem.F.plainAttrs_list PySem.F.slot_list_append PySem.F.type_list_append mt_append (pv 3) (pa_cons (pe_tupN (pa_cons pe_str (pa_cons (pv 5) (pa_cons (pv 6) (pa_cons (pe_ix ix_D (pv 7) pe_int (fun _ _ => rfl)) pa_nil))))) pa_nil))))
            pss_nil)
          (pss_one (ps_set (i := 2) sc_unheard.nd rfl (Or.inl rfl) (pe_ix ix_D (pe_own (ok_make_step T) (hr.mono (by decide)) rfl (pa_cons (pv 0) (pa_cons (pv 2) (pa_cons (pv 5) pa_nil)))) pe_int (fun _ _ => rfl))))))))))
        (pss_one (ps_ret (pe_tup (pa_cons (pv 2) (pa_cons (pv 3) pa_nil)))))))), ?_⟩
    refine ⟨_, rfl, _, _, .cons g1 .nil, ⟨p, rfl, hp, rfl⟩, fun H1 vst s1 hst => ?_⟩
    refine ⟨Nat.zero_le _, fun l hl => ?_⟩
    have hl0 := s1.free hl
    have s2 := s1.new hl (o := .lst [])
    refine ⟨_, rfl, _, _, rfl, g2.sm s2, ?_⟩
    have el : (((S.map dI).length : Nat) : Int) = (S.length : Int) := by rw [List.length_map]
    refine ⟨_, rfl, by rw [el]; omega, by rw [el]; omega, ?_⟩
    have en' : (((S.map dI).length : Nat) : Int).toNat = S.length := by rw [el]; omega
    rw [en']
    refine for_range (lo := 0) (n := S.length) (fun m σ H' => Same H H' ∧ ∃ vst xs a b c d, σ = [some v1, some v2, some vst, some (.ref l), a, b, c, d] ∧ Rp K H' vst (eSt (goAll p (first p) (S.take m))) ∧ H' l = some (.lst xs) ∧ xs.length ≤ m ∧ RpAll K H' xs ((unh p (first p) (S.take m)).map eLost))
      ⟨s2, vst, [], none, none, none, none, rfl, hst.tle (Tle.new hl), upd_same, Nat.le_refl _, .nil⟩ ?_ ?_
    · rintro m σ H2 hm ⟨s3, vst, xs, a, b, c, d, rfl, hst, hx, hxl, rx⟩
      rw [show ((0 : Int) + (m : Int)) = (m : Int) by omega]
      obtain ⟨t, ht⟩ : ∃ t, S[m]? = some t := ⟨_, List.getElem?_eq_getElem hm⟩
      obtain ⟨ho1, hen⟩ := okS_at ho ht
      have wf := wf_goAll po (wf_first po) ho1
      have htk := take_snoc ht
      generalize hs : goAll p (first p) (S.take m) = st at hst hen wf
      have hgo : goAll p (first p) (S.take (m + 1)) = nxt p st t := by rw [htk, goAll_app, hs]; rfl
      have hun : unh p (first p) (S.take (m + 1)) = unh p (first p) (S.take m) ++ (if (isNote (at' p st t) && st.sh.w.isEmpty) = true then [(t, (st.at t).pc)] else []) := by rw [htk, unh_app, hs]; unfold unh; unfold unh; rw [List.append_nil]
      have htl := en_lt hen
      have htp : t < p.length := wf.len ▸ htl
      have hpc := wf.pc t htp (en_iff.mp hen).1
      refine ⟨_, rfl, _, rfl, _, _, _, g2.sm s3, rfl, at_map ht, fun u hu => ?_⟩
      cases hu.toInt
      refine ⟨_, rfl, _, rfl, _, rfl, ?_⟩
      refine ⟨_, _, .cons (g1.sm s3) (.cons hst .nil), ⟨p, st, rfl, hp, wf, rfl⟩, fun H3 v3 s4 hv3 => ?_⟩
      obtain ⟨a3, ys, rfl, hT, hys⟩ := hv3.toTup
      cases hys.nats
      refine ⟨a3, _, rfl, .inr hT, rfl, flat_ints _, _, rfl, ?_⟩
      rw [if_pos rfl, in_ints, decide_eq_true ((en_mem wf).mpr hen)]
      refine iteF ?_
      have s34 := s3.trans s4
      have hst4 := hst.sm s4
      refine ⟨_, rfl, _, _, _, hst4, rfl, atI_nat (j := 4) rfl, fun u1 hu1 => ?_⟩
      refine ⟨_, rfl, _, _, _, hu1, rfl, at_ts wf.len htp, fun u2 hu2 => ⟨_, _, _, hu2, rfl, at0, fun u3 hu3 => ?_⟩⟩
      cases hu3.toInt
      refine ⟨_, rfl, _, _, _, g1.sm s34, rfl, at1, fun u4 hu4 => ⟨_, rfl, _, _, _, hu4, rfl, at_pr htp, fun u5 hu5 => ⟨_, rfl, _, _, _, hu5, rfl, at_in hpc, fun u6 hu6 => ?_⟩⟩⟩
      have hu6 : Rp K H3 u6 (eIn (at' p st t)) := hu6
      have hx3 := s4 _ _ hx
      have rx3 := rx.sm s4
      refine txt_in (i := 7) rfl hu6 at0 (note_k _) fun H4 s5 => ?_
      have s35 := s34.trans s5
      have hst5 := hst4.sm s5
      have hx5 := s5 _ _ hx3
      have rx5 := rx3.sm s5
      have fin : ∀ {H5 : Hp} {xs : List V}, Same H H5 → H5 l = some (.lst xs) → xs.length ≤ m + 1 → Rp K H5 vst (eSt st) → RpAll K H5 xs ((unh p (first p) (S.take (m + 1))).map eLost) → True := fun _ _ _ _ _ => trivial
      cases hn : isNote (at' p st t) with
      | false =>
        refine iteF (iteF ?_)
        refine ⟨_, rfl, _, rfl, _, rfl, ?_⟩
        refine ⟨_, _, .cons (g1.sm s35) (.cons hst5 (.cons (.int _) .nil)), ⟨p, st, t, rfl, hp, wf, hen, rfl⟩, fun H6 v6 s6 hv6 => ?_⟩
        refine ⟨_, _, _, hv6, rfl, at0, fun u7 hu7 => ?_⟩
        refine ⟨s35.trans s6, u7, xs, _, _, _, _, rfl, by rw [hgo]; exact hu7, s6 _ _ hx5, by omega, ?_⟩
        rw [hun, hn, Bool.false_and, if_neg Bool.false_ne_true, List.append_nil]
        exact rx5.sm s6
      | true =>
        refine iteT ?_
        refine ⟨_, rfl, _, rfl, _, rfl, _, _, _, hu6.sm s5, rfl, note_1 hn, fun u8 hu8 => ?_⟩
        refine ⟨_, _, .cons (g1.sm s35) (.cons hst5 (.cons hu8 .nil)), ⟨p, st, rfl, rfl⟩, fun H6 v6 s6 hv6 => ?_⟩
        refine ⟨_, _, rfl, hv6, rfl, _, rfl, ?_⟩
        have s36 := s35.trans s6
        have hst6 := hst5.sm s6
        have hx6 := s6 _ _ hx5
        have rx6 := rx5.sm s6
        rw [show decide (V.int (((st.sh.w.map dI).length : Nat) : Int) = V.int 0) = st.sh.w.isEmpty from by
          rw [List.length_map]
          cases st.sh.w with
          | nil => rfl
          | cons a l => exact decide_eq_false fun q => by have := V.int.inj q; simp only [List.length_cons] at this; omega]
        cases hw : st.sh.w.isEmpty with
        | false =>
          refine iteF ?_
          refine ⟨_, rfl, _, rfl, _, rfl, ?_⟩
          refine ⟨_, _, .cons (g1.sm s36) (.cons hst6 (.cons (.int _) .nil)), ⟨p, st, t, rfl, hp, wf, hen, rfl⟩, fun H7 v7 s7 hv7 => ?_⟩
          refine ⟨_, _, _, hv7, rfl, at0, fun u7 hu7 => ?_⟩
          refine ⟨s36.trans s7, u7, xs, _, _, _, _, rfl, by rw [hgo]; exact hu7, s7 _ _ hx6, by omega, ?_⟩
          rw [hun, hn, hw, Bool.and_false, if_neg Bool.false_ne_true, List.append_nil]
          exact rx6.sm s7
        | true =>
          refine iteT ?_
          refine ⟨_, rfl, .inl ⟨rfl, _, SqL.of hx6⟩, ?_⟩
          refine ⟨_, rfl, _, rfl, _, rfl, _, _, _, (hu6.sm s5).sm s6, rfl, note_1 hn, fun u9 hu9 => ?_⟩
          refine ⟨_, .cons (.str _) (.cons (.int _) (.cons (.int _) (.cons hu9 .nil))), by show 4 < 1000; decide, fun v10 H10 s10 hv10 => ?_⟩
          have hx10 := s10 _ _ hx6
          refine ⟨l, xs, _, rfl, rfl, hx10, sizeLine_small (by omega), ?_⟩
          have s37 := (s36.trans s10).wr hl0 (o := .lst (xs ++ [v10]))
          have hx11 : upd H10 l (.lst (xs ++ [v10])) l = some (.lst (xs ++ [v10])) := upd_same
          have rx11 : RpAll K (upd H10 l (.lst (xs ++ [v10]))) (xs ++ [v10]) ((unh p (first p) (S.take (m + 1))).map eLost) := by
            rw [hun, hn, hw, Bool.and_self, if_pos rfl, List.map_append]
            exact ((rx6.sm s10).snoc hv10).tle (Tle.lst hx10)
          have hst11 := (hst6.sm s10).tle (Tle.lst hx10 (o := .lst (xs ++ [v10])))
          generalize upd H10 l (.lst (xs ++ [v10])) = H11 at s37 hx11 rx11 hst11
          refine ⟨_, rfl, _, rfl, _, rfl, ?_⟩
          refine ⟨_, _, .cons (g1.sm s37) (.cons hst11 (.cons (.int _) .nil)), ⟨p, st, t, rfl, hp, wf, hen, rfl⟩, fun H7 v7 s7 hv7 => ?_⟩
          refine ⟨_, _, _, hv7, rfl, at0, fun u7 hu7 => ?_⟩
          exact ⟨s37.trans s7, u7, _, _, _, _, _, rfl, by rw [hgo]; exact hu7, s7 _ _ hx11, by rw [List.length_append]; show xs.length + 1 ≤ _; omega, rx11.sm s7⟩
    · rintro σ H2 ⟨s3, vst, xs, a, b, c, d, rfl, hst, hx, hxl, rx⟩
      rw [List.take_length] at hst rx
      refine ⟨_, rfl, _, rfl, by show 2 ≤ sizeLine; exact Nat.le_of_lt (sizeLine_small (by decide)), fun q hq => ?_⟩
      have sq := Same.new0 (o := .tup [vst, .ref l]) hq
      exact k _ q vst l xs (s3.trans sq) (SqT.of upd_same) (hst.sm sq) hl0 (sq _ _ hx) (rx.sm sq)

theorem unh_len (p : Prog) : ∀ (S : List Nat) (s : MS), (unh p s S).length ≤ S.length
  | [], _ => Nat.le_refl _
  | t :: S, s => by
    have := unh_len p S (nxt p s t)
    unfold unh
    rw [List.length_append, List.length_cons]
    split
    · show 1 + _ ≤ _; omega
    · show 0 + _ ≤ _; omega
def lostL (p : Prog) (S : List Nat) : List Ft := if enabled p (goAll p (first p) S) = [] ∧ (goAll p (first p) S).sh.w ≠ [] then (unh p (first p) S).map fun z => .lost z.1 z.2 else []
theorem mem_lostL {p : Prog} {S : List Nat} {F : Ft} : F ∈ lostL p S ↔ LostAt p (goAll p (first p) S) (unh p (first p) S) F := by
  unfold lostL LostAt
  split
  · rename_i h
    rw [List.mem_map]
    constructor
    · rintro ⟨⟨t, pc⟩, h1, rfl⟩
      exact ⟨h.1, h.2, t, pc, h1, rfl⟩
    · rintro ⟨_, _, t, pc, h1, rfl⟩
      exact ⟨(t, pc), h1, rfl⟩
  · rename_i h
    exact ⟨fun q => (nomatch q), fun q => absurd ⟨q.1, q.2.1⟩ h⟩
def allF (b : Bool) (d : D) : Option D := if b = true then some d else none
theorem allF_t (l : List D) : l.filterMap (allF true) = l := by
  induction l with
  | nil => rfl
  | cons a l ih => show a :: _ = _; rw [ih]
theorem allF_f (l : List D) : l.filterMap (allF false) = [] := by
  induction l with
  | nil => rfl
  | cons a l ih => exact ih
/-- lost_notices: 0 program, 1 schedule, 2 state, 3 notices, 4 notice -/
abbrev s_lost_notices : Stmt := top 67
theorem sc_lost_notices : FnScope ["program", "schedule", "state", "notices", "notice"] ["program", "schedule"] (defScope s_lost_notices) := ⟨rfl, rfl, rfl, by decide +kernel, rfl, by decide +kernel, by decide +kernel⟩
def pLostL (ds es : List D) : Prop := ∃ p S, ds = [eProg p, eSch S] ∧ p.length < 1000 ∧ POk p ∧ okS p (first p) S ∧ S.length < 64 ∧ es = (lostL p S).map eFt
theorem ok_lost_notices (T : Txt w K mg C) : Cal P w K mg base 11 "lost_notices" ["program", "schedule"] (spL K pLostL) := by
  refine T.d_lost_notices.ok sc_lost_notices (fun vs H Q E h => ?_) (fun f cdv A outer s H vs Q E hr h => ?_)
  · obtain ⟨_, _, hd, ⟨_, _, rfl, _⟩, _⟩ := h
    exact hd.length
  · obtain ⟨ds, es, hd, ⟨p, S, rfl, hp, po, ho, hS, rfl⟩, k⟩ := h
    rcases hd with _ | ⟨g1, _ | ⟨g2, _ | _⟩⟩
    have wf := wf_goAll po (wf_first po) ho
    refine ⟨_, (pss_cons (ps_asg (pe_own (ok_unheard T) (hr.mono (by decide)) rfl (pa_cons (pv 0) (pa_cons (pv 1) pa_nil))) (pg_tup rfl (pgs_cons (pg_name (i := 2) sc_lost_notices.nd rfl (Or.inr rfl)) (pgs_cons (pg_name (i := 3) sc_lost_notices.nd rfl (Or.inl rfl)) pgs_nil))))
        (pss_cons (ps_if (pt_cmpR op_gt (pe_callB call_lenD' (by rfl) T.len PySem.boot_len (pa_cons (pe_own (ok_enabled T) (hr.mono (by decide)) rfl (pa_cons (pv 0) (pa_cons (pv 2) pa_nil))) pa_nil)) pe_int (nomark _))
          (pss_one (ps_ret (pe_lst pa_nil)))
          pss_nil)
        (pss_one (ps_ret (pe_lc (own := [("notice", 4)]) (g := gName 4) rfl sc_lost_notices.nd (pi_list (pv 3)) (blkOk_by (N := ["program", "schedule", "state", "notices", "notice"]) (sc := defScope s_lost_notices) (own := [("notice", 4)]) (by decide +kernel)) (fun _ _ _ _ _ => (pg_name (i := 4) sc_lost_notices.nd rfl (Or.inl rfl))) (fun _ _ _ _ _ => (pts_one (pt_cmpR op_gt (pe_callB (call_lenDK rfl) (by rfl) T.len PySem.boot_len (pa_cons (pe_own (ok_waiting_for T) (hr.mono (by decide)) rfl (pa_cons (pv 0) (pa_cons (pv 2) (pa_cons (pe_ix (ix_DK rfl) (pv 4) pe_int (fun _ _ => rfl)) pa_nil)))) pa_nil)) pe_int (nomark _)))) (fun _ _ _ _ _ => (pv 4))))))), ?_⟩
    refine ⟨_, rfl, _, rfl, ?_⟩
    refine ⟨p, S, .cons g1 (.cons g2 .nil), hp, po, ho, hS, fun H1 a v l xs s1 hT hst hl hx rx => ?_⟩
    refine ⟨a, _, rfl, hT, rfl, _, _, rfl, _, _, rfl, rfl, ?_⟩
    refine ⟨_, rfl, _, rfl, _, _, .cons (g1.sm s1) (.cons hst .nil), ⟨p, _, rfl, hp, wf, rfl⟩, fun H2 v2 s2 hv2 => ?_⟩
    refine ⟨_, _, rfl, hv2, ?_⟩
    refine ⟨_, _, rfl, rfl, _, rfl, ?_⟩
    have s12 := s1.trans s2
    have hx2 := s2 _ _ hx
    have rx2 := rx.sm s2
    have hst2 := hst.sm s2
    unfold lostL at k
    by_cases c : enabled p (goAll p (first p) S) = []
    · rw [show decide ((0 : Int) < ((((enabled p (goAll p (first p) S)).map dI).length : Nat) : Int)) = false from by rw [c]; rfl]
      refine iteF ?_
      refine ⟨_, rfl, ?_⟩
      refine lc_LD (allF (!(goAll p (first p) S).sh.w.isEmpty)) (SqL.of hx2) rx2 (by rw [List.length_map]; have := unh_len p S (first p); omega) (fun x d H' Cn N hd r s3 c1 c2 => ⟨rfl, ?_⟩) fun l2 acc H' hl2 s3 e ra => ?_
      · obtain ⟨⟨t, pc⟩, he, rfl⟩ := List.mem_map.mp hd
        refine ⟨_, rfl, _, rfl, _, rfl, _, _, _, r, rfl, atI_nat (j := 3) rfl, fun u hu => ?_⟩
        refine ⟨_, _, .cons ((g1.sm s12).sm s3) (.cons (hst2.sm s3) (.cons hu .nil)), ⟨p, _, rfl, rfl⟩, fun H4 v4 s4 hv4 => ?_⟩
        refine ⟨_, _, rfl, hv4, _, _, rfl, rfl, _, rfl, ?_⟩
        cases hw : (goAll p (first p) S).sh.w with
        | nil => exact iteF (c2 (by rw [hw]; rfl) _ s4)
        | cons o r' =>
          rw [show decide ((0 : Int) < (((((o :: r') : List Nat).map dI).length : Nat) : Int)) = true from decide_eq_true (by rw [List.length_map, List.length_cons]; omega)]
          exact iteT ⟨_, rfl, c1 _ _ _ (by rw [hw]; rfl) (r.sm s4) s4⟩
      · refine k _ _ _ (s12.trans s3) (s12.free hl2) e ?_
        cases hw : (goAll p (first p) S).sh.w with
        | nil =>
          rw [hw] at ra
          rw [if_neg fun q => q.2 rfl]
          have ra : RpAll K H' acc (((unh p (first p) S).map eLost).filterMap (allF false)) := ra
          rw [allF_f] at ra
          exact ra
        | cons o r' =>
          rw [hw] at ra
          rw [if_pos ⟨c, fun q => nomatch q⟩]
          have ra : RpAll K H' acc (((unh p (first p) S).map eLost).filterMap (allF true)) := ra
          rw [allF_t] at ra
          rw [List.map_map]
          exact ra
    · rw [show decide ((0 : Int) < ((((enabled p (goAll p (first p) S)).map dI).length : Nat) : Int)) = true from decide_eq_true (by rw [List.length_map]; have := List.length_pos_iff.mpr c; omega)]
      refine iteT ⟨Nat.zero_le _, fun q hq => k _ _ _ (s12.new hq) (s12.free hq) upd_same ?_⟩
      rw [if_neg fun z => c z.1]
      exact .nil
end
end Ev

-- part EvW13
set_option maxHeartbeats 400000
set_option Elab.async false
set_option linter.all false
set_option maxRecDepth 100000
set_option maxHeartbeats 4000000
/-! The walks: races. -/
namespace Ev
open PySem L2
theorem room0 {k : Nat} {A : Around} (r : Room k A) : A.units < cLine := by have := r.un; omega
/-- the keys of a dict of texts -/
def KT (kvs : List (Key × V)) (S : Thg → Prop) : Prop := ∃ ks : List Thg, kvs.map (·.1) = ks.map (fun k => Sum.inr k.s) ∧ ks.Nodup ∧ ∀ k, k ∈ ks ↔ S k
theorem KT.nil : KT [] (fun _ => False) := ⟨[], rfl, List.nodup_nil, fun k => by simp⟩
theorem KT.cg {kvs : List (Key × V)} {S S' : Thg → Prop} (h : KT kvs S) (e : ∀ k, S k ↔ S' k) : KT kvs S' := by
  obtain ⟨ks, a, b, c⟩ := h
  exact ⟨ks, a, b, fun k => (c k).trans (e k)⟩
theorem KT.put {kvs : List (Key × V)} {S : Thg → Prop} {j : Thg} {v : V} (h : KT kvs S) : KT (putK kvs (Sum.inr j.s) v) (fun k => S k ∨ k = j) := by
  obtain ⟨ks, a, b, c⟩ := h
  unfold putK
  have hany : (kvs.any fun kv => decide (kv.1 = Sum.inr j.s)) = true ↔ j ∈ ks := by
    rw [List.any_eq_true]
    constructor
    · rintro ⟨x, hx, e⟩
      have e := of_decide_eq_true e
      have : x.1 ∈ kvs.map (·.1) := List.mem_map_of_mem hx
      rw [a, e] at this
      obtain ⟨k, hk, q⟩ := List.mem_map.mp this
      exact Thg.s_inj (Sum.inr.inj q) ▸ hk
    · intro hj
      have : (Sum.inr j.s : Key) ∈ kvs.map (·.1) := by rw [a]; exact List.mem_map_of_mem (f := fun k : Thg => (Sum.inr k.s : Key)) hj
      obtain ⟨x, hx, e⟩ := List.mem_map.mp this
      exact ⟨x, hx, decide_eq_true e⟩
  by_cases hj : j ∈ ks
  · rw [if_pos (hany.mpr hj)]
    refine ⟨ks, ?_, b, fun k => (c k).trans ⟨.inl, fun q => q.elim id fun e => e ▸ (c j).mp hj⟩⟩
    rw [← a, List.map_map]
    apply List.map_congr_left
    intro kv _
    show (if kv.1 = _ then (kv.1, v) else kv).1 = kv.1
    split <;> rfl
  · rw [if_neg (fun q => hj (hany.mp q))]
    refine ⟨ks ++ [j], by rw [List.map_append, List.map_append, a]; rfl, ?_, fun k => ?_⟩
    · rw [List.nodup_append]
      exact ⟨b, by simp, fun x hx y hy e => hj (by rw [List.mem_singleton] at hy; rw [← hy, ← e]; exact hx)⟩
    · rw [List.mem_append, c, List.mem_singleton]
theorem thg_six {l : List Thg} (h : l.Nodup) : l.length ≤ 6 := List.Nodup.length_le_of_subset (l₂ := [.m, .x, .w, .q, .y, .n]) h fun z _ => by cases z <;> simp
theorem KT.small {kvs : List (Key × V)} {S : Thg → Prop} (h : KT kvs S) : kvs.length < sizeLine := by
  obtain ⟨ks, a, b, c⟩ := h
  have e := congrArg List.length a
  rw [List.length_map, List.length_map] at e
  have := thg_six b
  exact sizeLine_small (by omega)
theorem thg_back {S : Thg → Prop} : ∀ {ys : List Str}, (∀ y ∈ ys, ∃ v : Thg, v.s = y ∧ S v) → ∃ L : List Thg, ys = L.map Thg.s ∧ ∀ v ∈ L, S v
  | [], _ => ⟨[], rfl, fun v hv => nomatch hv⟩
  | y :: ys, h => by
    obtain ⟨v, rfl, hv⟩ := h y List.mem_cons_self
    obtain ⟨L, rfl, hL⟩ := thg_back fun z hz => h z (List.mem_cons_of_mem _ hz)
    exact ⟨v :: L, rfl, fun z hz => (List.mem_cons.mp hz).elim (fun e => e ▸ hv) (hL z)⟩
theorem seq_par {t u : TS} {D : Ends} {σ : L2.St} {H : Hp} (good : Hp → Prop) (h1 : ∀ rest : L2.St → Hp → Prop, (∀ H', good H' → rest σ H') → t { D with nx := rest } σ H) (h2 : ∀ H', good H' → u D σ H') : tSeq t u D σ H := h1 _ h2
section
variable {P : Program} {w : World} {K : PySem.W.Frag} {mg : Str → Option Value} {base : Heap} {C : Addr}
/-- instruction_of: 0 program, 1 step -/
abbrev s_instruction_of : Stmt := top 69
theorem sc_instruction_of : FnScope ["program", "step"] ["program", "step"] (defScope s_instruction_of) := ⟨rfl, rfl, rfl, by decide +kernel, rfl, by decide +kernel, by decide +kernel⟩
def pInsOf (ds : List D) (d : D) : Prop := ∃ p, ∃ e : Stp, ds = [eProg p, eSp e] ∧ e.th < p.length ∧ e.pc < (p.getD e.th []).length ∧ d = eIn (insOf p e)
theorem ok_instruction_of (T : Txt w K mg C) : Cal P w K mg base 1 "instruction_of" ["program", "step"] (spR K pInsOf) := by
  refine T.d_instruction_of.ok sc_instruction_of (fun vs H Q E h => ?_) (fun f cdv A outer s H vs Q E hr h => ?_)
  · obtain ⟨ds, d, hd, ⟨_, _, rfl, _⟩, _⟩ := h
    exact hd.length
  · obtain ⟨ds, d, hd, ⟨p, e, rfl, h1, h2, rfl⟩, k⟩ := h
    rcases hd with _ | ⟨g1, _ | ⟨g2, _ | _⟩⟩
    refine ⟨_, (pss_one (ps_ret (pe_ix ix_D (pe_ix ix_D (pe_ix ix_D (pv 0) pe_int (fun _ _ => rfl)) (pe_ix ix_D (pv 1) pe_int (fun _ _ => rfl)) (fun _ _ => rfl)) (pe_ix ix_D (pv 1) pe_int (fun _ _ => rfl)) (fun _ _ => rfl)))), ?_⟩
    refine ⟨_, rfl, _, _, _, g1, rfl, at1, fun u hu => ⟨_, rfl, _, _, _, g2, rfl, at0, fun u2 hu2 => ?_⟩⟩
    cases hu2.toInt
    refine ⟨_, _, _, hu, rfl, at_pr h1, fun u3 hu3 => ⟨_, rfl, _, _, _, g2, rfl, at1, fun u4 hu4 => ?_⟩⟩
    cases hu4.toInt
    exact ⟨_, _, _, hu3, rfl, at_in h2, fun u5 hu5 => k _ _ (Same.refl _) hu5⟩

theorem plain_k (i : In) : (("get" : Str) == i.k || ("put" : Str) == i.k) = (match i with | .get _ _ => true | .put _ _ => true | _ => false) := by
  cases i <;> (simp only [In.k]; decide +kernel)
/-- is_plain: 0 program, 1 step -/
abbrev s_is_plain : Stmt := top 70
theorem sc_is_plain : FnScope ["program", "step"] ["program", "step"] (defScope s_is_plain) := ⟨rfl, rfl, rfl, by decide +kernel, rfl, by decide +kernel, by decide +kernel⟩
def pPlain (ds : List D) (d : D) : Prop := ∃ p, ∃ e : Stp, ds = [eProg p, eSp e] ∧ e.th < p.length ∧ e.pc < (p.getD e.th []).length ∧ d = .bool (plain p e)
theorem ok_is_plain (T : Txt w K mg C) : Cal P w K mg base 2 "is_plain" ["program", "step"] (spR K pPlain) := by
  refine T.d_is_plain.ok sc_is_plain (fun vs H Q E h => ?_) (fun f cdv A outer s H vs Q E hr h => ?_)
  · obtain ⟨ds, d, hd, ⟨_, _, rfl, _⟩, _⟩ := h
    exact hd.length
  · obtain ⟨ds, d, hd, ⟨p, e, rfl, h1, h2, rfl⟩, k⟩ := h
    rcases hd with _ | ⟨g1, _ | ⟨g2, _ | _⟩⟩
    refine ⟨_, (pss_one (ps_ret (pe_cmpR op_in_seq (pe_ix ix_D (pe_own (ok_instruction_of T) (hr.mono (by decide)) rfl (pa_cons (pv 0) (pa_cons (pv 1) pa_nil))) pe_int (fun _ _ => rfl)) (pe_tup (pa_cons pe_str (pa_cons pe_str pa_nil))) (by rfl)))), ?_⟩
    refine ⟨_, rfl, _, rfl, _, _, .cons g1 (.cons g2 .nil), ⟨p, e, rfl, h1, h2, rfl⟩, fun H1 v1 s1 hv1 => ?_⟩
    refine ⟨_, _, _, hv1, rfl, at0, fun u hu => ?_⟩
    cases hu.toStr
    refine ⟨by show 2 ≤ sizeLine; exact Nat.le_of_lt (sizeLine_small (by decide)), fun q hq => ?_⟩
    refine ⟨q, _, rfl, .inr (SqT.of upd_same), rfl, rfl, ?_⟩
    rw [if_neg Bool.false_ne_true, in2, plain_k]
    exact k _ _ (s1.new hq) (.bl _)

/-- clashing: 0 program, 1 one, 2 other, 3 variables, 4 found, 5 first, 6 second -/
abbrev s_clashing : Stmt := top 71
theorem sc_clashing : FnScope ["program", "one", "other", "variables", "found", "first", "second"] ["program", "one", "other"] (defScope s_clashing) := ⟨rfl, rfl, rfl, by decide +kernel, rfl, by decide +kernel, by decide +kernel⟩
def spClash (K : PySem.W.Frag) : L2.Sp := fun vs H Q _ => ∃ p, ∃ e f : Stp, RpAll K H vs [eProg p, eSp e, eSp f] ∧ e.th < p.length ∧ e.pc < (p.getD e.th []).length ∧ f.th < p.length ∧ f.pc < (p.getD f.th []).length ∧
  ∀ (L : List Thg) H' l xs, (∀ v, v ∈ L ↔ clash p e f v) → L.length ≤ 6 → Same H H' → H l = none → H' l = some (.lst xs) → RpAll K H' xs (L.map fun v => .str v.s) → Q (.ref l) H'
theorem ok_clashing (T : Txt w K mg C) : Cal P w K mg base 3 "clashing" ["program", "one", "other"] (spClash K) := by
  refine T.d_clashing.ok sc_clashing (fun vs H Q E h => ?_) (fun f cdv A outer s H vs Q E hr h => ?_)
  · obtain ⟨_, _, _, hd, _⟩ := h
    exact hd.length
  · obtain ⟨p, e, f, hd, h1, h2, h3, h4, k⟩ := h
    rcases hd with _ | ⟨g1, _ | ⟨g2, _ | ⟨g3, _ | _⟩⟩⟩
    rename_i v1 v2 v3
    refine ⟨_, (pss_cons (ps_if (PW.pt (pw_or (pt_cmpR op_eq (pe_ix ix_D (pv 1) pe_int (fun _ _ => rfl)) (pe_ix ix_D (pv 2) pe_int (fun _ _ => rfl)) (nomark _)) (pw_or1 (pt_not (PW.pt (pw_or (pt_val (pe_own (ok_is_plain T) (hr.mono (by decide)) rfl (pa_cons (pv 0) (pa_cons (pv 1) pa_nil)))) (pw_or1 (pt_val (pe_own (ok_is_plain T) (hr.mono (by decide)) rfl (pa_cons (pv 0) (pa_cons (pv 2) pa_nil)))))))))))
          (pss_one (ps_ret (pe_lst pa_nil)))
          pss_nil)
        (pss_cons (ps_set (i := 3) sc_clashing.nd rfl (Or.inl rfl) (pe_own (ok_names_of T) (hr.mono (by decide)) rfl (pa_cons (pv 0) (pa_cons pe_str pa_nil))))
        (pss_cons (ps_set (i := 4) sc_clashing.nd rfl (Or.inl rfl) pe_dnewK)
        (pss_cons (ps_for PassesOwn.never rfl (pi_tup (pe_ix ix_D (pv 1) pe_int (fun _ _ => rfl))) (pg_name (i := 5) sc_clashing.nd rfl (Or.inl rfl))
          (pss_one (ps_for PassesOwn.never rfl (pi_tup (pe_ix ix_D (pv 2) pe_int (fun _ _ => rfl))) (pg_name (i := 6) sc_clashing.nd rfl (Or.inl rfl))
            (pss_one (ps_if (PW.pt (pw_and (pt_cmpR op_eq (pe_ix ix_D (pv 5) pe_int (fun _ _ => rfl)) (pe_ix ix_D (pv 6) pe_int (fun _ _ => rfl)) (nomark _)) (pw_and (pt_cmpR op_in_seq (pe_ix ix_D (pv 5) pe_int (fun _ _ => rfl)) (pv 3) (by rfl)) (pw_and1 (PW.pt (pw_or (pt_val (pe_ix ix_D (pv 5) pe_int (fun _ _ => rfl))) (pw_or1 (pt_val (pe_ix ix_D (pv 6) pe_int (fun _ _ => rfl))))))))))
              (pss_one (ps_dput (room1 hr) (pv 4) (pe_ix ix_D (pv 5) pe_int (fun _ _ => rfl)) pe_bl rfl))
              pss_nil)))))
        (pss_one (ps_ret (pe_callB (call_sortedD rfl) (by rfl) T.sorted (by decide +kernel) (pa_cons (pv 4) pa_nil)))))))), ?_⟩
    have none_ : ∀ {H' : Hp}, Same H H' → (∀ v, ¬ clash p e f v) → ∀ q, H' q = none → Q (.ref q) (upd H' q (.lst [])) := fun s no q hq =>
      k [] _ _ _ (fun v => ⟨fun z => (nomatch z), fun z => absurd z (no v)⟩) (Nat.zero_le _) (s.new hq) (s.free hq) upd_same .nil
    refine seq_par (fun H' => Same H H' ∧ e.th ≠ f.th ∧ (plain p e = true ∨ plain p f = true)) (fun rest hrest => ?_) ?_
    · refine ⟨_, rfl, _, _, _, g2, rfl, at0, fun u hu => ⟨_, rfl, _, _, _, g3, rfl, at0, fun u2 hu2 => ?_⟩⟩
      cases hu.toInt
      cases hu2.toInt
      refine ⟨rfl, _, rfl, ?_⟩
      rw [show decide (V.int (e.th : Int) = V.int (f.th : Int)) = decide (e.th = f.th) from decide_eq_decide.mpr ⟨fun q => by have := V.int.inj q; omega, fun q => by rw [q]⟩]
      by_cases ht : e.th = f.th
      · rw [decide_eq_true ht]
        exact iteT (iteT ⟨Nat.zero_le _, fun q hq => none_ (Same.refl _) (fun v z => z.1 ht) q hq⟩)
      rw [decide_eq_false ht]
      refine iteF ?_
      refine ⟨_, rfl, _, rfl, _, _, .cons g1 (.cons g2 .nil), ⟨p, e, rfl, h1, h2, rfl⟩, fun H1 w1 s1 hw1 => ?_⟩
      cases hw1.toBl
      refine ⟨_, rfl, ?_⟩
      cases hpe : plain p e with
      | true => exact iteT (iteF (hrest _ ⟨s1, ht, .inl hpe⟩))
      | false =>
        refine iteF ?_
        refine ⟨_, rfl, _, rfl, _, _, .cons (g1.sm s1) (.cons (g3.sm s1) .nil), ⟨p, f, rfl, h3, h4, rfl⟩, fun H2 w2 s2 hw2 => ?_⟩
        cases hw2.toBl
        refine ⟨_, rfl, ?_⟩
        cases hpf : plain p f with
        | true => exact iteF (hrest _ ⟨s1.trans s2, ht, .inr hpf⟩)
        | false => exact iteT ⟨Nat.zero_le _, fun q hq => none_ (s1.trans s2) (fun v z => by rcases z.2.1 with y | y <;> simp [hpe, hpf] at y) q hq⟩
    rintro H1 ⟨s1, ht, hpl⟩
    refine ⟨_, rfl, _, _, .cons (g1.sm s1) (.cons (.str _) .nil), ⟨p, "var", .inl rfl, rfl, rfl⟩, fun H2 vv s2 hvv => ?_⟩
    intro d hd
    have s12 := s1.trans s2
    have hd0 := s12.free hd
    have sd := Same.new0 (o := .dK []) hd
    refine ⟨_, rfl, _, _, _, (g2.sm s12).sm sd, rfl, atI_nat (j := 2) rfl, fun ue hue => ?_⟩
    have hvar : (namesL "var").map PyData.str = [.str "x", .str "y"] := rfl
    rw [hvar] at hvv
    refine for_D (fun m σ H' => Same H2 H' ∧ Tle K (upd H2 d (.dK [])) H' ∧ ∃ kvs a b, σ = [some v1, some v2, some v3, some vv, some (.ref d), a, b] ∧ H' d = some (.dK kvs) ∧ KT kvs (fun v => (v = .x ∨ v = .y) ∧ ∃ kk kk', (v, kk) ∈ e.to.take m ∧ (v, kk') ∈ f.to ∧ (kk = true ∨ kk' = true))) hue
      ⟨sd, Tle.refl, [], none, none, rfl, upd_same, KT.nil.cg fun v => by simp⟩ (fun m σ H' q => q.2.1) ?_ ?_
    · rintro m x dd σ H3 em rx ⟨s3, tl3, kvs, a, b, rfl, hd3, ks⟩
      rw [List.getElem?_map] at em
      obtain ⟨⟨z, bz⟩, hz, rfl⟩ := Option.map_eq_some_iff.mp em
      have s23 := s12.trans s3
      refine ⟨_, rfl, _, _, _, g3.sm s23, rfl, atI_nat (j := 2) rfl, fun uf huf => ?_⟩
      refine for_D (fun m' σ H' => Same H2 H' ∧ Tle K H3 H' ∧ ∃ kvs b, σ = [some v1, some v2, some v3, some vv, some (.ref d), some x, b] ∧ H' d = some (.dK kvs) ∧ KT kvs (fun v => (v = .x ∨ v = .y) ∧ ((∃ kk kk', (v, kk) ∈ e.to.take m ∧ (v, kk') ∈ f.to ∧ (kk = true ∨ kk' = true)) ∨ (v = z ∧ ∃ kk', (v, kk') ∈ f.to.take m' ∧ (bz = true ∨ kk' = true))))) huf
        ⟨s3, Tle.refl, kvs, _, rfl, hd3, ks.cg fun v => by simp⟩ (fun m σ H' q => q.2.1) ?_ ?_
      · rintro m' y dd σ H4 em' ry ⟨s4, tl4, kvs, b, rfl, hd4, ks⟩
        rw [List.getElem?_map] at em'
        obtain ⟨⟨z', bz'⟩, hz', rfl⟩ := Option.map_eq_some_iff.mp em'
        have rx4 := rx.tle tl4
        have stay : (¬ (z = z' ∧ (z = .x ∨ z = .y) ∧ (bz = true ∨ bz' = true))) → KT kvs (fun v => (v = .x ∨ v = .y) ∧ ((∃ kk kk', (v, kk) ∈ e.to.take m ∧ (v, kk') ∈ f.to ∧ (kk = true ∨ kk' = true)) ∨ (v = z ∧ ∃ kk', (v, kk') ∈ f.to.take (m' + 1) ∧ (bz = true ∨ kk' = true)))) := fun no => ks.cg fun v => by
          rw [take_snoc hz']
          constructor
          · rintro ⟨hv, q | ⟨q1, kk', q2, q3⟩⟩
            · exact ⟨hv, .inl q⟩
            · exact ⟨hv, .inr ⟨q1, kk', List.mem_append_left _ q2, q3⟩⟩
          · rintro ⟨hv, q | ⟨q1, kk', q2, q3⟩⟩
            · exact ⟨hv, .inl q⟩
            · rcases List.mem_append.mp q2 with q2 | q2
              · exact ⟨hv, .inr ⟨q1, kk', q2, q3⟩⟩
              · rw [List.mem_singleton] at q2
                cases q2
                subst q1
                exact absurd ⟨rfl, hv, q3⟩ no
        refine ⟨_, rfl, _, _, _, rx4, rfl, at0, fun u hu => ⟨_, rfl, _, _, _, ry, rfl, at0, fun u2 hu2 => ?_⟩⟩
        cases hu.toStr
        cases hu2.toStr
        refine ⟨rfl, _, rfl, ?_⟩
        rw [Thg.s_dec]
        by_cases e1 : z = z'
        · rw [decide_eq_true e1]
          refine iteT ?_
          refine ⟨_, rfl, _, _, _, rx4, rfl, at0, fun u hu => ?_⟩
          cases hu.toStr
          obtain ⟨av, ys, rfl, hT, hys⟩ := (hvv.sm s4).toTup
          rcases hys with _ | ⟨y1, _ | ⟨y2, _ | _⟩⟩
          cases y1.toStr
          cases y2.toStr
          refine ⟨_, rfl, av, _, rfl, .inr hT, rfl, rfl, _, rfl, ?_⟩
          rw [if_neg Bool.false_ne_true, in2]
          have exy : (("x" : Str) == z.s || ("y" : Str) == z.s) = decide (z = .x ∨ z = .y) := by cases z <;> decide +kernel
          rw [exy]
          by_cases e2 : z = .x ∨ z = .y
          · rw [decide_eq_true e2]
            refine iteT ?_
            refine ⟨_, rfl, _, _, _, rx4, rfl, at1, fun u hu => ?_⟩
            cases hu.toBl
            refine ⟨_, rfl, ?_⟩
            have more : (bz = true ∨ bz' = true) → ∀ v, (((v = .x ∨ v = .y) ∧ ((∃ kk kk', (v, kk) ∈ e.to.take m ∧ (v, kk') ∈ f.to ∧ (kk = true ∨ kk' = true)) ∨ (v = z ∧ ∃ kk', (v, kk') ∈ f.to.take m' ∧ (bz = true ∨ kk' = true)))) ∨ v = z) ↔
                (v = .x ∨ v = .y) ∧ ((∃ kk kk', (v, kk) ∈ e.to.take m ∧ (v, kk') ∈ f.to ∧ (kk = true ∨ kk' = true)) ∨ (v = z ∧ ∃ kk', (v, kk') ∈ f.to.take (m' + 1) ∧ (bz = true ∨ kk' = true))) := fun hb v => by
              rw [take_snoc hz']
              constructor
              · rintro (⟨hv, q | ⟨q1, kk', q2, q3⟩⟩ | rfl)
                · exact ⟨hv, .inl q⟩
                · exact ⟨hv, .inr ⟨q1, kk', List.mem_append_left _ q2, q3⟩⟩
                · exact ⟨e2, .inr ⟨rfl, bz', List.mem_append_right _ (by rw [e1]; exact List.mem_cons_self), hb⟩⟩
              · rintro ⟨hv, q | ⟨q1, kk', q2, q3⟩⟩
                · exact .inl ⟨hv, .inl q⟩
                · exact .inr q1
            cases hbz : bz with
            | true =>
              refine iteT (iteT ?_)
              rw [hbz] at rx4 ks more
              refine ⟨_, rfl, _, rfl, _, _, _, rx4, rfl, at0, fun u hu => ?_⟩
              cases hu.toStr
              refine ⟨d, _, rfl, DPut.k (k := .inr z.s) hd4 ks.small, s4.wr hd, tl4.trans (Tle.upd (by rw [hd4]; trivial)), _, _, rfl, upd_same, (ks.put (j := z)).cg fun v => ?_⟩
              exact more (.inl rfl) v
            | false =>
              refine iteF ?_
              rw [hbz] at rx4 ks more stay
              refine ⟨_, rfl, _, _, _, ry, rfl, at1, fun u hu => ?_⟩
              cases hu.toBl
              refine ⟨_, rfl, ?_⟩
              cases hbz' : bz' with
              | true =>
                refine iteT ?_
                rw [hbz'] at more
                refine ⟨_, rfl, _, rfl, _, _, _, rx4, rfl, at0, fun u hu => ?_⟩
                cases hu.toStr
                refine ⟨d, _, rfl, DPut.k (k := .inr z.s) hd4 ks.small, s4.wr hd, tl4.trans (Tle.upd (by rw [hd4]; trivial)), _, _, rfl, upd_same, (ks.put (j := z)).cg fun v => ?_⟩
                exact more (.inr rfl) v
              | false =>
                exact iteF ⟨s4, tl4, kvs, _, rfl, hd4, stay fun q => q.2.2.elim (fun y => nomatch y) fun y => by rw [hbz'] at y; exact nomatch y⟩
          · rw [decide_eq_false e2]
            exact iteF (iteF ⟨s4, tl4, kvs, _, rfl, hd4, stay fun q => e2 q.2.1⟩)
        · rw [decide_eq_false e1]
          exact iteF (iteF ⟨s4, tl4, kvs, _, rfl, hd4, stay fun q => e1 q.1⟩)
      · rintro σ H4 ⟨s4, tl4, kvs, b, rfl, hd4, ks⟩
        rw [List.length_map, List.take_length] at ks
        refine ⟨s4, tl3.trans tl4, kvs, _, _, rfl, hd4, ks.cg fun v => ?_⟩
        rw [take_snoc hz]
        constructor
        · rintro ⟨hv, ⟨k1, k2, q1, q2, q3⟩ | ⟨rfl, k2, q2, q3⟩⟩
          · exact ⟨hv, k1, k2, List.mem_append_left _ q1, q2, q3⟩
          · exact ⟨hv, bz, k2, List.mem_append_right _ List.mem_cons_self, q2, q3⟩
        · rintro ⟨hv, k1, k2, q1, q2, q3⟩
          rcases List.mem_append.mp q1 with q1 | q1
          · exact ⟨hv, .inl ⟨k1, k2, q1, q2, q3⟩⟩
          · rw [List.mem_singleton] at q1
            cases q1
            exact ⟨hv, .inr ⟨rfl, k2, q2, q3⟩⟩
    · rintro σ H3 ⟨s3, tl3, kvs, a, b, rfl, hd3, ks⟩
      rw [List.length_map, List.take_length] at ks
      obtain ⟨ks, ka, kn, kc⟩ := ks
      have h6 := thg_six kn
      refine ⟨_, rfl, d, kvs, ks.map Thg.s, rfl, .inl hd3, by rw [ka, List.map_map]; rfl, by rw [List.length_map]; omega, fun ys q hp _ hq => ?_⟩
      obtain ⟨L, rfl, hL⟩ := thg_back (S := fun v => v ∈ ks) (ys := ys) fun y hy => by
        obtain ⟨v, hv, rfl⟩ := List.mem_map.mp (hp.mem_iff.mp hy)
        exact ⟨v, rfl, hv⟩
      have s23 := (s12.trans s3).new hq (o := .lst ((L.map Thg.s).map V.str))
      refine k L _ q _ (fun v => ?_) ?_ s23 ((s12.trans s3).free hq) upd_same ?_
      · constructor
        · intro hv
          obtain ⟨c1, k1, k2, c2, c3, c4⟩ := (kc v).mp (hL v hv)
          exact ⟨ht, hpl, c1, k1, k2, c2, c3, c4⟩
        · rintro ⟨_, _, c1, k1, k2, c2, c3, c4⟩
          have := (kc v).mpr ⟨c1, k1, k2, c2, c3, c4⟩
          have := hp.mem_iff.mpr (List.mem_map_of_mem (f := Thg.s) this)
          obtain ⟨v', hv', e'⟩ := List.mem_map.mp this
          rw [← Thg.s_inj e']
          exact hv'
      · have := hp.length_eq
        rw [List.length_map, List.length_map] at this
        omega
      · have := RpAll.ofStr K (upd H3 q (.lst ((L.map Thg.s).map V.str))) (L.map Thg.s)
        rw [List.map_map (f := Thg.s) (g := PyData.str)] at this
        exact this
end
end Ev

-- part EvW14
set_option maxHeartbeats 400000
set_option Elab.async false
set_option linter.all false
set_option maxRecDepth 100000
set_option maxHeartbeats 4000000
/-! The walks: races, second part. -/
namespace Ev
open PySem L2
section
variable {P : Program} {w : World} {K : PySem.W.Frag} {mg : Str → Option Value} {base : Heap} {C : Addr}
/-- is_neighbour: 0 earlier, 1 i, 2 j, 3 k -/
abbrev s_is_neighbour : Stmt := top 72
theorem sc_is_neighbour : FnScope ["earlier", "i", "j", "k"] ["earlier", "i", "j"] (defScope s_is_neighbour) := ⟨rfl, rfl, rfl, by decide +kernel, rfl, by decide +kernel, by decide +kernel⟩
def Nb (R : List Stp) (i j : Nat) : Prop := HB R i j ∧ ∀ k, HB R k j → ¬ HB R i k
def spNb (K : PySem.W.Frag) : L2.Sp := fun vs H Q _ => ∃ R le xs, ∃ i j : Nat, vs = [.ref le, .int (i : Int), .int (j : Int)] ∧ H le = some (.lst xs) ∧ RpAll K H xs ((bef R).map eIx) ∧ j < R.length ∧
  ∀ c, (c = true ↔ Nb R i j) → Q (.bl c) H
theorem ok_is_neighbour (T : Txt w K mg C) : Cal P w K mg base 1 "is_neighbour" ["earlier", "i", "j"] (spNb K) := by
  refine T.d_is_neighbour.ok sc_is_neighbour (fun vs H Q E h => ?_) (fun f cdv A outer s H vs Q E hr h => ?_)
  · obtain ⟨_, _, _, _, _, rfl, _⟩ := h
    rfl
  · obtain ⟨R, le, xs, i, j, rfl, hx, ra, hj, k⟩ := h
    have eat : ∀ {i : Nat}, i < R.length → atI ((bef R).map eIx) (i : Int) = some (eIx ((bef R).getD i [])) := fun h => at_mapD (d := []) (by unfold bef; rw [befTo_len]; exact h)
    refine ⟨_, (pss_cons (ps_if (pt_cmpR op_notIn_seq (pv 1) (pe_ix ix_LD (pv 0) (pv 2) (fun _ _ => rfl)) (by rfl))
          (pss_one (ps_ret pe_bl))
          pss_nil)
        (pss_cons (ps_for PassesOwn.never rfl (pi_tup (pe_ix ix_LD (pv 0) (pv 2) (fun _ _ => rfl))) (pg_name (i := 3) sc_is_neighbour.nd rfl (Or.inl rfl))
          (pss_one (ps_if (pt_cmpR op_in_seq (pv 1) (pe_ix ix_LD (pv 0) (pv 3) (fun _ _ => rfl)) (by rfl))
            (pss_one (ps_ret pe_bl))
            pss_nil)))
        (pss_one (ps_ret pe_bl)))), ?_⟩
    refine ⟨_, rfl, _, rfl, _, rfl, le, xs, _, _, _, rfl, rfl, SqL.of hx, ra, eat hj, fun u hu => ?_⟩
    obtain ⟨a, ys, rfl, hT, hys⟩ := hu.toTup
    cases hys.nats
    refine ⟨a, _, rfl, .inr hT, rfl, flat_ints _, _, rfl, ?_⟩
    rw [if_pos rfl, in_ints]
    by_cases c : i ∈ (bef R).getD j []
    · rw [decide_eq_true c]
      refine iteF ?_
      have c' := (bef_iff hj).mp c
      refine ⟨_, rfl, _, rfl, le, xs, _, _, _, rfl, rfl, SqL.of hx, ra, eat hj, fun u2 hu2 => ?_⟩
      refine for_D (fun m σ H' => H' = H ∧ ∃ b, σ = [some (.ref le), some (.int (i : Int)), some (.int (j : Int)), b] ∧ ∀ k ∈ ((bef R).getD j []).take m, ¬ HB R i k) hu2 ⟨rfl, none, rfl, by simp⟩ (fun m σ H' q => by rw [q.1]; exact Tle.refl) ?_ ?_
      · rintro m x dd σ H1 em rx ⟨rfl, b, rfl, hn⟩
        rw [List.getElem?_map] at em
        obtain ⟨z, hz, rfl⟩ := Option.map_eq_some_iff.mp em
        cases rx.toInt
        have hzj := (bef_iff hj).mp (List.mem_of_getElem? hz)
        have hzl : z < R.length := Nat.lt_trans hzj.lt hj
        refine ⟨_, rfl, _, rfl, _, rfl, le, xs, _, _, _, rfl, rfl, SqL.of hx, ra, eat hzl, fun u3 hu3 => ?_⟩
        obtain ⟨a3, ys3, rfl, hT3, hys3⟩ := hu3.toTup
        cases hys3.nats
        refine ⟨a3, _, rfl, .inr hT3, rfl, flat_ints _, _, rfl, ?_⟩
        rw [if_neg Bool.false_ne_true, in_ints]
        by_cases c3 : i ∈ (bef R).getD z []
        · rw [decide_eq_true c3]
          exact iteT (k false ⟨fun q => (nomatch q), fun q => absurd ((bef_iff hzl).mp c3) (q.2 z hzj)⟩)
        · rw [decide_eq_false c3]
          refine iteF ⟨rfl, _, rfl, fun q hq => ?_⟩
          rw [take_snoc hz] at hq
          rcases List.mem_append.mp hq with hq | hq
          · exact hn q hq
          · rw [List.mem_singleton] at hq
            subst hq
            exact fun y => c3 ((bef_iff hzl).mpr y)
      · rintro σ H1 ⟨rfl, b, rfl, hn⟩
        rw [List.length_map, List.take_length] at hn
        exact k true ⟨fun _ => ⟨c', fun q hq => hn q ((bef_iff hj).mpr hq)⟩, fun _ => rfl⟩
    · rw [decide_eq_false c]
      exact iteT (k false ⟨fun q => (nomatch q), fun q => absurd ((bef_iff hj).mpr q.1) c⟩)

/-- race_pairs: 0 program, 1 steps, 2 earlier, 3 found, 4 i, 5 j, 6 name -/
abbrev s_race_pairs : Stmt := top 73
theorem sc_race_pairs : FnScope ["program", "steps", "earlier", "found", "i", "j", "name"] ["program", "steps"] (defScope s_race_pairs) := ⟨rfl, rfl, rfl, by decide +kernel, rfl, by decide +kernel, by decide +kernel⟩
def RP (p : Prog) (R : List Stp) (z : Nat × Nat × Thg) : Prop := ∃ e f, R[z.1]? = some e ∧ R[z.2.1]? = some f ∧ Nb R z.1 z.2.1 ∧ clash p e f z.2.2
def eRP (z : Nat × Nat × Thg) : D := .tuple [dI z.1, dI z.2.1, .str z.2.2.s]
def spRP (K : PySem.W.Frag) : L2.Sp := fun vs H Q _ => ∃ p R, RpAll K H vs [eProg p, eRow R] ∧ RowOk p R ∧
  ∀ (L : List (Nat × Nat × Thg)) H' l xs, (∀ z, z ∈ L ↔ RP p R z) → L.length ≤ R.length * 384 → Same H H' → H l = none → H' l = some (.lst xs) → RpAll K H' xs (L.map eRP) → Q (.ref l) H'
theorem ok_race_pairs (T : Txt w K mg C) : Cal P w K mg base 4 "race_pairs" ["program", "steps"] (spRP K) := by
  refine T.d_race_pairs.ok sc_race_pairs (fun vs H Q E h => ?_) (fun f cdv A outer s H vs Q E hr h => ?_)
  · obtain ⟨_, _, hd, _⟩ := h
    exact hd.length
  · obtain ⟨p, R, hd, hR, k⟩ := h
    rcases hd with _ | ⟨g1, _ | ⟨g2, _ | _⟩⟩
    rename_i v1 v2
    refine ⟨_, (pss_cons (ps_set (i := 2) sc_race_pairs.nd rfl (Or.inl rfl) (pe_own (ok_before T) (hr.mono (by decide)) rfl (pa_cons (pv 1) pa_nil)))
        (pss_cons (ps_set (i := 3) sc_race_pairs.nd rfl (Or.inl rfl) (pe_lst pa_nil))
        (pss_cons (ps_for PassesOwn.never rfl (pi_range1 rfl T.range (pa_cons (pe_callB call_lenD' (by rfl) T.len PySem.boot_len (pa_cons (pv 1) pa_nil)) pa_nil)) (pg_name (i := 4) sc_race_pairs.nd rfl (Or.inl rfl))
          (pss_one (ps_for PassesOwn.never rfl (pi_range2 rfl T.range (pa_cons (pe_op op_add (pv 4) pe_int) (pa_cons (pe_callB call_lenD' (by rfl) T.len PySem.boot_len (pa_cons (pv 1) pa_nil)) pa_nil))) (pg_name (i := 5) sc_race_pairs.nd rfl (Or.inl rfl))
            (pss_one (ps_if (pt_val (pe_own (ok_is_neighbour T) (hr.mono (by decide)) rfl (pa_cons (pv 2) (pa_cons (pv 4) (pa_cons (pv 5) pa_nil)))))
              (pss_one (ps_for PassesOwn.never rfl (pi_list (pe_own (ok_clashing T) (hr.mono (by decide)) rfl (pa_cons (pv 0) (pa_cons (pe_ix ix_D (pv 1) (pv 4) (fun _ _ => rfl)) (pa_cons (pe_ix ix_D (pv 1) (pv 5) (fun _ _ => rfl)) pa_nil))))) (pg_name (i := 6) sc_race_pairs.nd rfl (Or.inl rfl))
                (pss_one (ps_expr (pe_bm PySem.F.plainAttrs_list PySem.F.slot_list_append PySem.F.type_list_append mt_append (pv 3) (pa_cons (pe_tupN (pa_cons (pv 4) (pa_cons (pv 5) (pa_cons (pv 6) pa_nil)))) pa_nil))))))
              pss_nil)))))
        (pss_one (ps_ret (pv 3)))))), ?_⟩
    refine ⟨_, rfl, _, _, .cons g2 .nil, ⟨R, rfl, hR.1, rfl⟩, fun H1 le xe s1 hle hxe rae => ?_⟩
    refine ⟨Nat.zero_le _, fun l hl => ?_⟩
    have hl0 : H l = none := s1.free hl
    have s2 := Same.new0 (o := .lst []) hl
    have s12 := s1.trans s2
    have hxe2 := s2 _ _ hxe
    have rae2 := rae.sm s2
    have hlel : le ≠ l := fun q => by subst q; rw [hxe] at hl; cases hl
    have hR1 := hR.1
    refine ⟨_, rfl, _, _, rfl, g2.sm s12, ?_⟩
    have el : (((R.map eSp).length : Nat) : Int) = (R.length : Int) := by rw [List.length_map]
    refine ⟨_, rfl, by rw [el]; omega, by rw [el]; omega, ?_⟩
    have en' : (((R.map eSp).length : Nat) : Int).toNat = R.length := by rw [el]; omega
    rw [en']
    have hx0 : upd H1 l (.lst []) l = some (.lst []) := upd_same
    generalize upd H1 l (.lst []) = H2 at s2 s12 hxe2 rae2 hx0
    refine for_range (lo := 0) (n := R.length) (fun i σ H' => Tle K H2 H' ∧ Same H H' ∧ H' le = some (.lst xe) ∧ ∃ xs L a b c, σ = [some v1, some v2, some (.ref le), some (.ref l), a, b, c] ∧ H' l = some (.lst xs) ∧ RpAll K H' xs (L.map eRP) ∧ (∀ z, z ∈ L ↔ z.1 < i ∧ RP p R z) ∧ L.length ≤ i * 384)
      ⟨Tle.refl, s12, hxe2, [], [], none, none, none, rfl, hx0, .nil, fun z => by simp, Nat.zero_le _⟩ ?_ ?_
    · rintro i σ H3 hi ⟨tl, s3, he3, xs, L, a, b, c, rfl, hx, ra, mem, hlen⟩
      rw [show ((0 : Int) + (i : Int)) = (i : Int) by omega]
      obtain ⟨e, he⟩ : ∃ e, R[i]? = some e := ⟨_, List.getElem?_eq_getElem hi⟩
      have heR := hR.2 e (List.mem_of_getElem? he)
      refine ⟨_, rfl, _, _, rfl, rfl, _, rfl, _, _, rfl, g2.sm s3, ?_⟩
      refine ⟨_, _, rfl, ⟨by omega, by omega, by rw [el]; omega, by rw [el]; omega⟩, ?_⟩
      have en2 : ((((R.map eSp).length : Nat) : Int) - ((i : Int) + 1)).toNat = R.length - (i + 1) := by rw [el]; omega
      rw [en2]
      refine for_range (lo := (i : Int) + 1) (n := R.length - (i + 1)) (fun m σ H' => Tle K H2 H' ∧ Same H H' ∧ H' le = some (.lst xe) ∧ ∃ xs L b c, σ = [some v1, some v2, some (.ref le), some (.ref l), some (.int (i : Int)), b, c] ∧ H' l = some (.lst xs) ∧ RpAll K H' xs (L.map eRP) ∧ (∀ z, z ∈ L ↔ (z.1 < i ∨ z.1 = i ∧ z.2.1 < i + 1 + m) ∧ RP p R z) ∧ L.length ≤ i * 384 + m * 6)
        ⟨tl, s3, he3, xs, L, b, c, rfl, hx, ra, fun z => (mem z).trans ⟨fun q => ⟨.inl q.1, q.2⟩, fun q => ⟨q.1.elim id fun y => by
          obtain ⟨_, _, _, _, h, _⟩ := q.2
          have := h.1.lt
          omega, q.2⟩⟩, hlen⟩ ?_ ?_
      · rintro m σ H4 hm ⟨tl4, s4, he4, xs, L, b, c, rfl, hx, ra, mem, hlen⟩
        rw [show ((i : Int) + 1 + (m : Int)) = ((i + 1 + m : Nat) : Int) by omega]
        have hj : i + 1 + m < R.length := by omega
        obtain ⟨f', hf⟩ : ∃ g, R[i + 1 + m]? = some g := ⟨_, List.getElem?_eq_getElem hj⟩
        have hfR := hR.2 f' (List.mem_of_getElem? hf)
        have step : ∀ z : Nat × Nat × Thg, ((z.1 < i ∨ z.1 = i ∧ z.2.1 < i + 1 + (m + 1)) ∧ RP p R z) ↔ ((z.1 < i ∨ z.1 = i ∧ z.2.1 < i + 1 + m) ∧ RP p R z) ∨ (z.1 = i ∧ z.2.1 = i + 1 + m ∧ RP p R z) := fun z => by
          constructor
          · rintro ⟨h1 | ⟨h1, h2⟩, h3⟩
            · exact .inl ⟨.inl h1, h3⟩
            · rcases Nat.lt_or_ge z.2.1 (i + 1 + m) with q | q
              · exact .inl ⟨.inr ⟨h1, q⟩, h3⟩
              · exact .inr ⟨h1, by omega, h3⟩
          · rintro (⟨h1 | ⟨h1, h2⟩, h3⟩ | ⟨h1, h2, h3⟩)
            · exact ⟨.inl h1, h3⟩
            · exact ⟨.inr ⟨h1, by omega⟩, h3⟩
            · exact ⟨.inr ⟨h1, by omega⟩, h3⟩
        refine ⟨_, rfl, _, rfl, _, rfl, R, le, xe, i, i + 1 + m, rfl, he4, rae2.tle tl4, hj, fun cb hcb => ⟨_, rfl, ?_⟩⟩
        cases cb with
        | false =>
          refine iteF ⟨tl4, s4, he4, xs, L, _, _, rfl, hx, ra, fun z => ?_, by omega⟩
          rw [step, mem]
          exact ⟨.inl, fun q => q.elim id fun ⟨h1, h2, _, _, _, _, h3, _⟩ => absurd (hcb.mpr (by rw [h1, h2] at h3; exact h3)) Bool.false_ne_true⟩
        | true =>
          refine iteT ?_
          have nb := hcb.mp rfl
          refine ⟨_, rfl, _, rfl, _, rfl, _, _, _, g2.sm s4, rfl, at_map he, fun u hu => ⟨_, rfl, _, rfl, _, _, _, g2.sm s4, rfl, at_map hf, fun u2 hu2 => ?_⟩⟩
          refine ⟨p, e, f', .cons (g1.sm s4) (.cons hu (.cons hu2 .nil)), heR.1, heR.2, hfR.1, hfR.2, fun N H5 ln xn hN hN6 s5 hln hxn ran => ?_⟩
          have hlnl : ln ≠ l := fun q => by subst q; rw [hx] at hln; cases hln
          refine for_LD (fun n σ H' => (SqL K H' ln xn ∧ Tle K H5 H') ∧ H' ln = some (.lst xn) ∧ Same H H' ∧ H' le = some (.lst xe) ∧ ∃ xs L' c, σ = [some v1, some v2, some (.ref le), some (.ref l), some (.int (i : Int)), some (.int ((i + 1 + m : Nat) : Int)), c] ∧ H' l = some (.lst xs) ∧ RpAll K H' xs (L'.map eRP) ∧ (∀ z, z ∈ L' ↔ ((z.1 < i ∨ z.1 = i ∧ z.2.1 < i + 1 + m) ∧ RP p R z) ∨ (z.1 = i ∧ z.2.1 = i + 1 + m ∧ z.2.2 ∈ N.take n)) ∧ L'.length ≤ i * 384 + m * 6 + n)
            (SqL.of hxn) ran ⟨⟨SqL.of hxn, Tle.refl⟩, hxn, s4.trans s5, s5 _ _ he4, xs, L, _, rfl, s5 _ _ hx, ra.sm s5, fun z => by rw [mem]; simp, hlen⟩ (fun n σ H' q => q.1) ?_ ?_
          · rintro n x dd σ H6 em rx ⟨⟨_, tl6⟩, hn6, s6, he6, xs, L', c, rfl, hx6, ra6, mem6, hlen6⟩
            rw [List.getElem?_map] at em
            obtain ⟨z, hz, rfl⟩ := Option.map_eq_some_iff.mp em
            cases rx.toStr
            have hn : n < 6 := by
              have := (List.getElem?_eq_some_iff.mp hz).1
              omega
            refine ⟨_, rfl, .inl ⟨rfl, _, SqL.of hx6⟩, ?_⟩
            refine ⟨_, rfl, _, rfl, _, rfl, _, .cons (.int _) (.cons (.int _) (.cons (.str _) .nil)), by show 3 < 1000; decide, fun v7 H7 s7 hv7 => ?_⟩
            have hx7 := s7 _ _ hx6
            refine ⟨l, xs, _, rfl, rfl, hx7, sizeLine_small (by rw [ra6.length, List.length_map]; omega), ?_⟩
            have tl7 := (tl6.trans (Tle.same s7)).trans (Tle.lst hx7 (o := .lst (xs ++ [v7])))
            have hn7 : upd H7 l (.lst (xs ++ [v7])) ln = some (.lst xn) := by rw [upd_ne hlnl]; exact s7 _ _ hn6
            refine ⟨⟨SqL.of hn7, tl7⟩, hn7, (s6.trans s7).wr hl0, by rw [upd_ne hlel]; exact s7 _ _ he6, _, L' ++ [(i, i + 1 + m, z)], _, rfl, upd_same, ?_, fun y => ?_, by rw [List.length_append]; show L'.length + 1 ≤ _; omega⟩
            · rw [List.map_append]
              exact ((ra6.sm s7).snoc hv7).tle (Tle.lst hx7)
            · rw [List.mem_append, mem6, List.mem_singleton, take_snoc hz, List.mem_append, List.mem_singleton]
              obtain ⟨y1, y2, y3⟩ := y
              constructor
              · rintro ((h | ⟨h1, h2, h3⟩) | h)
                · exact .inl h
                · exact .inr ⟨h1, h2, .inl h3⟩
                · cases h
                  exact .inr ⟨rfl, rfl, .inr rfl⟩
              · rintro (h | ⟨h1, h2, h3 | h3⟩)
                · exact .inl (.inl h)
                · exact .inl (.inr ⟨h1, h2, h3⟩)
                · have h1 : y1 = i := h1
                  have h2 : y2 = i + 1 + m := h2
                  have h3 : y3 = z := h3
                  subst h1 h2 h3
                  exact .inr rfl
          · rintro σ H6 ⟨⟨_, tl6⟩, hn6, s6, he6, xs, L', c, rfl, hx6, ra6, mem6, hlen6⟩
            rw [List.length_map, List.take_length] at mem6
            rw [List.length_map] at hlen6
            refine ⟨(tl4.trans (Tle.same s5)).trans tl6, s6, he6, xs, L', _, _, rfl, hx6, ra6, fun z => ?_, by omega⟩
            rw [mem6, step]
            constructor
            · rintro (h | ⟨h1, h2, h3⟩)
              · exact .inl h
              · exact .inr ⟨h1, h2, e, f', by rw [h1]; exact he, by rw [h2]; exact hf, by rw [h1, h2]; exact nb, (hN _).mp h3⟩
            · rintro (h | ⟨h1, h2, e', f'', h3, h4, _, h5⟩)
              · exact .inl h
              · rw [h1, he] at h3
                rw [h2, hf] at h4
                cases h3
                cases h4
                exact .inr ⟨h1, h2, (hN _).mpr h5⟩
      · rintro σ H4 ⟨tl4, s4, he4, xs, L, b, c, rfl, hx, ra, mem, hlen⟩
        refine ⟨tl4, s4, he4, xs, L, _, _, _, rfl, hx, ra, fun z => ?_, by omega⟩
        rw [mem]
        constructor
        · rintro ⟨h1 | ⟨h1, h2⟩, h3⟩
          · exact ⟨by omega, h3⟩
          · exact ⟨by omega, h3⟩
        · rintro ⟨h1, h3⟩
          refine ⟨?_, h3⟩
          obtain ⟨_, _, _, h4, _⟩ := h3
          have := (List.getElem?_eq_some_iff.mp h4).1
          rcases Nat.lt_or_ge z.1 i with q | q
          · exact .inl q
          · exact .inr ⟨by omega, by omega⟩
    · rintro σ H3 ⟨tl, s3, he3, xs, L, a, b, c, rfl, hx, ra, mem, hlen⟩
      refine ⟨_, rfl, k L _ _ _ (fun z => (mem z).trans ⟨fun q => q.2, fun q => ⟨?_, q⟩⟩) (by omega) s3 hl0 hx ra⟩
      obtain ⟨_, _, h4, _⟩ := q
      exact (List.getElem?_eq_some_iff.mp h4).1

/-- races: 0 program, 1 steps, 2 found, 3 i, 4 j, 5 name, 6 one, 7 other -/
abbrev s_races : Stmt := top 74
theorem sc_races : FnScope ["program", "steps", "found", "i", "j", "name", "one", "other"] ["program", "steps"] (defScope s_races) := ⟨rfl, rfl, rfl, by decide +kernel, rfl, by decide +kernel, by decide +kernel⟩
def spRaces (K : PySem.W.Frag) : L2.Sp := fun vs H Q _ => ∃ p R, RpAll K H vs [eProg p, eRow R] ∧ RowOk p R ∧
  ∀ (L : List Ft) H' l xs, (∀ F, F ∈ L ↔ RaceAt p R F) → L.length ≤ R.length * 384 → Same H H' → H l = none → H' l = some (.lst xs) → RpAll K H' xs (L.map eFt) → Q (.ref l) H'
def mkR (R : List Stp) (z : Nat × Nat × Thg) : Ft := mkRace (R.getD z.1 Stp.d) (R.getD z.2.1 Stp.d) z.2.2
theorem race_iff {p : Prog} {R : List Stp} {L : List (Nat × Nat × Thg)} (h : ∀ z, z ∈ L ↔ RP p R z) (F : Ft) : F ∈ L.map (mkR R) ↔ RaceAt p R F := by
  rw [List.mem_map]
  constructor
  · rintro ⟨z, hz, rfl⟩
    obtain ⟨e, f, he, hf, nb, hc⟩ := (h z).mp hz
    exact ⟨z.1, z.2.1, e, f, z.2.2, he, hf, nb.1, nb.2, hc, by unfold mkR; rw [getD_some he, getD_some hf]⟩
  · rintro ⟨i, j, e, f, v, he, hf, h1, h2, hc, rfl⟩
    refine ⟨(i, j, v), (h _).mpr ⟨e, f, he, hf, ⟨h1, h2⟩, hc⟩, ?_⟩
    unfold mkR
    rw [getD_some he, getD_some hf]
theorem ok_races (T : Txt w K mg C) : Cal P w K mg base 5 "races" ["program", "steps"] (spRaces K) := by
  refine T.d_races.ok sc_races (fun vs H Q E h => ?_) (fun f cdv A outer s H vs Q E hr h => ?_)
  · obtain ⟨_, _, hd, _⟩ := h
    exact hd.length
  · obtain ⟨p, R, hd, hR, k⟩ := h
    rcases hd with _ | ⟨g1, _ | ⟨g2, _ | _⟩⟩
    rename_i v1 v2
    refine ⟨_, (pss_cons (ps_set (i := 2) sc_races.nd rfl (Or.inl rfl) (pe_lst pa_nil))
        (pss_cons (ps_for PassesOwn.never rfl (pi_list (pe_own (ok_race_pairs T) (hr.mono (by decide)) rfl (pa_cons (pv 0) (pa_cons (pv 1) pa_nil)))) (pg_tup rfl (pgs_cons (pg_name (i := 3) sc_races.nd rfl (Or.inl rfl)) (pgs_cons (pg_name (i := 4) sc_races.nd rfl (Or.inl rfl)) (pgs_cons (pg_name (i := 5) sc_races.nd rfl (Or.inl rfl)) pgs_nil))))
          (pss_cons (ps_set (i := 6) sc_races.nd rfl (Or.inl rfl) (pe_slice sl_D (pe_ix ix_D (pv 1) (pv 3) (fun _ _ => rfl)) po_none (po_some pe_int)))
          (pss_cons (ps_set (i := 7) sc_races.nd rfl (Or.inl rfl) (pe_slice sl_D (pe_ix ix_D (pv 1) (pv 4) (fun _ _ => rfl)) po_none (po_some pe_int)))
          (pss_cons (ps_if (pt_cmpR (op_ltT (room0 hr)) (pv 7) (pv 6) (nomark _))
            (pss_one (ps_par (i := 6) (j := 7) rfl sc_races.nd rfl rfl (by decide) rfl rfl (pa_cons (pv 7) (pa_cons (pv 6) pa_nil)) rfl))
            pss_nil)
          (pss_one (ps_expr (pe_bm PySem.F.plainAttrs_list PySem.F.slot_list_append PySem.F.type_list_append mt_append (pv 2) (pa_cons (pe_tupN (pa_cons pe_str (pa_cons (pe_ix ix_D (pv 6) pe_int (fun _ _ => rfl)) (pa_cons (pe_ix ix_D (pv 6) pe_int (fun _ _ => rfl)) (pa_cons (pe_ix ix_D (pv 7) pe_int (fun _ _ => rfl)) (pa_cons (pe_ix ix_D (pv 7) pe_int (fun _ _ => rfl)) (pa_cons (pv 5) pa_nil))))))) pa_nil))))))))
        (pss_one (ps_ret (pv 2))))), ?_⟩
    refine ⟨Nat.zero_le _, fun l hl => ?_⟩
    have s0 := Same.new0 (o := .lst []) hl
    have hx0 : upd H l (.lst []) l = some (.lst []) := upd_same
    generalize upd H l (.lst []) = H0 at s0 hx0
    refine ⟨_, rfl, _, rfl, p, R, .cons (g1.sm s0) (.cons (g2.sm s0) .nil), hR, fun L H1 ln xn hL hLl s1 hln hxn ran => ?_⟩
    have hR1 := hR.1
    have s01 := s0.trans s1
    have hx1 := s1 _ _ hx0
    have hne : ln ≠ l := fun q => by subst q; rw [hx0] at hln; cases hln
    refine for_LD (fun n σ H' => (SqL K H' ln xn ∧ Tle K H1 H') ∧ H' ln = some (.lst xn) ∧ Same H H' ∧ ∃ xs a b c d e, σ = [some v1, some v2, some (.ref l), a, b, c, d, e] ∧ H' l = some (.lst xs) ∧ RpAll K H' xs (((L.take n).map (mkR R)).map eFt) ∧ xs.length ≤ n)
      (SqL.of hxn) ran ⟨⟨SqL.of hxn, Tle.refl⟩, hxn, s01, [], none, none, none, none, none, rfl, hx1, .nil, Nat.le_refl _⟩ (fun n σ H' q => q.1) ?_ ?_
    · rintro n x dd σ H2 em rx ⟨⟨_, tl⟩, hn2, s2, xs, a, b, c, d, e, rfl, hx, ra, hlen⟩
      rw [List.getElem?_map] at em
      obtain ⟨⟨i, j, z⟩, hz, rfl⟩ := Option.map_eq_some_iff.mp em
      obtain ⟨e1, e2, he1, he2, nb, hc⟩ := (hL _).mp (List.mem_of_getElem? hz)
      have he1 : R[i]? = some e1 := he1
      have he2 : R[j]? = some e2 := he2
      have hn : n < 100000 := by
        have := (List.getElem?_eq_some_iff.mp hz).1
        omega
      refine gtup_D rx rfl fun ys hys => ?_
      rcases hys with _ | ⟨y1, _ | ⟨y2, _ | ⟨y3, _ | _⟩⟩⟩
      cases y1.toInt
      cases y2.toInt
      cases y3.toStr
      refine ⟨_, _, rfl, _, _, rfl, _, _, rfl, rfl, ?_⟩
      refine ⟨_, rfl, _, rfl, _, _, _, g2.sm s2, rfl, at_map he1, fun u1 hu1 => ⟨2, rfl, _, hu1, fun w1 H3 s3 hw1 => ?_⟩⟩
      refine ⟨_, rfl, _, rfl, _, _, _, g2.sm (s2.trans s3), rfl, at_map he2, fun u2 hu2 => ⟨2, rfl, _, hu2, fun w2 H4 s4 hw2 => ?_⟩⟩
      have hw1 : Rp K H3 w1 (.tuple [dI e1.th, dI e1.pc]) := hw1
      have hw2 : Rp K H4 w2 (.tuple [dI e2.th, dI e2.pc]) := hw2
      have hw1 := hw1.sm s4
      have s34 := s3.trans s4
      have s24 := s2.trans s34
      have hx4 := s34 _ _ hx
      have hn4 := s34 _ _ hn2
      have ra4 := ra.sm s34
      obtain ⟨a1, q1, rfl, hT1, hq1⟩ := hw1.toTup
      obtain ⟨a2, q2, rfl, hT2, hq2⟩ := hw2.toTup
      have eq1 : q1 = ([(e1.th : Int), (e1.pc : Int)] : List Int).map V.int := RpAll.int (ns := [(e1.th : Int), (e1.pc : Int)]) hq1
      have eq2 : q2 = ([(e2.th : Int), (e2.pc : Int)] : List Int).map V.int := RpAll.int (ns := [(e2.th : Int), (e2.pc : Int)]) hq2
      subst eq1 eq2
      refine ⟨_, rfl, _, rfl, a2, a1, _, _, rfl, rfl, hT2, hT1, _, rfl, ?_⟩
      have elt : HT.lexLt [(e2.th : Int), (e2.pc : Int)] [(e1.th : Int), (e1.pc : Int)] = decide (e2.th < e1.th ∨ e2.th = e1.th ∧ e2.pc < e1.pc) := by
        rw [HT.lexLt_cons]
        by_cases c1 : e2.th = e1.th
        · rw [if_pos (by rw [c1]), HT.lexLt_cons]
          by_cases c2 : e2.pc = e1.pc
          · rw [if_pos (by rw [c2]), HT.lexLt_nil_nil]
            exact (decide_eq_false (by omega)).symm
          · rw [if_neg (by omega)]
            exact decide_eq_decide.mpr (by omega)
        · rw [if_neg (by omega)]
          exact decide_eq_decide.mpr (by omega)
      rw [elt]
      by_cases hc2 : e2.th < e1.th ∨ e2.th = e1.th ∧ e2.pc < e1.pc
      · rw [decide_eq_true hc2]
        refine iteT ?_
        refine ⟨_, rfl, _, rfl, _, _, rfl, ?_⟩
        refine ⟨_, rfl, .inl ⟨rfl, _, SqL.of hx4⟩, ?_⟩
        refine ⟨_, rfl, _, _, _, hw2, rfl, at0, fun u hu => ?_⟩
        cases hu.toInt
        refine ⟨_, rfl, _, _, _, hw2, rfl, at1, fun u hu => ?_⟩
        cases hu.toInt
        refine ⟨_, rfl, _, _, _, hw1, rfl, at0, fun u hu => ?_⟩
        cases hu.toInt
        refine ⟨_, rfl, _, _, _, hw1, rfl, at1, fun u hu => ?_⟩
        cases hu.toInt
        refine ⟨_, rfl, _, .cons (.str _) (.cons (.int _) (.cons (.int _) (.cons (.int _) (.cons (.int _) (.cons (.str _) .nil))))), by show 6 < 1000; decide, fun v5 H5 s5 hv5 => ?_⟩
        have hx5 := s5 _ _ hx4
        have hn5 : upd H5 l (.lst (xs ++ [v5])) ln = some (.lst xn) := by rw [upd_ne hne]; exact s5 _ _ hn4
        refine ⟨l, xs, _, rfl, rfl, hx5, sizeLine_small (by omega), ⟨SqL.of hn5, (tl.trans (Tle.same (s34.trans s5))).trans (Tle.lst hx5)⟩, hn5, (s24.trans s5).wr hl, _, _, _, _, _, _, rfl, upd_same, ?_, by rw [List.length_append]; show xs.length + 1 ≤ _; omega⟩
        rw [take_snoc hz, List.map_append, List.map_append]
        refine ((ra4.sm s5).snoc ?_).tle (Tle.lst hx5)
        have ee : mkR R (i, j, z) = .race e2.th e2.pc e1.th e1.pc z := by unfold mkR; rw [getD_some he1, getD_some he2]; exact if_pos hc2
        rw [ee]
        exact hv5
      · rw [decide_eq_false hc2]
        refine iteF ?_
        refine ⟨_, rfl, .inl ⟨rfl, _, SqL.of hx4⟩, ?_⟩
        refine ⟨_, rfl, _, _, _, hw1, rfl, at0, fun u hu => ?_⟩
        cases hu.toInt
        refine ⟨_, rfl, _, _, _, hw1, rfl, at1, fun u hu => ?_⟩
        cases hu.toInt
        refine ⟨_, rfl, _, _, _, hw2, rfl, at0, fun u hu => ?_⟩
        cases hu.toInt
        refine ⟨_, rfl, _, _, _, hw2, rfl, at1, fun u hu => ?_⟩
        cases hu.toInt
        refine ⟨_, rfl, _, .cons (.str _) (.cons (.int _) (.cons (.int _) (.cons (.int _) (.cons (.int _) (.cons (.str _) .nil))))), by show 6 < 1000; decide, fun v5 H5 s5 hv5 => ?_⟩
        have hx5 := s5 _ _ hx4
        have hn5 : upd H5 l (.lst (xs ++ [v5])) ln = some (.lst xn) := by rw [upd_ne hne]; exact s5 _ _ hn4
        refine ⟨l, xs, _, rfl, rfl, hx5, sizeLine_small (by omega), ⟨SqL.of hn5, (tl.trans (Tle.same (s34.trans s5))).trans (Tle.lst hx5)⟩, hn5, (s24.trans s5).wr hl, _, _, _, _, _, _, rfl, upd_same, ?_, by rw [List.length_append]; show xs.length + 1 ≤ _; omega⟩
        rw [take_snoc hz, List.map_append, List.map_append]
        refine ((ra4.sm s5).snoc ?_).tle (Tle.lst hx5)
        have ee : mkR R (i, j, z) = .race e1.th e1.pc e2.th e2.pc z := by unfold mkR; rw [getD_some he1, getD_some he2]; exact if_neg hc2
        rw [ee]
        exact hv5
    · rintro σ H2 ⟨⟨_, tl⟩, hn2, s2, xs, a, b, c, d, e, rfl, hx, ra, hlen⟩
      rw [List.length_map, List.take_length] at ra
      exact ⟨_, rfl, k (L.map (mkR R)) _ _ _ (race_iff hL) (by rw [List.length_map]; exact hLl) s2 hl hx ra⟩
end
end Ev

-- part EvI
set_option maxHeartbeats 400000
set_option Elab.async false
set_option linter.all false
set_option maxRecDepth 100000
/-! The rule of enumerate(t), t a tuple of data (the library has the rule for lists). -/
namespace Ev
open PySem PySem.Spec PyProof.Rows L2
open Sem (wp)

set_option maxHeartbeats 1000000 in
/-- enumerate(v): what its making does -/
theorem enum_one {v : Value} {ob : Obj} {Hv : Heap → Prop} (B : Begins v ob Hv) :
    Meets (Builtin.«enumerate.__new__» ⟨[.type "enumerate", v], []⟩) (fun _ R s => Hv s.heap ∧
      R (.ok (.ret (.ref (s.heap.push ob).objs.size))) { s with heap := (s.heap.push ob).push ⟨.type "enumerate", none, .fields #[.none, .bool false, .ref s.heap.objs.size, rawInt 0, .none, .none], #[]⟩ }) :=
  .of_wp fun prog w A R s hyp => by
    obtain ⟨hp, gn, dr, tks, ost⟩ := s
    obtain ⟨hv1, hyp⟩ := hyp
    have hsb := sub_enumerate
    have beg : ∀ {A' : Around} {E : Value → Shared → Prop} {Q : Value → Shared → Prop}, Q (.ref hp.objs.size) ⟨hp.push ob, gn, dr, tks, ost⟩ → wpAny (model prog w) A' (pyIter v) Q E ⟨hp, gn, dr, tks, ost⟩ :=
      fun q => B.iter prog w _ _ ⟨hp, gn, dr, tks, ost⟩ _ hv1 q
    wp_walk using beg
    refine wpAny_stack_any fun stk => wpAny_pure ?_
    split
    · rename_i cl _ _ _ _ _
      cases (cl == Value.type "enumerate") <;> (wp_walk using beg; exact ⟨_, rfl, hyp⟩)
    · wp_walk using beg
      exact ⟨_, rfl, hyp⟩
section
variable {prog : Program} {w : World} {A : Around} {E : Value → Shared → Prop} {s : Shared}
theorem enum_two {v : Value} {ob : Obj} {Hv : Heap → Prop} {Q : Value → Shared → Prop} (B : Begins v ob Hv) (hv1 : Hv s.heap)
    (h : ∀ h2, IsEnum h2 (s.heap.objs.size + 1) s.heap.objs.size 0 .none → h2.get? s.heap.objs.size = some ob → h2.objs.size = s.heap.objs.size + 2 →
      (∀ b u, s.heap.get? b = some u → h2.get? b = some u) → Q (.ref (s.heap.objs.size + 1)) { s with heap := h2 }) : wpAny (model prog w) A (call (.type "enumerate") [v]) Q E s := by
  have sz : (s.heap.push ob).objs.size = s.heap.objs.size + 1 := Heap.size_push ..
  have made := Heap.get?_push_size (s.heap.push ob) (o := ⟨.type "enumerate", none, .fields #[.none, .bool false, .ref s.heap.objs.size, rawInt 0, .none, .none], #[]⟩) rfl
  rw [sz] at made
  have fin := h ((s.heap.push ob).push ⟨.type "enumerate", none, .fields #[.none, .bool false, .ref s.heap.objs.size, rawInt 0, .none, .none], #[]⟩) made
    (Heap.get?_push_of_some _ (Heap.get?_push_size _ B.free)) (by rw [Heap.size_push, sz]) fun b u z => Heap.get?_push_of_some _ (Heap.get?_push_of_some _ z)
  refine callType_new F.called_enumerate (by decide) (F.typeCall_enumerate_1 v) (F.newCall_enumerate_1 v) (fun obj => F.args_object_init_2 obj v) F.entry_enumerate_new (enum_one B) ⟨hv1, ?_⟩
  show (_ ∧ _)
  rw [sz]
  exact ⟨⟨_, made, rfl⟩, fin⟩
end
/-- the tuple at a, each item in a new pair with its place -/
def Iet (K : PySem.W.Frag) (a : Addr) : It :=
  ⟨fun i H => ∃ (xs : List V) (x : V), SqT K H a xs ∧ xs[i]? = some x, fun i H v H' => ∃ q x, v = .ref q ∧ H q = none ∧ H' = upd H q (.tup [.int (i : Nat), x]) ∧ ∀ xs, SqT K H a xs → xs[i]? = some x, fun i H => ∃ xs : List V, SqT K H a xs ∧ xs.length = i⟩
theorem turn_enumT {P : Program} {w : World} {K : PySem.W.Frag} {elts : List Expr} {kk : Nat} {tpos : Pos} (a e it : Addr) :
    _root_.L2.Turn P w K (.Tuple elts kk tpos) (Iet K a) [e, it] e (fun i h => (∃ old, IsEnum h e it ((i : Nat) : Int) old) ∧ h.IsTupleIter it a i ∧ e ≠ it) where
  mem := List.mem_cons_self
  obj := fun i h st b hb => by
    obtain ⟨⟨old, he⟩, ⟨o, ho, hc, hd⟩, _⟩ := st
    rcases List.mem_cons.mp hb with z | z
    · subst z
      exact ⟨_, he, fun v q => nomatch q⟩
    · exact ⟨o, List.mem_singleton.mp z ▸ ho, fun v q => by rw [hd] at q; cases q⟩
  keep := fun i h h2 st k => by
    obtain ⟨⟨old, he⟩, hi, hne⟩ := st
    exact ⟨⟨old, k e (by simp) _ he⟩, hi.at fun o q => k it (by simp) o q, hne⟩
  item := by
    intro X hP hw hK hc i pins s σ H E I hf st hg
    subst hP hw hK
    obtain ⟨⟨old, he⟩, hit, hne⟩ := st
    obtain ⟨xs, x, hq, hx⟩ := hg
    obtain ⟨its, rv, p, hz⟩ := I.tuple hq
    obtain ⟨u, hu, ru⟩ := rv.get hx
    have hel : e < s.heap.objs.size := Heap.lt_size he
    have hil : it < s.heap.objs.size := by obtain ⟨_, q, _⟩ := hit; exact Heap.lt_size q
    have p' : s.heap.IsTuple a its.toArray := p
    have a_it : a ≠ it := fun q => by
      subst q
      obtain ⟨o, h1, h2, _⟩ := p'
      obtain ⟨o', h1', h2', _⟩ := hit
      rw [h1] at h1'
      cases h1'
      rw [h2] at h2'
      exact absurd (Value.type.inj h2') (by decide)
    have a_e : e ≠ a := fun q => by
      subst q
      obtain ⟨o, h1, h2, _⟩ := p'
      rw [he] at h1
      cases h1
      have h2 : Value.type "enumerate" = Value.type "tuple" := h2
      exact absurd (Value.type.inj h2) (by decide)
    have D := Draws.tuple (prog := X.prog) (w := X.w) (A := X.A.in1) (I.ok.hd hc) it a a_it its.toArray
    have hi : i < its.toArray.size := by
      have := (List.getElem?_eq_some_iff.mp hu).1
      simpa using this
    refine wpAny_pyNext_enum_itemD D he ⟨hit, p'⟩ hi hne (by simp [hne, a_e]) fun y h1 tk hy ho hst hT hsz hk => ?_
    have hy : y = u := by
      have : its.toArray[i]? = some u := by simpa using hu
      rw [this] at hy
      exact (Option.some.inj hy).symm
    subst hy
    refine ⟨_, rfl, wpAny_letOwnedTupleGo_enum (s := { s with heap := h1, toks := tk + 1 }) ho fun h2 he2 sb => ?_⟩
    have hT2 : h2.get? s.heap.objs.size = some { cls := .type "tuple", data := .seq #[.int i tk, y] } := (sb.2 _ (Nat.ne_of_gt hel)).trans hT
    have nw : ObjOk X.prog X.w (upd H s.heap.objs.size (.tup [.int (i : Nat), x])) h2 s.heap.objs.size (.tup [.int (i : Nat), x]) :=
      ⟨by show 2 ≤ sizeLine; decide, [.int i tk, y], .cons ⟨_, rfl⟩ (.cons ru .nil), ⟨_, hT2, rfl, _, rfl⟩⟩
    have I1 : Inv X pins σ (upd H s.heap.objs.size (.tup [.int (i : Nat), x])) { s with heap := h2, toks := tk + 1 } :=
      I.turnedNew (ch := [e, it]) (fun b ob hb q => (sb.2 b (fun z => hb (by simp [z]))).trans (hk b ob (fun z => hb (by simp [z])) (fun z => hb (by simp [z])) q)) hf (Nat.le_refl _) nw
    refine ⟨.ref s.heap.objs.size, _, I1, rfl, ⟨_, x, rfl, I.hok.fresh (Nat.le_refl _), rfl, fun ys hy => by rw [I.tuple_inj hy hq]; exact hx⟩, ⟨⟨y, ?_⟩, hst.1.at fun o q => (sb.2 it (Ne.symm hne)).trans q, hne⟩, fun b hb => ?_⟩
    · have e1 : ((i + 1 : Nat) : Int) = (i : Int) + 1 := by omega
      rw [e1]
      exact he2
    · have hb2 : b < s.heap.objs.size := (List.mem_cons.mp hb).elim (fun z => z ▸ hel) fun z => List.mem_singleton.mp z ▸ hil
      rw [upd_ne (Nat.ne_of_lt hb2)]
      exact (hf b hb).1
  done := by
    intro X hP hw hK hc i pins s σ H E I hf st hg
    subst hP hw hK
    obtain ⟨⟨old, he⟩, hit, hne⟩ := st
    obtain ⟨xs, hq, hx⟩ := hg
    obtain ⟨its, rv, p, hz⟩ := I.tuple hq
    have p' : s.heap.IsTuple a its.toArray := p
    have a_it : a ≠ it := fun q => by
      subst q
      obtain ⟨o, h1, h2, _⟩ := p'
      obtain ⟨o', h1', h2', _⟩ := hit
      rw [h1] at h1'
      cases h1'
      rw [h2] at h2'
      exact absurd (Value.type.inj h2') (by decide)
    have D := Draws.tuple (prog := X.prog) (w := X.w) (A := X.A.in1) (I.ok.hd hc) it a a_it its.toArray
    have hi : its.toArray.size = i := by
      have := rv.length
      rw [List.size_toArray]
      omega
    obtain ⟨f0, f1, f2, f3, f4, f5⟩ := hf it (by simp)
    exact wpAny_pyNext_enum_endD D he (by rw [hi]; exact ⟨hit, p'⟩) fun h2 eb => ⟨rfl, I.turned (t' := s.toks) (fun b o hb q => eb b o hb q) f0 f1 f3 f4 f5⟩
  self := fun A i s Q E st h => by
    obtain ⟨⟨_, he⟩, _⟩ := st
    exact wpAny_pyIter_enum he h
def iEnumT (K : PySem.W.Frag) (ta : TA) : TI := fun σ H R => ta σ H fun vs H1 => ∃ a xs, vs = [.ref a] ∧ SqT K H1 a xs ∧ R (Iet K a) H1
theorem pi_enumT {X : Cx} {e : Expr} {ta : TA} {p pos tpos : Pos} {elts : List Expr} {kk : Nat} (hg : Gl X "enumerate") (hm : X.mg "enumerate" = none) (ha : PA X [e] ta) (hs : starEach [e] X.env = [(false, eval e X.env)] := by rfl) :
    PI X (.Tuple elts kk tpos) (.Call (.Name "enumerate" p) [e] [] pos) (iEnumT X.K ta) := by
  refine ⟨fun pins s σ H R I hyp => ?_⟩
  refine Call_ (ld_blt I hg hm boot_enumerate (PyProof.Rows.callWith_type1 (thn (ha.run pos pins s σ H _ I hyp) fun us s1 ⟨vs, H1, I1, r1, q1⟩ => ?_) hs rfl))
  obtain ⟨a, xs, ex, hq, q⟩ := q1
  subst ex
  rcases r1 with _ | ⟨r, _ | _⟩
  cases r
  obtain ⟨its, rv, p', hz⟩ := I1.tuple hq
  refine enum_two (begins_tuple a its.toArray) p' fun h2 he hit hsz hk => wpAny_pyIter_enum he ?_
  have I2 : Inv X pins σ H1 { s1 with heap := h2 } := I1.kept (t' := s1.toks) hk
  refine ⟨s1.heap.objs.size + 1, [s1.heap.objs.size + 1, s1.heap.objs.size], _, _, H1, rfl, I2, turn_enumT a _ _, ⟨⟨.none, he⟩, ⟨_, hit, rfl, rfl⟩, Nat.succ_ne_self _⟩, fun b hb => ?_, q⟩
  have hle : s1.heap.objs.size ≤ b := (List.mem_cons.mp hb).elim (fun z => z ▸ Nat.le_add_right _ _) fun z => List.mem_singleton.mp z ▸ Nat.le_refl _
  exact I1.fpOk hle (I1.hok.fresh hle)
theorem for_enumD {K : PySem.W.Frag} {v : V} {ds : List PyData} {g : TG} {tb : TS} {D : Ends} {σ : L2.St} {H : Hp} (Pv : Nat → L2.St → Hp → Prop) (hx : Rp K H v (.tuple ds)) (h0 : Pv 0 σ H) (ht : ∀ i σ' H', Pv i σ' H' → Tle K H H')
    (hs : ∀ i x d σ' H' q, ds[i]? = some d → Rp K H' x d → H' q = none → Pv i σ' H' → g (.ref q) σ' (upd H' q (.tup [.int (i : Nat), x])) fun σ2 H2 => tb { D with nx := Pv (i + 1), ct := Pv (i + 1), bk := D.nx } σ2 H2) (hd : ∀ σ' H', Pv ds.length σ' H' → D.nx σ' H') :
    ∃ a xs, [v] = [V.ref a] ∧ SqT K H a xs ∧ ∃ W : Nat → Nat → L2.St → Hp → Prop, (∃ m, W 0 m σ H) ∧ ∀ i m σ H, W i m σ H →
      ((Iet K a).stop i H ∧ D.nx σ H) ∨ ((Iet K a).go i H ∧ ∃ N : L2.St → Hp → Prop, (∀ σ' H', N σ' H' → ∃ m', m' < m ∧ W (i + 1) m' σ' H') ∧ ∀ x H', (Iet K a).yld i H x H' → g x σ H' fun σ2 H2 => tb { D with nx := N, ct := N, bk := D.nx } σ2 H2) := by
  obtain ⟨a, xs, rfl, hq, ha⟩ := hx.toTup
  refine ⟨a, xs, rfl, hq, fun i m σ H' => m = ds.length - i ∧ i ≤ ds.length ∧ Pv i σ H', ⟨_, rfl, Nat.zero_le _, h0⟩, ?_⟩
  rintro i m σ H1 ⟨rfl, hi, pv⟩
  have tl := ht i σ H1 pv
  have hq1 := tl a xs hq
  by_cases lt : i < ds.length
  · obtain ⟨x, hxi, rx⟩ := (ha.tle tl).get (List.getElem?_eq_getElem lt)
    refine .inr ⟨⟨xs, x, hq1, hxi⟩, Pv (i + 1), fun σ' H' p' => ⟨ds.length - (i + 1), by omega, rfl, lt, p'⟩, ?_⟩
    rintro y H' ⟨q, x', rfl, hn, rfl, hxs⟩
    have e : x' = x := by
      have := hxs xs hq1
      rw [hxi] at this
      exact (Option.some.inj this).symm
    subst e
    exact hs i x' _ σ H1 q (List.getElem?_eq_getElem lt) rx hn pv
  · have e : i = ds.length := by omega
    subst e
    exact .inl ⟨⟨xs, hq1, ha.length⟩, hd σ H1 pv⟩
end Ev

-- part EvW15
set_option maxHeartbeats 400000
set_option Elab.async false
set_option linter.all false
set_option maxRecDepth 100000
set_option maxHeartbeats 4000000
/-! The walks: run. -/
namespace Ev
open PySem L2
section
variable {P : Program} {w : World} {K : PySem.W.Frag} {mg : Str → Option Value} {base : Heap} {C : Addr}
/-- run: 0 program, 1 schedule, 2 state, 3 steps, 4 at, 5 thread, 6 step -/
abbrev s_run : Stmt := top 76
theorem sc_run : FnScope ["program", "schedule", "state", "steps", "at", "thread", "step"] ["program", "schedule"] (defScope s_run) := ⟨rfl, rfl, rfl, by decide +kernel, rfl, by decide +kernel, by decide +kernel⟩
def pRun (ds : List D) (d : D) : Prop := ∃ p S, ds = [eProg p, eSch S] ∧ p.length < 1000 ∧ POk p ∧ okS p (first p) S ∧ S.length < 64 ∧ d = .tuple [eSt (goAll p (first p) S), eRow (stepsOf p (first p) S)]
theorem ok_run (T : Txt w K mg C) : Cal P w K mg base 10 "run" ["program", "schedule"] (spR K pRun) := by
  refine T.d_run.ok sc_run (fun vs H Q E h => ?_) (fun f cdv A outer s H vs Q E hr h => ?_)
  · obtain ⟨_, _, hd, ⟨_, _, rfl, _⟩, _⟩ := h
    exact hd.length
  · obtain ⟨ds, d, hd, ⟨p, S, rfl, hp, po, ho, hS, rfl⟩, k⟩ := h
    rcases hd with _ | ⟨g1, _ | ⟨g2, _ | _⟩⟩
    rename_i v1 v2
    refine ⟨_, (pss_cons (ps_set (i := 2) sc_run.nd rfl (Or.inl rfl) (pe_own (ok_first_state T) (hr.mono (by decide)) rfl (pa_cons (pv 0) pa_nil)))
        (pss_cons (ps_set (i := 3) sc_run.nd rfl (Or.inl rfl) (pe_lst pa_nil))
        (pss_cons (ps_for PassesOwn.never rfl (pi_enumT rfl T.enumerate (pa_cons (pv 1) pa_nil)) (pg_tup rfl (pgs_cons (pg_name (i := 4) sc_run.nd rfl (Or.inl rfl)) (pgs_cons (pg_name (i := 5) sc_run.nd rfl (Or.inl rfl)) pgs_nil)))
          (pss_cons (ps_if (pt_cmpR op_notIn_seq (pv 5) (pe_own (ok_enabled T) (hr.mono (by decide)) rfl (pa_cons (pv 0) (pa_cons (pv 2) pa_nil))) (by rfl))
            (pss_one ps_never)
            pss_nil)
          (pss_cons (ps_asg (pe_own (ok_make_step T) (hr.mono (by decide)) rfl (pa_cons (pv 0) (pa_cons (pv 2) (pa_cons (pv 5) pa_nil)))) (pg_tup rfl (pgs_cons (pg_name (i := 2) sc_run.nd rfl (Or.inl rfl)) (pgs_cons (pg_name (i := 6) sc_run.nd rfl (Or.inl rfl)) pgs_nil))))
          (pss_one (ps_expr (pe_bm PySem.F.plainAttrs_list PySem.F.slot_list_append PySem.F.type_list_append mt_append (pv 3) (pa_cons (pv 6) pa_nil)))))))
        (pss_one (ps_ret (pe_tupN (pa_cons (pv 2) (pa_cons (pe_callTy call_tuple_N (by rfl) T.tuple (by decide +kernel) (pa_cons (pv 3) pa_nil)) pa_nil)))))))), ?_⟩
    refine ⟨_, rfl, _, _, .cons g1 .nil, ⟨p, rfl, hp, rfl⟩, fun H1 vst s1 hst => ?_⟩
    refine ⟨Nat.zero_le _, fun l hl => ?_⟩
    have hl0 := s1.free hl
    have s2 := s1.new hl (o := .lst [])
    have hst := hst.tle (Tle.new hl (o := .lst []))
    have hx0 : upd H1 l (.lst []) l = some (.lst []) := upd_same
    generalize upd H1 l (.lst []) = H2 at s2 hst hx0
    refine ⟨_, rfl, ?_⟩
    refine for_enumD (fun m σ H' => Same H H' ∧ Tle K H2 H' ∧ ∃ vst xs a b c, σ = [some v1, some v2, some vst, some (.ref l), a, b, c] ∧ Rp K H' vst (eSt (goAll p (first p) (S.take m))) ∧ H' l = some (.lst xs) ∧ xs.length ≤ m ∧ RpAll K H' xs ((stepsOf p (first p) (S.take m)).map eSp)) (g2.sm s2)
      ⟨s2, Tle.refl, vst, [], none, none, none, rfl, hst, hx0, Nat.le_refl _, .nil⟩ (fun m σ H' q => q.2.1) ?_ ?_
    · rintro m x dd σ H3 q em rx hq ⟨s3, tl, vst, xs, a, b, c, rfl, hst, hx, hxl, ra⟩
      rw [List.getElem?_map] at em
      obtain ⟨t, ht, rfl⟩ := Option.map_eq_some_iff.mp em
      cases rx.toInt
      obtain ⟨ho1, hen⟩ := okS_at ho ht
      have wf := wf_goAll po (wf_first po) ho1
      have htk := take_snoc ht
      have hm : m < S.length := (List.getElem?_eq_some_iff.mp ht).1
      generalize hs : goAll p (first p) (S.take m) = st at hst hen wf
      have hgo : goAll p (first p) (S.take (m + 1)) = nxt p st t := by rw [htk, goAll_app, hs]; rfl
      have hsp : stepsOf p (first p) (S.take (m + 1)) = stepsOf p (first p) (S.take m) ++ [stp p st t] := by rw [htk, stepsOf_app, hs]; rfl
      have s4 := s3.new hq (o := .tup [.int (m : Nat), .int (t : Int)])
      have sq := Same.new0 hq (o := .tup [.int (m : Nat), .int (t : Int)])
      have hx4 := sq _ _ hx
      have hst4 := hst.sm sq
      have ra4 := ra.sm sq
      have tl4 := tl.trans (Tle.same sq)
      refine ⟨q, _, rfl, SqT.of upd_same, rfl, _, _, rfl, _, _, rfl, rfl, ?_⟩
      generalize upd H3 q (.tup [.int (m : Nat), .int (t : Int)]) = H4 at s4 hx4 hst4 ra4 tl4
      refine ⟨_, rfl, _, rfl, _, rfl, ?_⟩
      refine ⟨_, _, .cons (g1.sm s4) (.cons hst4 .nil), ⟨p, st, rfl, hp, wf, rfl⟩, fun H5 v5 s5 hv5 => ?_⟩
      obtain ⟨a5, ys, rfl, hT, hys⟩ := hv5.toTup
      cases hys.nats
      refine ⟨a5, _, rfl, .inr hT, rfl, flat_ints _, _, rfl, ?_⟩
      rw [if_pos rfl, in_ints, decide_eq_true ((en_mem wf).mpr hen)]
      refine iteF ?_
      have s45 := s4.trans s5
      refine ⟨_, rfl, _, rfl, _, rfl, ?_⟩
      refine ⟨_, _, .cons (g1.sm s45) (.cons (hst4.sm s5) (.cons (.int _) .nil)), ⟨p, st, t, rfl, hp, wf, hen, rfl⟩, fun H6 v6 s6 hv6 => ?_⟩
      refine gtup_D hv6 rfl fun zs hzs => ?_
      rcases hzs with _ | ⟨z1, _ | ⟨z2, _ | _⟩⟩
      refine ⟨_, _, rfl, _, _, rfl, rfl, ?_⟩
      have s56 := s5.trans s6
      have hx6 := s56 _ _ hx4
      refine ⟨_, rfl, .inl ⟨rfl, _, SqL.of hx6⟩, _, rfl, l, xs, _, rfl, rfl, hx6, sizeLine_small (by omega), ?_⟩
      refine ⟨(s4.trans s56).wr hl0, (tl4.trans (Tle.same s56)).trans (Tle.lst hx6), _, _, _, _, _, rfl, by rw [hgo]; exact z1.tle (Tle.lst hx6), upd_same, by rw [List.length_append]; show xs.length + 1 ≤ _; omega, ?_⟩
      rw [hsp, List.map_append]
      exact ((ra4.sm s56).snoc z2).tle (Tle.lst hx6)
    · rintro σ H3 ⟨s3, tl, vst, xs, a, b, c, rfl, hst, hx, hxl, ra⟩
      rw [List.length_map, List.take_length] at hst ra
      refine ⟨_, rfl, _, rfl, l, xs, _, rfl, SqL.of hx, ra, fun v4 H4 s4 hv4 => ?_⟩
      exact ⟨_, .cons (hst.sm s4) (.cons hv4 .nil), by show 2 < 1000; decide, fun v5 H5 s5 hv5 => k _ _ ((s3.trans s4).trans s5) hv5⟩
end
end Ev

-- part EvS
set_option maxHeartbeats 400000
set_option Elab.async false
set_option linter.all false
set_option maxRecDepth 100000
set_option maxHeartbeats 1000000
/-! Sorting of tuples that are compared only as far as they agree: the library asks that all places be alike; here the first place decides, and only where it is equal the rest is asked. -/
namespace Ev
open PySem PySem.W PySem.SeqAt PySem.Calls PyProof.Rows
/-- two tuples of which the firsts can be compared, and the rests too if the firsts are equal -/
def near (d e : PyData) : Prop := ∃ x r y t, d = .tuple (x :: r) ∧ e = .tuple (y :: t) ∧ alike x y = true ∧ (PyData.eqv x y = true → alikeAll r t = true)
def Near (ds : List PyData) : Prop := ∀ d ∈ ds, ∀ e ∈ ds, near d e
theorem near_self {d : PyData} (h : near d d) : alike d d = true := by
  obtain ⟨x, r, y, t, rfl, e2, h1, h2⟩ := h
  obtain ⟨rfl, rfl⟩ := List.cons.inj (PyData.tuple.inj e2)
  have q := h2 (eqv_refl_alike x h1)
  show alikeAll (x :: r) (x :: r) = true
  show (alike x x && alikeAll r r) = true
  rw [h1, q]
  rfl
theorem near_uniq {h : Heap} {d e : PyData} {v : Value} {as bs : List Addr} (n : near d e) (r1 : Reads h v d as) (r2 : Reads h v e bs) : d = e := by
  obtain ⟨x, r, y, t, rfl, rfl, h1, h2⟩ := n
  cases r1 with
  | tuple a1 a2 a3 a4 =>
    cases r2 with
    | tuple b1 b2 b3 b4 =>
      rw [a1] at b1
      cases b1
      rw [a3] at b3
      cases b3
      generalize Array.toList _ = its at a4 b4
      cases a4 with
      | cons p1 p2 =>
        cases b4 with
        | cons q1 q2 =>
          have e1 := alike_unique x y _ _ _ h1 p1 q1
          subst e1
          rw [alikeAll_unique r t _ _ _ (h2 (eqv_refl_alike x h1)) p2 q2]
theorem near_key {h : Heap} {ds : List PyData} (N : Near ds) {v : Value} {d : PyData} {as : List Addr} (hd : d ∈ ds) (r : Reads h v d as) : (dataKind h ds).keyOf v = some (keyToks d) := by
  have ex : ∃ e, e ∈ ds ∧ ∃ bs, Reads h v e bs := ⟨d, hd, as, r⟩
  show (open Classical in if q : ∃ e, e ∈ ds ∧ ∃ bs, Reads h v e bs then some (keyToks q.choose) else none) = _
  rw [dif_pos ex]
  obtain ⟨m, bs, r2⟩ := ex.choose_spec
  rw [near_uniq (N _ m d hd) r2 r]
section
variable {prog : Program} {w : World} {A : Around} {s : Shared}
theorem sorts_near {vs : List Value} {ds : List PyData} (e : EachIs (fun v d => ∃ as, Reads s.heap v d as) vs ds) (N : Near ds) (hu : ∀ d ∈ ds, A.units + d.depth < cLine) : SortsAt prog w A s (dataKind s.heap ds) vs := by
  refine ⟨fun v hv => ?_, ?_⟩
  · obtain ⟨d, hd, as, r⟩ := e.left v hv
    exact ⟨_, near_key N hd r⟩
  cases ds with
  | nil =>
    cases e
    refine ⟨general', ?_, fun h2 => absurd h2 (by simp)⟩
    intro E x y a b Q ha _ _
    obtain ⟨d, _, hd, _⟩ := dataKind_inv ha
    exact nomatch hd
  | cons d0 tl =>
    obtain ⟨x0, r0, _, _, e0, _, _, _⟩ := N d0 List.mem_cons_self d0 List.mem_cons_self
    have heads : ∀ x r, PyData.tuple (x :: r) ∈ d0 :: tl → alike x x0 = true := fun x r hm => by
      obtain ⟨x1, r1, y1, t1, q1, q2, q3, _⟩ := N _ hm d0 List.mem_cons_self
      rw [e0] at q2
      obtain ⟨rfl, rfl⟩ := List.cons.inj (PyData.tuple.inj q1)
      obtain ⟨rfl, rfl⟩ := List.cons.inj (PyData.tuple.inj q2)
      exact q3
    have tup : ∀ d, d ∈ d0 :: tl → ∃ x r, d = .tuple (x :: r) := fun d hd => by
      obtain ⟨x1, r1, _, _, q1, _⟩ := N d hd d hd
      exact ⟨x1, r1, q1⟩
    refine ⟨tuples' (dataType x0 != Value.type "tuple"), ?_, fun h2 E Q hq => ?_⟩
    · intro E x y a b Q ha hb hq
      obtain ⟨d, as, hd, ra, rfl⟩ := dataKind_inv ha
      obtain ⟨d2, bs, hd2, rb, rfl⟩ := dataKind_inv hb
      have room := hu d hd
      obtain ⟨z, r, z2, r2, rfl, rfl, al, alr⟩ := N d hd d2 hd2
      have hq2 : Q (dataLt (.tuple (z :: r)) (.tuple (z2 :: r2))) s := hq
      rw [dataLt_tuple] at hq2
      cases ra with
      | @tuple l o xs n _ _ a1 a2 a3 a4 =>
        cases rb with
        | @tuple l2 o2 xs2 n2 _ _ b1 b2 b3 b4 =>
          have c1 : xs.size = (z :: r).length := by simpa using SeqAt.ReadsAll.length _ _ _ a4
          have c2 : xs2.size = (z2 :: r2).length := by simpa using SeqAt.ReadsAll.length _ _ _ b4
          refine kat_lt a1 a3 b1 b3 ?_
          generalize xs.toList = its at a4
          generalize xs2.toList = its2 at b4
          cases a4 with
          | cons p1 p2 =>
            cases b4 with
            | cons q1 q2 =>
              have hroom : A.units + min (PyData.depthAll (z :: r) + 1) (PyData.depthAll (z2 :: r2) + 1) < cLine := Nat.lt_of_le_of_lt (Nat.add_le_add_left (Nat.min_le_left _ _) _) room
              have hin := SeqAt.room_in hroom
              have hin2 : A.units + min (max z.depth (PyData.depthAll r)) (max z2.depth (PyData.depthAll r2)) < cLine := by
                have : A.units + 1 + min (max z.depth (PyData.depthAll r)) (max z2.depth (PyData.depthAll r2)) < cLine := hin
                omega
              refine kat_cons (eqAt_alike z z2 A s _ _ _ _ p1 q1 al (SeqAt.room_head hin2) prog w _ _ ?_)
              cases hz : PyData.eqv z z2 with
              | true =>
                rw [dataLt_all_yes al hz] at hq2
                refine kat_yes (katLex_alike r r2 1 _ _ _ _ p2 q2 (alr hz) (SeqAt.room_tail hin2) (fun _ h1 => nomatch h1) ?_ hq2)
                rw [c1, c2, List.length_cons, List.length_cons]
                exact decide_eq_decide.mpr (by omega)
              | false =>
                rw [dataLt_all_no al hz] at hq2
                refine kat_no (oneLt_alike (fun hb t => ?_) p1 q1 al (ne_none_of al hz) (SeqAt.room_head hin2) hq2)
                rintro rfl
                rw [Bool.and_eq_true] at hb
                have q := dataType_alike (heads _ _ hd)
                have hb1 := hb.1
                rw [← q] at hb1
                exact dataType_tuple hb1 t rfl
    · obtain ⟨fs, t1, t2, t3⟩ := each_katTups e tup
      refine kat_kind (T := dataType x0) t1 (by omega) (fun f hf => ?_) (beq_self_eq_true _) hq
      obtain ⟨x, r, as, m1, m2⟩ := t3 f hf
      have := looks_reads (M := model prog w) m2
      rw [dataType_alike (heads x r m1)] at this
      exact this

/-- what can be sorted -/
def Sb (ds : List PyData) : Prop := Near ds ∨ AllAlike ds ∧ Sortable ds
theorem near_keys {h : Heap} {ds : List PyData} (N : Near ds) {vs : List Value} (e : EachIs (fun v d => ∃ as, Reads h v d as) vs ds) : EachIs (fun v d => (dataKind h ds).keyOf v = some (keyToks d)) vs ds :=
  (each_mem e).mono fun _ _ ⟨⟨_, r⟩, hd⟩ => near_key N hd r
theorem sb_keys {h : Heap} {ds : List PyData} (N : Sb ds) {vs : List Value} (e : EachIs (fun v d => ∃ as, Reads h v d as) vs ds) : EachIs (fun v d => (dataKind h ds).keyOf v = some (keyToks d)) vs ds :=
  N.elim (fun n => near_keys n e) fun n => each_keys n.1 e
theorem sorts_sb {vs : List Value} {ds : List PyData} (e : EachIs (fun v d => ∃ as, Reads s.heap v d as) vs ds) (N : Sb ds) (hu : ∀ d ∈ ds, A.units + d.depth < cLine) : SortsAt prog w A s (dataKind s.heap ds) vs :=
  N.elim (fun n => sorts_near e n hu) fun n => SortsAt.data e n.1 n.2 hu
def dle (d e : PyData) : Bool := !dataLt e d
theorem sorted_sb {E : Value → Shared → Prop} {l : Addr} {vs : List Value} {ds : List PyData} {Q : Value → Shared → Prop} (hl : s.heap.IsList l vs.toArray) (e : EachIs (fun v d => ∃ as, Reads s.heap v d as) vs ds) (N : ds.length < 2 ∨ Sb ds) (hL : ds.length ≤ sizeLine)
    (hu : ∀ d ∈ ds, A.units + 2 + d.depth < cLine)
    (h : ∀ out, (∀ R : Value → PyData → Prop, EachIs R vs ds → EachIs R out (ds.mergeSort dle)) → Q (.ref (s.heap.objs.size + 1)) { s with heap := sortedAll s.heap vs (List.toArray out) }) :
    wpAny (model prog w) A (call (.builtin "sorted") [.ref l]) Q E s := by
  rcases N with short | N
  · refine SrtO.sorted_ord (ltv := fun _ _ => false) ⟨fun _ _ q => (nomatch q), fun _ _ _ _ _ => rfl⟩ hl (by rw [e.length]; exact hL) (fun h2 => absurd h2 (by rw [e.length]; omega)) fun out _ st => h out fun R hR => ?_
    have hp := st.perm
    cases hR with
    | nil =>
      rw [List.Perm.eq_nil hp]
      rw [List.mergeSort_nil]
      exact .nil
    | cons r t =>
      cases t with
      | nil =>
        rw [List.perm_singleton.mp hp, List.mergeSort_singleton]
        exact .cons r .nil
      | cons r2 t2 => exact absurd short (by simp only [List.length_cons]; omega)
  · have big := e.mono fun _ _ ⟨as, r⟩ => (⟨as, PyProof.Rows.Reads.keeps (fun _ _ => sorting_copy_old (vs := vs)) r⟩ : ∃ as, Reads (sortingHeap (copyHeap s.heap vs) (s.heap.objs.size + 1) vs) _ _ as)
    refine sorted_vals hl (sorts_sb (s := { s with heap := sortingHeap (copyHeap s.heap vs) (s.heap.objs.size + 1) vs }) big N fun d hd => ?_) (by rw [e.length]; exact hL) (h _ fun R hR => ?_)
    · have := hu d hd
      exact this
    · exact sortVals_each (κ := dataKind (sortingHeap (copyHeap s.heap vs) (s.heap.objs.size + 1) vs) ds) (rev := false) (fun b => keyToks b) hR (sb_keys N big)
end
open L2
section
variable {K : PySem.W.Frag} {H : Hp}
theorem each_rp : ∀ {ds : List PyData} {vs : List V} {us : List Value}, RpAll K H vs ds → Vals vs us → EachIs (fun u d => ∃ v, RelV v u ∧ Rp K H v d) us ds
  | _, _, _, .nil, .nil => .nil
  | _, _, _, .cons r t, .cons q t2 => .cons ⟨_, q, r⟩ (each_rp t t2)
theorem rp_each : ∀ {ds : List PyData} {us : List Value}, EachIs (fun u d => ∃ v, RelV v u ∧ Rp K H v d) us ds → ∃ vs, Vals vs us ∧ RpAll K H vs ds
  | _, _, .nil => ⟨[], .nil, .nil⟩
  | _, _, .cons ⟨v, q, r⟩ t => by
    obtain ⟨vs, q2, r2⟩ := rp_each t
    exact ⟨v :: vs, .cons q q2, .cons r r2⟩
theorem each_reads {h : Heap} : ∀ {ds : List PyData} {us : List Value} {as : List Addr}, ReadsAll h us ds as → EachIs (fun u d => ∃ as, Reads h u d as) us ds
  | [], _, _, r => by cases r; exact .nil
  | d :: ds, _, _, r => by
    cases r with
    | cons r1 r2 => exact .cons ⟨_, r1⟩ (each_reads r2)
end
def rSortD (K : PySem.W.Frag) : List V → Hp → VK → Prop := fun xs H Q => ∃ (l : Addr) (vs : List V) (ds : List PyData), xs = [.ref l] ∧ SqL K H l vs ∧ RpAll K H vs ds ∧ (ds.length < 2 ∨ Sb ds) ∧ (∀ d ∈ ds, d.depth ≤ 40) ∧
  ∀ q ys H', H q = none → Same H H' → H' q = some (.lst ys) → RpAll K H' ys (ds.mergeSort dle) → Q (.ref q) H'
theorem call_sortD {X : Cx} (hu : X.A.units + 64 < cLine) : CallR X (.builtin "sorted") (rSortD X.K) := by
  intro pins s σ H xs us Q I r hyp
  obtain ⟨l, vs, ds, rfl, hq, ra, hs, hd, q⟩ := hyp
  obtain ⟨u, rfl, ru⟩ := vals1 r
  obtain rfl : u = Value.ref l := ru
  obtain ⟨its, rv, hl, hz⟩ := I.list hq
  obtain ⟨as, rr⟩ := Dp.readsAll I ds vs its (RpAll.dp ds vs ra) rv
  have hlen : its.length = ds.length := rv.length.symm.trans ra.length
  refine sorted_sb hl.isList (each_reads rr) hs (by rw [← ra.length]; exact hz) (fun d m => by have := hd d m; omega) fun out ho => ?_
  obtain ⟨ys, vy, ry⟩ := rp_each (ho _ (each_rp ra rv))
  obtain ⟨c, hc⟩ := sortedAll_at s.heap its (List.toArray out)
  have hfr : H (s.heap.objs.size + 1) = none := I.hok.fresh (Nat.le_succ _)
  have ly : ys.length = vs.length := by
    rw [ry.length, List.length_mergeSort, ra.length]
  refine ⟨.ref (s.heap.objs.size + 1), upd H (s.heap.objs.size + 1) (.lst ys), I.laid (t' := s.toks) (fun _ _ => sortedAll_old) (Nat.le_succ _) ⟨?_, out, c, vy, hc⟩, rfl, q _ ys _ hfr (Same.new0 hfr) upd_same (ry.tle (Tle.new hfr))⟩
  rw [ly]
  exact hz

/-! ### with a key -/
section
variable {prog : Program} {w : World} {A : Around} {s : Shared} {E : Value → Shared → Prop} {a kl : Addr} {b : Bool} {vs : List Value} {kz : List PyData} {f : Value} {Qf : PySem.Fin → Shared → Prop} {ep : Nat} {h0 : Heap}
/-- what the sorted list holds, told by the keys -/
def KOut (kz : List PyData) (vs out : List Value) : Prop := ∀ (β : Type) (R : Value → β → Prop) (k : β → PyData) (bs : List β), bs.map k = kz → EachIs R vs bs → EachIs R out (bs.mergeSort (dataLe false k))
theorem near_rest {J : Nat → Array Value → Nat → Shared → Prop} (ne : kl ≠ a) (hZ : vs.length ≤ sizeLine) (hn : kz.length = vs.length) (N : Near kz) (room : ∀ d ∈ kz, A.units + d.depth < cLine)
    (J0 : J 0 #[] 0 s)
    (told : ∀ i ks c st, J i ks c st → st.heap.get? kl = some (seqObj "list" ks c) ∧ st.heap.get? a = some (seqObj "list" #[] ep) ∧ ks.size = i)
    (turn : ∀ i v ks c st, vs[i]? = some v → J i ks c st → wpAny (model prog w) A (call f [v]) (fun u st2 => st2.heap.get? kl = some (seqObj "list" ks c) ∧ ∀ c2, (st2.heap.update kl (Obj.mapSeq (·.push u))).get? kl = some (seqObj "list" (ks.push u) c2) → J (i + 1) (ks.push u) c2 { st2 with heap := st2.heap.update kl (Obj.mapSeq (·.push u)) }) (fun _ _ => False) st)
    (last : ∀ ks c st, J vs.length ks c st → ∃ h1, KeepsBut a h1 st.heap ∧ h1.get? kl = none ∧ EachIs (fun v d => ∃ as, Reads st.heap v d as) ks.toList kz ∧
      ∀ h3 tk3 out c3, KeepsBut a h1 h3 → h3.get? a = some (seqObj "list" (List.toArray out) c3) → KOut kz vs out → Qf (.done (.ret .none)) { st with heap := h3, toks := tk3 }) :
    wpAny (model prog w) A (ksk_rest a f false vs.toArray ep (.ref kl)) Qf E s := by
  unfold ksk_rest
  refine wpAny_bind (wpAny_rule ?_)
  first
    | rw [List.forIn_toArray]
    | (rw [← Array.forIn_toList]; simp only [List.toList_toArray])
    | rw [← Array.forIn_toList]
  refine wpAny_bind (ksk_fold (fun i st => ∃ ks c, J i ks c st) vs 0 s ⟨#[], 0, J0⟩ ?each ?last)
  case each =>
    rintro j x st hx ⟨ks, c, hJ⟩
    simp only [Nat.zero_add] at hJ ⊢
    obtain ⟨m1, m2, m3⟩ := told _ _ _ _ hJ
    obtain ⟨hj, -⟩ := List.getElem?_eq_some_iff.mp hx
    have hcount : ks.size ≤ vs.length := by omega
    refine wpAny_bind (wpAny_attempt (wpAny_mono (turn j x ks c st hx hJ) (fun v st2 hv => ?_) fun _ _ no => no.elim))
    obtain ⟨g1, hv⟩ := hv
    try dsimp only
    have ⟨c2, hc2⟩ : ∃ c2, (st2.heap.update kl (Obj.mapSeq (·.push v))).get? kl = some (seqObj "list" (ks.push v) c2) := ⟨_, get?_update_seq g1 (·.push v)⟩
    refine wpAny_bind (listUpdate_at g1 rfl ?_ (Nat.le_trans hcount hZ) (Nat.le_trans (Nat.le_of_eq (Array.size_push ..)) (Nat.succ_le_succ (Nat.le_trans hcount hZ))))
    exact wpAny_pure ⟨rfl, _, c2, hv c2 hc2⟩
  case last =>
    rintro st ⟨ks, c, hJ⟩
    rw [Nat.zero_add] at hJ
    obtain ⟨m1, m2, m3⟩ := told _ _ _ _ hJ
    obtain ⟨h1, kp, fr, hk2, fin⟩ := last _ _ _ hJ
    try dsimp only
    refine wpAny_bind (listItems_at m1 rfl ?_)
    refine keyH_end (κ := dataKind st.heap kz) (h₁ := h1) kp fr m1 m2 ne (sorts_near (s := st) hk2 N room) m3 hZ fun h3 tk3 c3 k3 n3 => fin h3 tk3 _ c3 k3 n3 fun β R k bs e hR => ?_
    subst e
    exact sortVals_each (κ := dataKind st.heap (bs.map k)) (fun x => keyToks (k x)) hR (each_of_map k (near_keys N hk2))
theorem near_tree {n : Nat} {J : Addr → Nat → Nat → Array Value → Nat → Shared → Prop} (ho : s.heap.get? a = some (seqObj "list" vs.toArray n)) (hn : kz.length = vs.length) (hZ : vs.length ≤ sizeLine) (N : Near kz) (room : ∀ d ∈ kz, A.units + d.depth < cLine)
    (J0 : ∀ kl ep h1, (∀ b o, b ≠ a → s.heap.get? b = some o → h1.get? b = some o) → s.heap.objs.size < kl → h1.get? kl = some (seqObj "list" #[] 0) → h1.get? a = some (seqObj "list" #[] ep) → J kl ep 0 #[] 0 { s with heap := h1 })
    (told : ∀ kl ep i ks c st, J kl ep i ks c st → st.heap.get? kl = some (seqObj "list" ks c) ∧ st.heap.get? a = some (seqObj "list" #[] ep) ∧ ks.size = i)
    (turn : ∀ kl ep i v ks c st, vs[i]? = some v → J kl ep i ks c st → wpAny (model prog w) A (call f [v]) (fun u st2 => st2.heap.get? kl = some (seqObj "list" ks c) ∧ ∀ c2, (st2.heap.update kl (Obj.mapSeq (·.push u))).get? kl = some (seqObj "list" (ks.push u) c2) → J kl ep (i + 1) (ks.push u) c2 { st2 with heap := st2.heap.update kl (Obj.mapSeq (·.push u)) }) (fun _ _ => False) st)
    (last : ∀ kl ep ks c st, kl ≠ a → J kl ep vs.length ks c st → ∃ h1, KeepsBut a h1 st.heap ∧ h1.get? kl = none ∧ EachIs (fun v d => ∃ as, Reads st.heap v d as) ks.toList kz ∧
      ∀ h3 tk3 out c3, KeepsBut a h1 h3 → h3.get? a = some (seqObj "list" (List.toArray out) c3) → KOut kz vs out → Qf (.done (.ret .none)) { st with heap := h3, toks := tk3 }) :
    wpAny (model prog w) A (ksk_tree a f false) Qf E s := by
  have lt : a < s.heap.objs.size := Heap.lt_size ho
  have ⟨e1, ho1⟩ : ∃ e1, (s.heap.update a (Obj.mapSeq fun _ => (#[] : Array Value))).get? a = some (seqObj "list" #[] e1) := ⟨_, get?_update_seq ho fun _ => #[]⟩
  have sz : ((s.heap.update a (Obj.mapSeq fun _ => (#[] : Array Value))).push (seqObj "tuple" vs.toArray 0)).objs.size = s.heap.objs.size + 1 := by rw [size_push', Heap.size_update]
  unfold ksk_tree
  refine wpAny_bind (listItems_at ho rfl ?_)
  refine wpAny_bind (listUpdate_at ho rfl ?_ (by rw [List.size_toArray]; exact hZ) (Nat.zero_le _))
  refine wpAny_bind (seqEpoch_at ho1 rfl (wpAny_bind (wpAny_newTuple (wpAny_bind (wpAny_newList (wpAny_holding ?_) (Nat.zero_le _))) (by show vs.length ≤ _; exact hZ))))
  have kp : ∀ b o, b ≠ a → s.heap.get? b = some o → (sortingHeap s.heap a vs).get? b = some o := fun b o hb q => sortingHeap_old hb q
  have ne : ((s.heap.update a (Obj.mapSeq fun _ => (#[] : Array Value))).push (seqObj "tuple" vs.toArray 0)).objs.size ≠ a := by rw [sz]; exact Nat.ne_of_gt (Nat.lt_succ_of_lt lt)
  exact near_rest (kz := kz) (s := { s with heap := ((s.heap.update a (Obj.mapSeq fun _ => (#[] : Array Value))).push (seqObj "tuple" vs.toArray 0)).push (seqObj "list" #[] 0) }) (kl := ((s.heap.update a (Obj.mapSeq fun _ => (#[] : Array Value))).push (seqObj "tuple" vs.toArray 0)).objs.size)
    (J := J _ e1) ne hZ hn N room (J0 _ _ _ kp (by rw [sz]; exact Nat.lt_succ_self _) (Heap.get?_push_size _ rfl) (Heap.get?_push_of_some _ (Heap.get?_push_of_some _ ho1))) (told _ _) (turn _ _) (last _ _ · · · ne)
/-- sorted(d, key=f), d a dict -/
theorem near_dict {d : Addr} {es : Array DictEntry} {epd : Nat} {Q : Value → Shared → Prop} {J : Addr → Addr → Nat → Nat → Array Value → Nat → Shared → Prop} (lo : (d == sysModules) = false) (hh : A.handled = none) (hm : s.heap.DictRaw d es epd) (hz : es.size ≤ sizeLine)
    (hv : vs = es.toList.map (·.key)) (hn : kz.length = vs.length) (N : Near kz) (room : ∀ e ∈ kz, A.units + 2 + e.depth < cLine) (hf : ∀ x, Builtin.«list.sort» ⟨[.ref x], [(Str.ofString "key", f)]⟩ = ksk_tree x f false)
    (J0 : ∀ a kl ep h1 tk, (∀ b o, s.heap.get? b = some o → h1.get? b = some o) → s.heap.get? a = none → s.heap.get? kl = none → kl ≠ a → h1.get? kl = some (seqObj "list" #[] 0) → h1.get? a = some (seqObj "list" #[] ep) → J a kl ep 0 #[] 0 { s with heap := h1, toks := tk })
    (told : ∀ a kl ep i ks c st, J a kl ep i ks c st → st.heap.get? kl = some (seqObj "list" ks c) ∧ st.heap.get? a = some (seqObj "list" #[] ep) ∧ ks.size = i)
    (turn : ∀ a kl ep i v ks c st, vs[i]? = some v → J a kl ep i ks c st → wpAny (model prog w) A.in1.in1 (call f [v]) (fun u st2 => st2.heap.get? kl = some (seqObj "list" ks c) ∧ ∀ c2, (st2.heap.update kl (Obj.mapSeq (·.push u))).get? kl = some (seqObj "list" (ks.push u) c2) → J a kl ep (i + 1) (ks.push u) c2 { st2 with heap := st2.heap.update kl (Obj.mapSeq (·.push u)) }) (fun _ _ => False) st)
    (last : ∀ a kl ep ks c st, kl ≠ a → J a kl ep vs.length ks c st → ∃ h1, KeepsBut a h1 st.heap ∧ h1.get? kl = none ∧ EachIs (fun v d => ∃ as, Reads st.heap v d as) ks.toList kz ∧
      ∀ h3 tk3 out c3, KeepsBut a h1 h3 → h3.get? a = some (seqObj "list" (List.toArray out) c3) → KOut kz vs out → Q (.ref a) { st with heap := h3, toks := tk3 }) :
    wpAny (model prog w) A (call (.builtin "sorted") [.ref d] [(Str.ofString "key", f)]) Q E s := by
  refine call_function_entry_kw kind_sorted plain_sorted entry_sorted (ksk_s1 _ _) ?_
  unfold Builtin.«sorted»
  refine wpAny_bind (m := checkCount "sorted" 1 1 _) (wpAny_pure ?_)
  refine wpAny_bind (kdu_collect (A := A.in1) (KdlSrc.rawDict lo) hh hm hz fun h2 tk acc grown items => ?_)
  have hacc : acc.toList = vs := by
    rw [hv]
    apply List.ext_getElem?
    intro i
    by_cases hi : i < es.size
    · have hi2 : i < acc.size := by rw [items.1]; exact hi
      have q : acc[i]? = some acc[i] := Array.getElem?_eq_getElem hi2
      obtain ⟨_, e⟩ := items.2 i _ q
      rw [Array.getElem?_toList, q, List.getElem?_map, Array.getElem?_toList, Array.getElem?_eq_getElem hi, e]
      rfl
    · rw [List.getElem?_eq_none (by rw [Array.length_toList, items.1]; omega), List.getElem?_eq_none (by rw [List.length_map, Array.length_toList]; omega)]
  rw [hacc]
  have vl : vs.length ≤ sizeLine := by rw [hv, List.length_map, Array.length_toList]; exact hz
  refine wpAny_bind (wpAny_newList ?_ (by show vs.length ≤ _; exact vl))
  have hoL : (h2.push (seqObj "list" vs.toArray 0)).get? h2.objs.size = some (seqObj "list" vs.toArray 0) := Heap.get?_push_size _ rfl
  have up : ∀ b o, s.heap.get? b = some o → (h2.push (seqObj "list" vs.toArray 0)).get? b = some o := fun b o q => Heap.get?_push_of_some _ (grown b o q)
  have fresh : ∀ b, h2.objs.size ≤ b → s.heap.get? b = none := fun b hb => by
    cases q : s.heap.get? b with
    | none => rfl
    | some o => exact absurd (Heap.lt_size (grown b o q)) (Nat.not_lt.mpr hb)
  show wpAny _ _ _ _ _ { s with heap := h2.push (seqObj "list" vs.toArray 0), toks := tk }
  refine wpAny_bind (wpAny_holding (wpAny_call_entry_kw slot_list_sort ⟨_, hoL, rfl⟩ entry_list_sort ?_ (ksk_l1 _ _)))
  show wpAny (model prog w) A.in1.in1 (Builtin.«list.sort» ⟨[.ref h2.objs.size], [(Str.ofString "key", f)]⟩) _ _ _
  rw [hf]
  refine near_tree (J := J h2.objs.size) (s := { s with heap := h2.push (seqObj "list" vs.toArray 0), toks := tk }) hoL hn vl N (fun e m => room e m) (fun kl ep h1 g hlt q1 q2 => ?_) (told _) (turn _) (fun kl ep ks c st ne hJ => ?_)
  · have hsz : (h2.push (seqObj "list" vs.toArray 0)).objs.size = h2.objs.size + 1 := size_push' ..
    have hlt : (h2.push (seqObj "list" vs.toArray 0)).objs.size < kl := hlt
    rw [hsz] at hlt
    have hlt2 : h2.objs.size < kl := Nat.lt_of_succ_lt hlt
    exact J0 h2.objs.size kl ep h1 tk (fun b o q => g b o (fun z => by subst z; rw [fresh _ (Nat.le_refl _)] at q; cases q) (up b o q)) (fresh _ (Nat.le_refl _)) (fresh _ (Nat.le_of_lt hlt2)) (Nat.ne_of_gt hlt2) q1 q2
  · obtain ⟨h1, kp, fr, rd, fin⟩ := last _ _ _ _ _ _ ne hJ
    exact ⟨h1, kp, fr, rd, fun h3 tk3 out c3 k3 q3 ko => ⟨_, rfl, wpAny_pure ⟨_, rfl, fin h3 tk3 out c3 k3 q3 ko⟩⟩⟩
end
end Ev

-- part EvK
set_option maxHeartbeats 400000
set_option Elab.async false
set_option linter.all false
set_option maxRecDepth 100000
set_option maxHeartbeats 1000000
/-! Dicts whose keys are tuples of data, nested (the library tells them over the heap; here as one kind of tracked object). -/
namespace Ev
open PySem PySem.Spec PyProof.Rows L2
mutual
def nk : PyData → NestedKey
  | .int i => .num i
  | .str x => .text x
  | .bool b => .num (if b = true then 1 else 0)
  | .tuple ds => .tup (nks ds)
  | _ => .none
def nks : List PyData → List NestedKey
  | [] => []
  | d :: ds => nk d :: nks ds
end
abbrev NE := NestedKey × Addr × V
def findV (xs : List NE) (k : NestedKey) : Option (Addr × V) := (xs.find? fun x => decide (x.1 = k)).map (·.2)
def putV (xs : List NE) (k : NestedKey) (b : Addr) (v : V) : List NE := if (findV xs k).isSome = true then xs.map (fun x => if x.1 = k then (x.1, x.2.1, v) else x) else xs ++ [(k, b, v)]
/-- an entry, and what it is told by -/
def NEr (p : NE) (q : NestedKey × Addr × Value) : Prop := p.1 = q.1 ∧ p.2.1 = q.2.1 ∧ RelV p.2.2 q.2.2
def DNo (P : Program) (w : World) (d : Addr) (xs : List NE) : HO := .ext fun h => (d == sysModules) = false ∧ xs.length ≤ sizeLine ∧ ∃ ys : List (NestedKey × Addr × Value), Paired NEr xs ys ∧ (∃ es ep, h.DictRaw d es ep ∧ es.toList = ys.map (entryOfKey (nestedKind P w))) ∧ (ys.map (·.1)).Nodup
/-- the keys stand where they are told -/
def KsAt (K : PySem.W.Frag) (H : Hp) (xs : List NE) : Prop := ∀ x ∈ xs, ∃ ds, Rp K H (.ref x.2.1) (.tuple ds) ∧ x.1 = nk (.tuple ds) ∧ x.1.depth ≤ 8
section
variable {X : Cx} {pins : List (Addr × Obj)} {σ : L2.St} {H : Hp} {s : Shared}
mutual
theorem nested_of (I : Inv X pins σ H s) : ∀ (d : PyData) (v : V) (u : Value), Rp X.K H v d → RelV v u → NestedIs s.heap (nk d) u
  | _, _, _, .non, r => by cases r; exact .none
  | _, _, _, .bl b, r => by cases r; exact .bool rfl
  | _, _, _, .int i, r => by obtain ⟨t, rfl⟩ := r; exact .int i t
  | _, _, _, .str x, r => by obtain ⟨t, rfl⟩ := r; exact .text x t
  | .tuple ds, .ref a, u, .tup hq ra, r => by
    obtain rfl : u = Value.ref a := r
    obtain ⟨its, rv, ⟨o, ho, hc, n, hd⟩, _⟩ := I.tuple hq
    exact .tup ho hc hd (nested_all I ds _ _ ra rv)
theorem nested_all (I : Inv X pins σ H s) : ∀ (ds : List PyData) (vs : List V) (us : List Value), RpAll X.K H vs ds → Vals vs us → NestedAll s.heap (nks ds) us
  | [], _, _, .nil, .nil => .nil
  | d :: ds, _, _, .cons r t, .cons q t2 => .cons (nested_of I d _ _ r q) (nested_all I ds _ _ t t2)
end
theorem key_at (I : Inv X pins σ H s) {b : Addr} {ds : List PyData} (r : Rp X.K H (.ref b) (.tuple ds)) (hd : (nk (.tuple ds)).depth ≤ 8) : (nestedKind X.prog X.w).is s.heap (nk (.tuple ds)) b := ⟨nested_of I _ _ _ r rfl, hd⟩
theorem dno_of (I : Inv X pins σ H s) {d : Addr} {xs : List NE} (h : H d = some (DNo X.prog X.w d xs)) (ks : KsAt X.K H xs) :
    (d == sysModules) = false ∧ xs.length ≤ sizeLine ∧ ∃ ys, Paired NEr xs ys ∧ s.heap.DictOfH (nestedKind X.prog X.w) d ys := by
  obtain ⟨⟨lo, hz, ys, rel, ⟨es, ep, ⟨o, h1, h2, h3⟩, h4⟩, h5⟩, _, _⟩ := I.hok d _ h
  refine ⟨lo, hz, ys, rel, o, es, ep, h1, h2, h3, h4, fun y hy => ?_, h5⟩
  have : ∀ {xs : List NE} {ys}, Paired NEr xs ys → ∀ y ∈ ys, ∃ x ∈ xs, NEr x y := by
    intro xs ys r
    induction r with
    | nil => exact fun y hy => nomatch hy
    | cons r _ ih =>
      intro y hy
      rcases List.mem_cons.mp hy with rfl | hy
      · exact ⟨_, List.mem_cons_self, r⟩
      · obtain ⟨x, hx, q⟩ := ih y hy
        exact ⟨x, List.mem_cons_of_mem _ hx, q⟩
  obtain ⟨x, hx, e1, e2, _⟩ := this rel y hy
  obtain ⟨ds, r, e3, hd⟩ := ks x hx
  rw [← e1, ← e2, e3]
  rw [e3] at hd
  exact key_at I r hd
theorem find_rel (k : NestedKey) : ∀ {xs : List NE} {ys : List (NestedKey × Addr × Value)}, Paired NEr xs ys → (findV xs k = none ∧ atKey ys k = none) ∨ ∃ b v u, findV xs k = some (b, v) ∧ atKey ys k = some (b, u) ∧ RelV v u
  | _, _, .nil => .inl ⟨rfl, rfl⟩
  | x :: xs, y :: ys, .cons ⟨e1, e2, r⟩ t => by
    unfold findV atKey
    rw [List.find?_cons, List.find?_cons, ← e1]
    by_cases e : x.1 = k
    · rw [decide_eq_true e]
      exact .inr ⟨_, _, _, rfl, by rw [e2]; rfl, r⟩
    · rw [decide_eq_false e]
      exact find_rel k t
theorem put_rel {k : NestedKey} {b : Addr} {v : V} {u : Value} (rv : RelV v u) {xs : List NE} {ys : List (NestedKey × Addr × Value)} (r : Paired NEr xs ys) : Paired NEr (putV xs k b v) (storedH ys k b u) := by
  unfold putV storedH
  rcases find_rel k r with ⟨e1, e2⟩ | ⟨b', v', u', e1, e2, _⟩
  · rw [e1, e2]
    have : ∀ {xs : List NE} {ys}, Paired NEr xs ys → Paired NEr (xs ++ [(k, b, v)]) (ys ++ [(k, b, u)]) := by
      intro xs ys r
      induction r with
      | nil => exact .cons ⟨rfl, rfl, rv⟩ .nil
      | cons r _ ih => exact .cons r ih
    exact this r
  · rw [e1, e2]
    have : ∀ {xs : List NE} {ys}, Paired NEr xs ys → Paired NEr (xs.map fun x => if x.1 = k then (x.1, x.2.1, v) else x) (ys.map (putAt k u)) := by
      intro xs ys r
      induction r with
      | nil => exact .nil
      | cons r _ ih =>
        rename_i p q _ _ _
        obtain ⟨e1, e2, r2⟩ := r
        refine .cons ?_ ih
        show NEr (if p.1 = k then (p.1, p.2.1, v) else p) (if q.1 = k then (q.1, q.2.1, u) else q)
        by_cases e : p.1 = k
        · rw [if_pos e, if_pos (e1 ▸ e)]
          exact ⟨e1, e2, rv⟩
        · rw [if_neg e, if_neg (e1 ▸ e)]
          exact ⟨e1, e2, r2⟩
    exact this r
theorem put_len (xs : List NE) (k : NestedKey) (b : Addr) (v : V) : (putV xs k b v).length ≤ xs.length + 1 := by
  unfold putV
  split
  · rw [List.length_map]; omega
  · rw [List.length_append]; exact Nat.le_refl _
/-- what is asked of a dict and a key -/
def DKey (P : Program) (w : World) (K : PySem.W.Frag) (H : Hp) (a b : Addr) (xs : List NE) (ds : List PyData) : Prop := H a = some (DNo P w a xs) ∧ KsAt K H xs ∧ Rp K H (.ref b) (.tuple ds) ∧ (nk (.tuple ds)).depth ≤ 8
theorem room8 {A : Around} (hu : A.units + 64 < cLine) {P : Program} {w : World} : (nestedKind P w).room A.in1 := by
  show A.units + 1 + 8 < cLine
  omega
theorem op_inN (hu : X.A.units + 64 < cLine) : OpR X (compareOp .In) (fun x y H Q => ∃ a b xs ds, y = .ref a ∧ x = .ref b ∧ DKey X.prog X.w X.K H a b xs ds ∧ Q (.bl (findV xs (nk (.tuple ds))).isSome) H) := by
  intro pins s σ H x y v u Q I rx ry hyp
  obtain ⟨a, b, xs, ds, rfl, rfl, ⟨h1, h2, h3, h4⟩, q⟩ := hyp
  cases rx
  cases ry
  obtain ⟨lo, _, ys, rel, hd⟩ := dno_of I h1 h2
  refine wpAny_in_heap (room8 hu) (key_at I h3 h4) lo hd ?_
  rcases find_rel (nk (.tuple ds)) rel with ⟨e1, e2⟩ | ⟨_, _, _, e1, e2, _⟩
  · rw [e1] at q
    rw [e2]
    exact ⟨.bl _, H, I.tok _, rfl, q⟩
  · rw [e1] at q
    rw [e2]
    exact ⟨.bl _, H, I.tok _, rfl, q⟩
theorem op_notInN (hu : X.A.units + 64 < cLine) : OpR X (compareOp .NotIn) (fun x y H Q => ∃ a b xs ds, y = .ref a ∧ x = .ref b ∧ DKey X.prog X.w X.K H a b xs ds ∧ Q (.bl (!(findV xs (nk (.tuple ds))).isSome)) H) := by
  intro pins s σ H x y v u Q I rx ry hyp
  obtain ⟨a, b, xs, ds, rfl, rfl, ⟨h1, h2, h3, h4⟩, q⟩ := hyp
  cases rx
  cases ry
  obtain ⟨lo, _, ys, rel, hd⟩ := dno_of I h1 h2
  refine notIn_keyed (room8 hu) (key_at I h3 h4) lo ⟨ys, hd, rfl⟩ ?_
  rw [valueAt_pairsH, Option.isSome_map]
  rcases find_rel (nk (.tuple ds)) rel with ⟨e1, e2⟩ | ⟨_, _, _, e1, e2, _⟩
  · rw [e1] at q
    rw [e2]
    exact ⟨.bl _, H, I.tok _, rfl, q⟩
  · rw [e1] at q
    rw [e2]
    exact ⟨.bl _, H, I.tok _, rfl, q⟩
/-- d[k], there -/
def rIxN (P : Program) (w : World) (K : PySem.W.Frag) : R2 := fun x y H Q => ∃ a b xs ds b' v, x = .ref a ∧ y = .ref b ∧ DKey P w K H a b xs ds ∧ findV xs (nk (.tuple ds)) = some (b', v) ∧ Q v H
theorem getN (hu : X.A.units + 64 < cLine) (I : Inv X pins σ H s) {Q : VK} {a b : Addr} {xs : List NE} {ds : List PyData} {b' : Addr} {v : V} (h : DKey X.prog X.w X.K H a b xs ds) (e : findV xs (nk (.tuple ds)) = some (b', v)) (q : Q v H) :
    wpAny (model X.prog X.w) X.A (getItem (.ref a) (.ref b)) (EP X pins σ Q) X.xe s := by
  obtain ⟨h1, h2, h3, h4⟩ := h
  obtain ⟨lo, _, ys, rel, hd⟩ := dno_of I h1 h2
  rcases find_rel (nk (.tuple ds)) rel with ⟨e1, e2⟩ | ⟨b2, v2, u2, e1, e2, r⟩
  · rw [e1] at e
    cases e
  · rw [e1] at e
    cases e
    exact wpAny_getItem_heap (room8 hu) (key_at I h3 h4) hd e2 ⟨v, H, I.tok _, r, q⟩
theorem ix_N (hu : X.A.units + 64 < cLine) : IxR X (rIxN X.prog X.w X.K) := by
  intro value slice pins s σ H x y v u Q I rx ry hyp hs
  obtain ⟨a, b, xs, ds, b', z, rfl, rfl, hk, hf, q⟩ := hyp
  cases rx
  cases ry
  obtain ⟨lo, _, ys, rel, hd⟩ := dno_of I hk.1 hk.2.1
  exact tail_any hd.typeIs slot_dict_getitem.lookup (getN hu I hk hf q) hs
/-- {} , to be such a dict -/
def tDNewN (P : Program) (w : World) : TE := fun _ H Q => ∀ p, H p = none → Q (.ref p) (upd H p (DNo P w p []))
theorem pe_dnewN {pos : Pos} : PE X (.Dict [] [] pos) (tDNewN X.prog X.w) := ⟨fun pins s σ H Q I hyp => by
  have nw : ObjOk X.prog X.w (upd H s.heap.objs.size (DNo X.prog X.w s.heap.objs.size [])) (s.heap.push { cls := .type "dict", data := .dict #[] }) s.heap.objs.size (DNo X.prog X.w s.heap.objs.size []) := by
    have g : (s.heap.push { cls := .type "dict", data := .dict #[] }).get? s.heap.objs.size = some { cls := .type "dict", data := .dict #[] } := Heap.get?_push_size _ rfl
    refine ⟨⟨beq_eq_false_iff_ne.mpr (Ne.symm (Nat.ne_of_lt I.big)), Nat.zero_le _, [], .nil, ⟨#[], 0, ⟨_, g, ⟨rfl, rfl, rfl⟩, rfl⟩, rfl⟩, List.nodup_nil⟩, ⟨_, g⟩, fun h1 h2 q k => ?_⟩
    obtain ⟨q1, q2, ys, q3, ⟨es, ep, q4, q5⟩, q6⟩ := q
    exact ⟨q1, q2, ys, q3, ⟨es, ep, q4.at k, q5⟩, q6⟩
  exact wpAny_Dict_empty ⟨.ref s.heap.objs.size, _, I.laid (t' := s.toks) (fun _ _ q => Heap.get?_push_of_some _ q) (Nat.le_refl _) nw, rfl, hyp _ (I.hok.fresh (Nat.le_refl _))⟩⟩
/-- d[k] = v -/
def sDPutN (P : Program) (w : World) (K : PySem.W.Frag) (td ty tv : TE) : TS := fun D σ H => tv σ H fun v H1 => td σ H1 fun x H2 => ty σ H2 fun y H3 => ∃ a b xs ds, x = .ref a ∧ y = .ref b ∧ DKey P w K H3 a b xs ds ∧ xs.length < sizeLine ∧ D.nx σ (upd H3 a (DNo P w a (putV xs (nk (.tuple ds)) b v)))
theorem ps_dputN {o i value : Expr} {pos' pos : Pos} {td ty tv : TE} (hu : X.A.units + 64 < cLine) (ho : PE X o td) (hi : PE X i ty) (hv : PE X value tv) (hs : swapsWith value (some (.Subscript o i pos')) pos.line X.env = pure false) :
    PS X (.Assign [.Subscript o i pos'] value pos) (sDPutN X.prog X.w X.K td ty tv) := by
  refine ⟨fun pins s σ H D I hyp => ?_⟩
  refine wpAny_Assign_Subscript (thn (hv.run pins s σ H _ I hyp) fun r s1 ⟨v, H1, I1, rv, q1⟩ => thn (ho.run pins s1 σ H1 _ I1 q1) fun u s2 ⟨x, H2, I2, rx, q2⟩ => thn (hi.run pins s2 σ H2 _ I2 q2) fun iv s3 ⟨y, H3, I3, ry, a, b, xs, ds, ex, ey, ⟨h1, h2, h3, h4⟩, hl, q3⟩ => ?_) hs
  subst ex
  subst ey
  obtain rfl : u = Value.ref a := rx
  obtain rfl : iv = Value.ref b := ry
  obtain ⟨lo, hz, ys, rel, hd⟩ := dno_of I3 h1 h2
  have ly : ys.length ≤ sizeLine := by rw [← Paired.length rel]; exact hz
  refine wpAny_setItem_heap (hsz := ly) (room8 hu) (key_at I3 h3 h4) hd fun h' hd' sb => ?_
  obtain ⟨o', es, ep, g1, g2, g3, g4, _, g6⟩ := hd'
  have rel' := put_rel (k := nk (.tuple ds)) (b := b) rv rel
  have nw : ObjOk X.prog X.w (upd H3 a (DNo X.prog X.w a (putV xs (nk (.tuple ds)) b v))) h' a (DNo X.prog X.w a (putV xs (nk (.tuple ds)) b v)) := by
    refine ⟨⟨lo, by have := put_len xs (nk (.tuple ds)) b v; omega, _, rel', ⟨es, ep, ⟨o', g1, g2, g3⟩, g4⟩, g6⟩, ⟨_, g1⟩, fun k1 k2 q k => ?_⟩
    obtain ⟨q1, q2, zs, q3, ⟨es, ep, q4, q5⟩, q6⟩ := q
    exact ⟨q1, q2, zs, q3, ⟨es, ep, q4.at k, q5⟩, q6⟩
  exact ⟨σ, _, d_write I3 (by rw [h1]; exact True.intro) sb ⟨o', g1⟩ nw, q3⟩
end
end Ev

-- part EvK2
set_option maxHeartbeats 400000
set_option Elab.async false
set_option linter.all false
set_option maxRecDepth 100000
set_option maxHeartbeats 1000000
/-! sorted(d, key=f): d a dict of nested keys, f a function of the program. -/
namespace Ev
open PySem PySem.W PySem.SeqAt PySem.Spec PyProof.Rows L2
/-- an untold list that is told while it is sorted -/
def LO (a : Addr) (ks : Array Value) (c : Nat) : HO := .ext fun h => h.get? a = some (seqObj "list" ks c)
section
variable {X : Cx} {pins : List (Addr × Obj)} {σ : L2.St} {H : Hp} {s : Shared}
theorem lo_ok {P : Program} {w : World} {h : Heap} {a : Addr} {ks : Array Value} {c : Nat} (e : h.get? a = some (seqObj "list" ks c)) : ObjOk P w H h a (LO a ks c) := ⟨e, ⟨_, e⟩, fun _ _ q k => k _ q⟩
theorem lo_at (I : Inv X pins σ H s) {a : Addr} {ks : Array Value} {c : Nat} (e : H a = some (LO a ks c)) : s.heap.get? a = some (seqObj "list" ks c) := (I.hok a _ e).1
theorem two_new {h1 : Heap} {t1 : Nat} {a b : Addr} {oa ob : HO} (I : Inv X pins σ H s) (k : ∀ x u, s.heap.get? x = some u → h1.get? x = some u) (na : s.heap.get? a = none) (nb : s.heap.get? b = none) (ha : H a = none) (hb : H b = none) (ne : b ≠ a)
    (q1 : ObjOk X.prog X.w (upd (upd H a oa) b ob) h1 a oa) (q2 : ObjOk X.prog X.w (upd (upd H a oa) b ob) h1 b ob) : Inv X pins σ (upd (upd H a oa) b ob) { s with heap := h1, toks := t1 } := by
  have hb' : upd H a oa b = none := by rw [upd_ne ne]; exact hb
  have off : ∀ x u, H x = some u → upd (upd H a oa) b ob x = some u := fun x u e => by rw [upd_ne (ne_of_none e hb), upd_ne (ne_of_none e ha)]; exact e
  have fr : ∀ x u, s.heap.get? x = some u → H x = none → upd (upd H a oa) b ob x = none := fun x u e n => by
    rw [upd_ne (fun z => by rw [z, nb] at e; cases e), upd_ne (fun z => by rw [z, na] at e; cases e)]
    exact n
  refine I.un ⟨fun x u q _ _ _ => k x u q, fun x u q _ _ _ => ⟨u.slots, k x u q⟩, fun x u q n _ => fr x u q n, fun x u q _ => ⟨u, k x u q⟩, fun x xs q => off _ _ q, fun x u xs q => off _ _ q, fun x ps q => ⟨#[], by rw [off _ _ q]; simp⟩⟩ ?_
  intro x u e
  by_cases xb : x = b
  · subst xb
    rw [upd_same] at e
    cases e
    exact q2
  · rw [upd_ne xb] at e
    by_cases xa : x = a
    · subst xa
      rw [upd_same] at e
      cases e
      exact q1
    · rw [upd_ne xa] at e
      exact (I.hok x u e).stay (fun c v _ q => k c v q) (fun c q => off _ _ q) fun c xs q => off _ _ q
def rSortKN (X : Cx) (f : Addr) (P : List PyData → PyData → Prop) : List V → List V → Hp → VK → Prop := fun vs zs H Q => ∃ (d : Addr) (xs : List NE) (ds : List PyData) (kf : PyData → PyData), vs = [.ref d] ∧ zs = [.ref f] ∧ H d = some (DNo X.prog X.w d xs) ∧ RpAll X.K H (xs.map fun x => V.ref x.2.1) ds ∧
  (∀ e ∈ ds, P [e] (kf e)) ∧ Near (ds.map kf) ∧ (∀ e ∈ ds, (kf e).depth ≤ 40) ∧ Same X.H_0 H ∧ ∀ q ys H', H q = none → Same H H' → H' q = some (.lst ys) → RpAll X.K H' ys (ds.mergeSort (dataLe false kf)) → Q (.ref q) H'
theorem keys_vals {P : Program} {w : World} : ∀ {xs : List NE} {ys : List (NestedKey × Addr × Value)}, Paired NEr xs ys → Vals (xs.map fun x => V.ref x.2.1) (ys.map ((·.key) ∘ entryOfKey (nestedKind P w)))
  | _, _, .nil => .nil
  | x :: xs, y :: ys, .cons ⟨_, e2, _⟩ t => by
    refine .cons ?_ (keys_vals t)
    show Value.ref _ = Value.ref _
    rw [e2]
theorem vals_back : ∀ {xs : List V} {us : List Value} {i : Nat} {u : Value}, Vals xs us → us[i]? = some u → ∃ x, xs[i]? = some x ∧ RelV x u
  | _, _, _, _, .nil, e => by simp at e
  | _, _, 0, _, .cons r _, e => ⟨_, rfl, by simpa using (Option.some.inj e) ▸ r⟩
  | _, _, i + 1, _, .cons _ t, e => by
    obtain ⟨x, h1, h2⟩ := vals_back (i := i) t e
    exact ⟨x, h1, h2⟩
theorem take_one {α : Type} {l : List α} {i : Nat} {a : α} (h : l[i]? = some a) : l.take (i + 1) = l.take i ++ [a] := by
  rw [List.take_add_one, h]; rfl
theorem del_ne {H : Hp} {a b : Addr} (h : b ≠ a) : delH H a b = H b := if_neg h
theorem call_sortKN {k : Nat} {f : Addr} {fd : FuncData} {p : Str} {P : List PyData → PyData → Prop} (F : FnOk X.prog X.w X.K X.mg X.base CX0 k f fd [p] (spR X.K P)) (hr : Room (k + 2) X.A) (hb : Binds X.K fd [p] []) (hx : X.ex = []) : CallRK X (.builtin "sorted") [Str.ofString "key"] (rSortKN X f P) := by
  intro pins s σ H vs zs us ws Q I r rz hyp
  obtain ⟨d, xs, ds, kf, rfl, rfl, hd, rk, hP, N, dep, s0, q⟩ := hyp
  obtain ⟨u, rfl, ru⟩ := vals1 r
  obtain rfl : u = Value.ref d := ru
  obtain ⟨w1, rfl, rw1⟩ := vals1 rz
  obtain rfl : w1 = Value.ref f := rw1
  obtain ⟨⟨lo, hz, ys, rel, ⟨es, ep, hm, he⟩, _⟩, _, _⟩ := I.hok d _ hd
  have hkeys : Vals (xs.map fun x => V.ref x.2.1) (es.toList.map (·.key)) := by
    rw [he, List.map_map]
    exact keys_vals rel
  have hl : (es.toList.map (·.key)).length = xs.length := by rw [← hkeys.length, List.length_map]
  have hn : (ds.map kf).length = (es.toList.map (·.key)).length := by rw [List.length_map, ← rk.length, List.length_map, hl]
  have units := hr.un
  have out0 : ∀ b, s.heap.get? b = none → H b = none := fun b e => I.hok.gone e
  refine near_dict (vs := es.toList.map (·.key)) (kz := ds.map kf)
    (J := fun a kl ep i ks c st => ∃ H' kv, Inv X pins σ H' st ∧ Same H H' ∧ H' kl = some (LO kl ks c) ∧ H' a = some (LO a #[] ep) ∧ H kl = none ∧ H a = none ∧ kl ≠ a ∧ Vals kv ks.toList ∧ RpAll X.K H' kv ((ds.take i).map kf) ∧ i ≤ ds.length)
    lo hr.hd hm (by rw [← Array.length_toList, ← List.length_map (f := (·.key)), hl]; exact hz) rfl hn N (fun e m => by
      obtain ⟨e', m', rfl⟩ := List.mem_map.mp m
      have := dep e' m'
      omega) (fun _ => ksk_t1 _ _) ?_ ?_ ?_ ?_
  · intro a kl ep h1 tk k na nk ne q1 q2
    have Ha := out0 a na
    have Hk := out0 kl nk
    have I2 : Inv X pins σ (upd (upd H a (LO a #[] ep)) kl (LO kl #[] 0)) { s with heap := h1, toks := tk } := two_new I k na nk Ha Hk ne (lo_ok q2) (lo_ok q1)
    exact ⟨_, [], I2, (Same.new0 Ha).new (by rw [upd_ne ne]; exact Hk), upd_same, by rw [upd_ne ne.symm]; exact upd_same, Hk, Ha, ne, .nil, .nil, Nat.zero_le _⟩
  · rintro a kl ep i ks c st ⟨H', kv, I', sm, e1, e2, _, _, _, vk, rr, hi⟩
    refine ⟨lo_at I' e1, lo_at I' e2, ?_⟩
    have l1 := rr.length
    rw [vk.length, Array.length_toList, List.length_map, List.length_take] at l1
    omega
  · rintro a kl ep i v ks c st hv ⟨H', kv, I', sm, e1, e2, Hk, Ha, ne, vk, rr, hi⟩
    obtain ⟨x, hx, rx⟩ := vals_back hkeys hv
    obtain ⟨e, he1, re⟩ := rk.get' hx
    have hm := List.mem_of_getElem? he1
    obtain ⟨y, hy, rfl⟩ : ∃ y, xs[i]? = some y ∧ x = V.ref y.2.1 := by
      rw [List.getElem?_map] at hx
      obtain ⟨y, h1, h2⟩ := Option.map_eq_some_iff.mp hx
      exact ⟨y, h1, h2.symm⟩
    have en := I'.env0
    have en2 : Env0 X.prog X.w X.K X.mg X.base X.A.in1.in1 X.stack st H' := ⟨en.frames, en.mod, en.bs, en.bsz, en.funs, en.frf, en.hok, en.bare⟩
    have room : Room k X.A.in1.in1 := (hr.in1).in1
    refine wpAny_call (codeAny_mono (F.run X.A.in1.in1 X.stack st H' ⟨[v], []⟩ [v] [V.ref y.2.1] (fun z H2 => Same H' H2 ∧ Rp X.K H2 z (kf e)) E0 room en2 (hb st [v] I'.kIn rfl) (.cons rx .nil)
      ⟨[e], kf e, .cons (re.sm sm) .nil, hP e hm, fun H2 z g r => ⟨g, r⟩⟩) fun r s' hq => ?_)
    cases r with
    | error e => exact hq.elim
    | ok fl =>
      cases fl with
      | ret u =>
        obtain ⟨z, H2, I2, rz, g, rzk⟩ := I'.after hq
        have e3 := g _ _ e1
        have e4 := g _ _ e2
        refine ⟨lo_at I2 e3, fun c2 hc2 => ?_⟩
        have sb := Heap.SameBut.update s'.heap kl (Obj.mapSeq (·.push u))
        have I3 : Inv X pins σ (upd H2 kl (LO kl (ks.push u) c2)) { s' with heap := s'.heap.update kl (Obj.mapSeq (·.push u)), toks := s'.toks } :=
          I2.write (x := kl) (e := kl) (by rw [e3]; trivial) (.inl rfl) (fun b o hb q => (sb.2 b hb).trans q) ⟨_, hc2⟩ (lo_ok hc2)
        have T : Tle X.K H2 (upd H2 kl (LO kl (ks.push u) c2)) := Tle.upd (by rw [e3]; trivial)
        refine ⟨_, kv ++ [z], I3, (sm.trans g).wr Hk, upd_same, by rw [upd_ne ne.symm]; exact e4, Hk, Ha, ne, ?_, ?_, (List.getElem?_eq_some_iff.mp he1).1⟩
        · rw [Array.toList_push]
          exact vk.append (.cons rz .nil)
        · rw [take_one he1, List.map_append]
          exact ((rr.sm g).app (.cons rzk .nil)).tle T
      | _ => exact hq.elim
  · rintro a kl ep ks c st ne ⟨H', kv, I', sm, e1, e2, Hk, Ha, _, vk, rr, hi⟩
    have dl : (es.toList.map (·.key)).length = ds.length := by rw [← hn, List.length_map]
    rw [dl, List.take_length] at rr
    have f1 : Fr0 X.H_0 kl := fr0_none (Same.free s0 Hk)
    have f2 : Fr0 X.H_0 a := fr0_none (Same.free s0 Ha)
    obtain ⟨G1, g1, g2, I1⟩ := I'.untrack e1 f1 hx
    obtain ⟨G2, g3, g4, I2⟩ := I1.untrack (a := a) (by rw [del_ne ne.symm]; exact e2) f2 hx
    refine ⟨G1, fun b o _ e => g1 b o e, g2, ?_, fun h3 tk3 out c3 kp q3 ko => ?_⟩
    · obtain ⟨as, rd⟩ := Dp.readsAll I' _ _ _ (RpAll.dp _ _ rr) vk
      exact each_reads rd
    · obtain ⟨zs, vz, rz⟩ := rp_each (ko PyData (fun u d => ∃ v, RelV v u ∧ Rp X.K H v d) kf ds rfl (each_rp rk hkeys))
      have gone : ∀ b u, H b = some u → delH (delH H' kl) a b = some u := fun b u e => by
        rw [del_ne (ne_of_none e Ha), del_ne (ne_of_none e Hk)]
        exact sm _ _ e
      have zl : zs.length ≤ sizeLine := by
        rw [rz.length, List.length_mergeSort, ← rk.length, List.length_map]
        exact hz
      have smf : Same H (upd (delH (delH H' kl) a) a (.lst zs)) := fun b u e => by
        rw [upd_ne (ne_of_none e Ha)]
        exact gone b u e
      have I3 : Inv X pins σ (upd (delH (delH H' kl) a) a (.lst zs)) { st with heap := h3, toks := tk3 } :=
        I2.laidN (fun b u e => kp b u (fun z => by rw [z, g4] at e; cases e) (g3 b u e)) g4 delH_same ⟨zl, out, c3, vz, q3⟩
      exact ⟨.ref a, _, I3, rfl, q a zs _ Ha smf upd_same (rz.sm smf)⟩
end
end Ev

-- part EvK3
set_option maxHeartbeats 400000
set_option Elab.async false
set_option linter.all false
set_option maxRecDepth 100000
set_option maxHeartbeats 1000000
/-! d.get(k, x) of a dict of nested keys. -/
namespace Ev
open PySem PySem.Spec PyProof.Rows L2
def tDGetN (P : Program) (w : World) (K : PySem.W.Frag) (td ty tx : TE) : TE := fun σ H Q => td σ H fun x H1 => ∃ a xs, x = .ref a ∧ H1 a = some (DNo P w a xs) ∧ ty σ H1 fun y H2 => tx σ H2 fun z H3 => ∃ b ys ds, y = .ref b ∧ DKey P w K H3 a b ys ds ∧ Q (((findV ys (nk (.tuple ds))).map (·.2)).getD z) H3
section
variable {X : Cx} {o e f : Expr} {apos cpos : Pos} {td ty tx : TE}
theorem pe_dgetN (hu : X.A.units + 64 < cLine) (ho : PE X o td) (he : PE X e ty) (hf : PE X f tx) (m : M2 X o "get" apos e f cpos) : PE X (.Call (.Attribute o "get" apos) [e, f] [] cpos) (tDGetN X.prog X.w X.K td ty tx) := by
  refine ⟨fun pins s σ H Q I hyp => ?_⟩
  refine wpAny_Call_method m.base m.few m.line PySem.F.plainAttrs_dict PySem.F.slot_dict_get PySem.F.type_dict_get (thn (ho.run pins s σ H _ I hyp) fun u s1 ⟨x, H1, I1, rx, a, xs, ex, d, q1⟩ => ?_)
  subst ex
  obtain rfl : u = Value.ref a := rx
  obtain ⟨⟨lo, hz, zs, rel, ⟨es, ep, ⟨ob, h1, h2, h3⟩, h4⟩, h5⟩, _, _⟩ := I1.hok a _ d
  refine ⟨⟨ob, h1, h2.1⟩, fun b q => ?_, ?_⟩
  · cases q
    exact ⟨ob, h1, h2.2.1⟩
  rw [m.trees]
  refine Calls.callWith_builtin rfl (Calls.evalArgs_plain (Calls.spliced_cons (thn (he.run pins s1 σ H1 _ I1 q1) fun iv s2 ⟨y, H2, I2, ry, q2⟩ =>
    Calls.spliced_cons (thn (hf.run pins s2 σ H2 _ I2 q2) fun fv s3 ⟨z, H3, I3, rz, b, ys, ds, ey, ⟨k1, k2, k3, k4⟩, q3⟩ => Calls.spliced_nil ?_))))
  subst ey
  obtain rfl : iv = Value.ref b := ry
  obtain ⟨lo', _, ws, rel', hd'⟩ := dno_of I3 k1 k2
  refine call_meetsIn PySem.F.slot_dict_get hd'.typeIs PySem.F.entry_dict_get (PySem.F.args_dict_get_3 _ _ _) (meetsH_dict_get_default (nestedKind X.prog X.w) a b lo' fv) ⟨room8 hu, _, ws, key_at I3 k3 k4, hd', ?_⟩
  rcases find_rel (nk (.tuple ds)) rel' with ⟨e1, e2⟩ | ⟨b', v', u', e1, e2, r⟩
  · rw [e1] at q3
    rw [e2]
    exact ⟨z, H3, I3.tok _, rz, q3⟩
  · rw [e1] at q3
    rw [e2]
    exact ⟨v', H3, I3.tok _, r, q3⟩
end
end Ev

-- part EvW16
set_option maxHeartbeats 400000
set_option Elab.async false
set_option linter.all false
set_option maxRecDepth 100000
set_option maxHeartbeats 4000000
/-! The walks: the faults of an execution. -/
namespace Ev
open PySem L2
def ftK : Ft → Str
  | .fail _ _ _ => "failure"
  | .dead _ => "deadlock"
  | .race _ _ _ _ _ => "race"
  | .lost _ _ => "lost"
  | .broken _ _ _ _ => "broken"
def ftN : Ft → Nat
  | .fail _ _ _ => 0
  | .dead _ => 1
  | .race _ _ _ _ _ => 2
  | .lost _ _ => 3
  | .broken _ _ _ _ => 4
def ftR : Ft → List D
  | .fail t pc w => [dI t, dI pc, .str w.s]
  | .dead l => [eBl l]
  | .race t pc o opc v => [dI t, dI pc, dI o, dI opc, .str v.s]
  | .lost t pc => [dI t, dI pc, .str "w"]
  | .broken t pc o opc => [dI t, dI pc, dI o, dI opc]
theorem eFt_eq (F : Ft) : eFt F = .tuple (.str (ftK F) :: ftR F) := by cases F <;> rfl
def eKey (F : Ft) : D := .tuple [.int (ftN F : Int), .tuple (ftR F)]
def kIx (x : Str) : Int := if x = "failure" then 0 else if x = "deadlock" then 1 else if x = "race" then 2 else if x = "lost" then 3 else 4
def kf : D → D
  | .tuple (.str k :: r) => .tuple [.int (kIx k), .tuple r]
  | _ => .none
theorem kf_eq (F : Ft) : kf (eFt F) = eKey F := by
  rw [eFt_eq]
  show PyData.tuple [.int (kIx (ftK F)), .tuple (ftR F)] = .tuple [.int (ftN F : Int), .tuple (ftR F)]
  have : kIx (ftK F) = (ftN F : Int) := by cases F <;> (simp only [ftK, ftN]; decide +kernel)
  rw [this]
/-! no two faults are one key -/
mutual
def Cle : D → Prop
  | .int _ => True
  | .str _ => True
  | .tuple ds => CleA ds
  | _ => False
def CleA : List D → Prop
  | [] => True
  | d :: ds => Cle d ∧ CleA ds
end
mutual
theorem nk_inj : ∀ (d e : D), Cle d → Cle e → nk d = nk e → d = e
  | .int a, .int b, _, _, h => by rw [NestedKey.num.inj h]
  | .str a, .str b, _, _, h => by rw [NestedKey.text.inj h]
  | .tuple a, .tuple b, h1, h2, h => by rw [nks_inj a b h1 h2 (NestedKey.tup.inj h)]
  | .int _, .str _, _, _, h => nomatch h
  | .int _, .tuple _, _, _, h => nomatch h
  | .str _, .int _, _, _, h => nomatch h
  | .str _, .tuple _, _, _, h => nomatch h
  | .tuple _, .int _, _, _, h => nomatch h
  | .tuple _, .str _, _, _, h => nomatch h
  | .none, _, h, _, _ => h.elim
  | .bool _, _, h, _, _ => h.elim
  | .list _, _, h, _, _ => h.elim
  | .dict _, _, h, _, _ => h.elim
  | .int _, .none, _, h, _ => h.elim
  | .int _, .bool _, _, h, _ => h.elim
  | .int _, .list _, _, h, _ => h.elim
  | .int _, .dict _, _, h, _ => h.elim
  | .str _, .none, _, h, _ => h.elim
  | .str _, .bool _, _, h, _ => h.elim
  | .str _, .list _, _, h, _ => h.elim
  | .str _, .dict _, _, h, _ => h.elim
  | .tuple _, .none, _, h, _ => h.elim
  | .tuple _, .bool _, _, h, _ => h.elim
  | .tuple _, .list _, _, h, _ => h.elim
  | .tuple _, .dict _, _, h, _ => h.elim
theorem nks_inj : ∀ (d e : List D), CleA d → CleA e → nks d = nks e → d = e
  | [], [], _, _, _ => rfl
  | [], _ :: _, _, _, h => nomatch h
  | _ :: _, [], _, _, h => nomatch h
  | a :: as, b :: bs, h1, h2, h => by
    have h : nk a :: nks as = nk b :: nks bs := h
    obtain ⟨e1, e2⟩ := List.cons.inj h
    rw [nk_inj a b h1.1 h2.1 e1, nks_inj as bs h1.2 h2.2 e2]
end
theorem cl_bl : ∀ l : List (Nat × Thg), CleA (l.map fun z => .tuple [dI z.1, .str z.2.s])
  | [] => trivial
  | _ :: l => ⟨⟨trivial, trivial, trivial⟩, cl_bl l⟩
theorem cl_ft (F : Ft) : Cle (eFt F) := by
  cases F with
  | dead l => exact ⟨trivial, cl_bl l, trivial⟩
  | fail t pc w => exact ⟨trivial, trivial, trivial, trivial, trivial⟩
  | race t pc o opc v => exact ⟨trivial, trivial, trivial, trivial, trivial, trivial, trivial⟩
  | lost t pc => exact ⟨trivial, trivial, trivial, trivial, trivial⟩
  | broken t pc o opc => exact ⟨trivial, trivial, trivial, trivial, trivial, trivial⟩
theorem bl_inj : ∀ {l m : List (Nat × Thg)}, (l.map fun z => PyData.tuple [dI z.1, .str z.2.s]) = m.map (fun z => PyData.tuple [dI z.1, .str z.2.s]) → l = m
  | [], [], _ => rfl
  | [], _ :: _, h => nomatch h
  | _ :: _, [], h => nomatch h
  | (a, b) :: l, (c, d) :: m, h => by
    obtain ⟨e1, e2⟩ := List.cons.inj h
    have e3 := List.cons.inj (PyData.tuple.inj e1)
    have e4 := (List.cons.inj e3.2).1
    have e5 : a = c := dI_inj e3.1
    have e6 : b = d := Thg.s_inj (PyData.str.inj e4)
    rw [e5, e6, bl_inj e2]
theorem Wd.s_inj {a b : Wd} (h : a.s = b.s) : a = b := by
  cases a <;> cases b <;> first | rfl | (exact absurd h (by simp only [Wd.s]; decide +kernel))
theorem ftK_N {F G : Ft} (h : ftK F = ftK G) : ftN F = ftN G := by
  have h1 := congrArg kIx h
  have e : ∀ F : Ft, kIx (ftK F) = (ftN F : Int) := fun F => by cases F <;> (simp only [ftK, ftN]; decide +kernel)
  rw [e, e] at h1
  omega
theorem eKey_inj {F G : Ft} (hn : ftN F = ftN G) (hr : ftR F = ftR G) : F = G := by
  cases F <;> cases G <;> first | (exact absurd hn (by simp only [ftN]; decide)) | skip
  · obtain ⟨h1, h⟩ := List.cons.inj hr
    obtain ⟨h2, h⟩ := List.cons.inj h
    obtain ⟨h3, h⟩ := List.cons.inj h
    rw [dI_inj h1, dI_inj h2, Wd.s_inj (PyData.str.inj h3)]
  · obtain ⟨h1, h⟩ := List.cons.inj hr
    rw [bl_inj (PyData.tuple.inj h1)]
  · obtain ⟨h1, h⟩ := List.cons.inj hr
    obtain ⟨h2, h⟩ := List.cons.inj h
    obtain ⟨h3, h⟩ := List.cons.inj h
    obtain ⟨h4, h⟩ := List.cons.inj h
    obtain ⟨h5, h⟩ := List.cons.inj h
    rw [dI_inj h1, dI_inj h2, dI_inj h3, dI_inj h4, Thg.s_inj (PyData.str.inj h5)]
  · obtain ⟨h1, h⟩ := List.cons.inj hr
    obtain ⟨h2, h⟩ := List.cons.inj h
    rw [dI_inj h1, dI_inj h2]
  · obtain ⟨h1, h⟩ := List.cons.inj hr
    obtain ⟨h2, h⟩ := List.cons.inj h
    obtain ⟨h3, h⟩ := List.cons.inj h
    obtain ⟨h4, h⟩ := List.cons.inj h
    rw [dI_inj h1, dI_inj h2, dI_inj h3, dI_inj h4]
theorem eFt_inj {F G : Ft} (h : eFt F = eFt G) : F = G := by
  rw [eFt_eq, eFt_eq] at h
  obtain ⟨h1, h2⟩ := List.cons.inj (PyData.tuple.inj h)
  exact eKey_inj (ftK_N (PyData.str.inj h1)) h2
def fk (F : Ft) : NestedKey := nk (eFt F)
theorem fk_inj {F G : Ft} (h : fk F = fk G) : F = G := eFt_inj (nk_inj _ _ (cl_ft F) (cl_ft G) h)
theorem dep_bl : ∀ l : List (Nat × Thg), NestedKey.depthAll (nks (l.map fun z => .tuple [dI z.1, .str z.2.s])) ≤ 1
  | [] => Nat.zero_le _
  | _ :: l => by
    have := dep_bl l
    show max 1 _ ≤ 1
    exact Nat.max_le.mpr ⟨Nat.le_refl _, this⟩
theorem fk_depth (F : Ft) : (fk F).depth ≤ 8 := by
  cases F with
  | dead l =>
    have := dep_bl l
    show max 0 (max (NestedKey.depthAll (nks (l.map fun z => .tuple [dI z.1, .str z.2.s])) + 1) 0) + 1 ≤ 8
    omega
  | _ => exact (by decide : 1 ≤ 8)
end Ev

-- part EvW17
set_option maxHeartbeats 400000
set_option Elab.async false
set_option linter.all false
set_option maxRecDepth 100000
set_option maxHeartbeats 4000000
/-! The walks: faults_of. -/
namespace Ev
open PySem PySem.W L2
theorem alike_bl : ∀ l m : List (Nat × Thg), alikeAll (l.map fun z => PyData.tuple [dI z.1, .str z.2.s]) (m.map fun z => PyData.tuple [dI z.1, .str z.2.s]) = true
  | [], _ => rfl
  | _ :: _, [] => rfl
  | _ :: l, _ :: m => by
    show (true && alikeAll _ _) = true
    rw [alike_bl l m]
    rfl
theorem near_keys_ft (F G : Ft) : near (eKey F) (eKey G) := by
  refine ⟨_, _, _, _, rfl, rfl, rfl, fun e => ?_⟩
  have hn : ftN F = ftN G := by
    have : ((ftN F : Int)) = (ftN G : Int) := by simpa [PyData.eqv] using e
    omega
  cases F <;> cases G <;> first | (exact absurd hn (by simp only [ftN]; decide)) | rfl | skip
  rename_i l m
  show ((alikeAll (l.map fun z => PyData.tuple [dI z.1, .str z.2.s]) (m.map fun z => PyData.tuple [dI z.1, .str z.2.s]) && true) && true) = true
  rw [alike_bl]
  rfl
theorem near_fts (Fs : List Ft) : Near ((Fs.map eFt).map kf) := by
  rw [List.map_map]
  intro d hd e he
  obtain ⟨F, _, rfl⟩ := List.mem_map.mp hd
  obtain ⟨G, _, rfl⟩ := List.mem_map.mp he
  show near (kf (eFt F)) (kf (eFt G))
  rw [kf_eq, kf_eq]
  exact near_keys_ft F G
theorem dep_bl2 : ∀ l : List (Nat × Thg), PyData.depthAll (l.map fun z => PyData.tuple [dI z.1, .str z.2.s]) ≤ 2
  | [] => Nat.zero_le _
  | _ :: l => by
    have := dep_bl2 l
    exact Nat.max_le.mpr ⟨by show (1 : Nat) ≤ 2; decide, this⟩
theorem kf_depth (F : Ft) : (kf (eFt F)).depth ≤ 40 := by
  rw [kf_eq]
  cases F with
  | dead l =>
    have := dep_bl2 l
    show max 0 (max (max (PyData.depthAll (l.map fun z => PyData.tuple [dI z.1, .str z.2.s]) + 1) 0 + 1) 0) + 1 ≤ 40
    omega
  | _ => exact (by decide : 2 ≤ 40)
/-- the entries of a dict of faults -/
def DF {β : Type} (K : PySem.W.Frag) (H : Hp) (R : V → β → Prop) (xs : List NE) (d : List (Ft × β)) : Prop := Paired (fun x p => x.1 = fk p.1 ∧ Rp K H (.ref x.2.1) (eFt p.1) ∧ R x.2.2 p.2) xs d
section
variable {β : Type} {K : PySem.W.Frag} {H H' : Hp} {R R' : V → β → Prop}
theorem DF.mono {xs : List NE} {d : List (Ft × β)} (h : DF K H R xs d) (t : Tle K H H') (hR : ∀ v b, R v b → R' v b) : DF K H' R' xs d := Paired.mapP h fun _ _ q => ⟨q.1, q.2.1.tle t, hR _ _ q.2.2⟩
theorem DF.ks : ∀ {xs : List NE} {d : List (Ft × β)}, DF K H R xs d → KsAt K H xs
  | _, _, .nil => fun x hx => nomatch hx
  | _, _, .cons ⟨e1, e2, _⟩ t => fun x hx => by
    rcases List.mem_cons.mp hx with rfl | hx
    · rw [eFt_eq] at e2
      exact ⟨_, e2, by rw [e1, fk, eFt_eq], by rw [e1]; exact fk_depth _⟩
    · exact DF.ks t x hx
theorem DF.find (F : Ft) : ∀ {xs : List NE} {d : List (Ft × β)}, DF K H R xs d → (findV xs (fk F) = none ∧ F ∉ d.map (·.1)) ∨ ∃ b v c, findV xs (fk F) = some (b, v) ∧ (F, c) ∈ d ∧ R v c
  | _, _, .nil => .inl ⟨rfl, fun q => nomatch q⟩
  | x :: xs, (G, c) :: d, .cons ⟨e1, e2, r⟩ t => by
    unfold findV
    rw [List.find?_cons]
    by_cases e : F = G
    · subst e
      rw [decide_eq_true e1]
      exact .inr ⟨_, _, c, rfl, List.mem_cons_self, r⟩
    · rw [decide_eq_false (fun q => e (fk_inj (q.symm.trans e1)))]
      rcases DF.find F t with ⟨h1, h2⟩ | ⟨b, v, c', h1, h2, h3⟩
      · exact .inl ⟨h1, fun q => (List.mem_cons.mp q).elim e h2⟩
      · exact .inr ⟨b, v, c', h1, List.mem_cons_of_mem _ h2, h3⟩
theorem DF.snoc {F : Ft} {b : Addr} {v : V} {c : β} {xs : List NE} {d : List (Ft × β)} (h : DF K H R xs d) (hb : Rp K H (.ref b) (eFt F)) (hr : R v c) (hn : F ∉ d.map (·.1)) : DF K H R (putV xs (fk F) b v) (d ++ [(F, c)]) := by
  have e : findV xs (fk F) = none := by
    rcases h.find F with ⟨h1, _⟩ | ⟨_, _, c', _, h2, _⟩
    · exact h1
    · exact absurd (List.mem_map_of_mem (f := (·.1)) h2) hn
  unfold putV
  rw [e]
  clear e hn
  induction h with
  | nil => exact .cons ⟨rfl, hb, hr⟩ .nil
  | cons q _ ih => exact .cons q ih
theorem DF.old {F : Ft} {b : Addr} {v : V} {xs : List NE} {d : List (Ft × Unit)} (h : DF K H (fun _ _ => True) xs d) (hm : F ∈ d.map (·.1)) : DF K H (fun _ _ => True) (putV xs (fk F) b v) d := by
  unfold putV
  have e : (findV xs (fk F)).isSome = true := by
    rcases h.find F with ⟨_, h2⟩ | ⟨_, _, _, h1, _⟩
    · exact absurd hm h2
    · rw [h1]; rfl
  rw [if_pos e]
  clear e hm
  induction h with
  | nil => exact .nil
  | cons q _ ih =>
    rename_i x p _ _ _
    refine .cons ?_ ih
    show (if x.1 = fk F then (x.1, x.2.1, v) else x).1 = _ ∧ Rp K H (.ref (if x.1 = fk F then (x.1, x.2.1, v) else x).2.1) _ ∧ True
    by_cases z : x.1 = fk F
    · rw [if_pos z]; exact ⟨q.1, q.2.1, trivial⟩
    · rw [if_neg z]; exact ⟨q.1, q.2.1, trivial⟩
theorem DF.length {xs : List NE} {d : List (Ft × β)} (h : DF K H R xs d) : xs.length = d.length := Paired.length h
theorem DF.keys : ∀ {xs : List NE} {d : List (Ft × β)}, DF K H R xs d → RpAll K H (xs.map fun x => V.ref x.2.1) ((d.map (·.1)).map eFt)
  | _, _, .nil => .nil
  | _, _, .cons ⟨_, e2, _⟩ t => .cons e2 (DF.keys t)
theorem DF.key {P : Program} {w : World} {a b : Addr} {F : Ft} {xs : List NE} {d : List (Ft × β)} (h : DF K H R xs d) (ha : H a = some (DNo P w a xs)) (hb : Rp K H (.ref b) (eFt F)) : DKey P w K H a b xs (.str (ftK F) :: ftR F) := by
  rw [eFt_eq] at hb
  exact ⟨ha, h.ks, hb, by rw [← eFt_eq]; exact fk_depth F⟩
end
section
variable {P : Program} {w : World} {K : PySem.W.Frag} {mg : Str → Option Value} {base : Heap} {C : Addr}
/-- fault_key: 0 fault -/
abbrev s_fault_key : Stmt := top 79
theorem sc_fault_key : FnScope ["fault"] ["fault"] (defScope s_fault_key) := ⟨rfl, rfl, rfl, by decide +kernel, rfl, by decide +kernel, by decide +kernel⟩
def pKey (ds : List D) (d : D) : Prop := ∃ F, ds = [eFt F] ∧ d = kf (eFt F)
theorem ok_fault_key (T : Txt w K mg C) : Cal P w K mg base 1 "fault_key" ["fault"] (spR K pKey) := by
  obtain ⟨aK, gK, kK, hK⟩ := T.g_KINDS
  refine T.d_fault_key.ok sc_fault_key (fun vs H Q E h => ?_) (fun f cdv A outer s H vs Q E hr h => ?_)
  · obtain ⟨_, _, hd, ⟨_, rfl, _⟩, _⟩ := h
    exact hd.length
  · obtain ⟨ds, d, hd, ⟨F, rfl, rfl⟩, k⟩ := h
    rcases hd with _ | ⟨g1, _ | _⟩
    refine ⟨_, (pss_one (ps_ret (pe_tupN (pa_cons (pe_bm PySem.F.plainAttrs_tuple PySem.F.slot_tuple_index PySem.F.type_tuple_index mt_tup_index (pe_glob (v := .ref aK) rfl gK rfl) (pa_cons (pe_ix ix_D (pv 0) pe_int (fun _ _ => rfl)) pa_nil)) (pa_cons (pe_slice sl_D (pv 0) (po_some pe_int) po_none) pa_nil))))), ?_⟩
    rw [eFt_eq] at g1
    refine ⟨.inr (.inl ⟨rfl, kK⟩), _, rfl, _, _, _, g1, rfl, at0, fun u hu => ?_⟩
    cases hu.toStr
    have hk : (["failure", "deadlock", "race", "lost", "broken"] : List Str)[ftN F]? = some (ftK F) ∧ ∀ m, m < ftN F → (["failure", "deadlock", "race", "lost", "broken"] : List Str)[m]? ≠ some (ftK F) := by
      cases F <;> (simp only [ftN, ftK]; decide +kernel)
    refine ⟨aK, _, _, ftN F, rfl, rfl, hK _, hk.1, hk.2, ?_⟩
    refine ⟨_, rfl, 1, rfl, _, g1, fun v1 G1 s1 hv1 => ?_⟩
    have el : (List.drop (HT.sIx (PyData.str (ftK F) :: ftR F).length 0 (some 1)) (PyData.str (ftK F) :: ftR F)).take (HT.sIx (PyData.str (ftK F) :: ftR F).length (PyData.str (ftK F) :: ftR F).length none - HT.sIx (PyData.str (ftK F) :: ftR F).length 0 (some 1)) = ftR F := by
      rw [show (some (1 : Int)) = some ((1 : Nat) : Int) from rfl, HT.sIx_none, HT.sIx_nat, Nat.min_eq_left (by simp), List.length_cons, Nat.add_sub_cancel, List.drop_succ_cons, List.drop_zero, List.take_of_length_le (Nat.le_refl _)]
    rw [el] at hv1
    refine ⟨_, .cons (.int _) (.cons hv1 .nil), by show 2 < 1000; decide, fun v2 G2 s2 hv2 => k _ _ (s1.trans s2) ?_⟩
    rw [kf_eq]
    exact hv2

/-- faults_of: 0 program, 1 schedule, 2 state, 3 steps, 4 told, 5 found, 6 fault -/
abbrev s_faults_of : Stmt := top 80
theorem sc_faults_of : FnScope ["program", "schedule", "state", "steps", "told", "found", "fault"] ["program", "schedule"] (defScope s_faults_of) := ⟨rfl, rfl, rfl, by decide +kernel, rfl, by decide +kernel, by decide +kernel⟩
def spFO (K : PySem.W.Frag) : L2.Sp := fun vs H Q _ => ∃ p S, RpAll K H vs [eProg p, eSch S] ∧ p.length < 1000 ∧ POk p ∧ okS p (first p) S ∧ S.length < 64 ∧
  ∀ (Fs : List Ft) H' l xs, (∀ F, F ∈ Fs ↔ Told p S F) → Fs.length ≤ S.length * 450 + 1 → Same H H' → H l = none → H' l = some (.lst xs) → RpAll K H' xs (Fs.map eFt) → Q (.ref l) H'
theorem row_ok {p : Prog} (po : POk p) : ∀ {S : List Nat} {s : MS}, WF p s → okS p s S → ∀ e ∈ stepsOf p s S, e.th < p.length ∧ e.pc < (p.getD e.th []).length
  | [], _, _, _, e, he => nomatch he
  | t :: S, s, wf, ho, e, he => by
    obtain ⟨h1, h2⟩ := ho
    have ht : t < p.length := wf.len ▸ en_lt h1
    rcases List.mem_cons.mp he with rfl | he
    · exact ⟨ht, wf.pc t ht (en_iff.mp h1).1⟩
    · exact row_ok po (wf_nxt po wf h1) h2 e he
theorem ok_faults_of (T : Txt w K mg C) : Cal P w K mg base 12 "faults_of" ["program", "schedule"] (spFO K) := by
  obtain ⟨f_key, fd_key, F_key, g_key, kp_key, B_key⟩ := ok_fault_key (P := P) (base := base) T
  refine T.d_faults_of.ok sc_faults_of (fun vs H Q E h => ?_) (fun f cdv A outer s H vs Q E hr h => ?_)
  · obtain ⟨_, _, hd, _⟩ := h
    exact hd.length
  · obtain ⟨p, S, hd, hp, po, ho, hS, k⟩ := h
    rcases hd with _ | ⟨g1, _ | ⟨g2, _ | _⟩⟩
    rename_i v1 v2
    have wf := wf_goAll po (wf_first po) ho
    have hR : RowOk p (stepsOf p (first p) S) := ⟨by rw [stepsOf_len]; exact hS, row_ok po (wf_first po) ho⟩
    refine ⟨_, (pss_cons (ps_asg (pe_own (ok_run T) (hr.mono (by decide)) rfl (pa_cons (pv 0) (pa_cons (pv 1) pa_nil))) (pg_tup rfl (pgs_cons (pg_name (i := 2) sc_faults_of.nd rfl (Or.inl rfl)) (pgs_cons (pg_name (i := 3) sc_faults_of.nd rfl (Or.inl rfl)) pgs_nil))))
        (pss_cons (ps_set (i := 4) sc_faults_of.nd rfl (Or.inl rfl) (pe_op op_cat (pe_op op_cat (pe_own (ok_failures T) (hr.mono (by decide)) rfl (pa_cons (pv 3) pa_nil)) (pe_own (ok_deadlocks T) (hr.mono (by decide)) rfl (pa_cons (pv 0) (pa_cons (pv 2) pa_nil)))) (pe_own (ok_races T) (hr.mono (by decide)) rfl (pa_cons (pv 0) (pa_cons (pv 3) pa_nil)))))
        (pss_cons (ps_set (i := 4) sc_faults_of.nd rfl (Or.inl rfl) (pe_op op_cat (pe_op op_cat (pv 4) (pe_own (ok_lost_notices T) (hr.mono (by decide)) rfl (pa_cons (pv 0) (pa_cons (pv 1) pa_nil)))) (pe_own (ok_broken_blocks T) (hr.mono (by decide)) rfl (pa_cons (pv 0) (pa_cons (pv 3) pa_nil)))))
        (pss_cons (ps_set (i := 5) sc_faults_of.nd rfl (Or.inl rfl) pe_dnewN)
        (pss_cons (ps_for PassesOwn.never rfl (pi_list (pv 4)) (pg_name (i := 6) sc_faults_of.nd rfl (Or.inl rfl))
          (pss_one (ps_dputN hr.units (pv 5) (pv 6) pe_bl rfl)))
        (pss_one (ps_ret (pe_callBK (call_sortKN F_key (hr.mono (by decide)) B_key rfl) (by rfl) T.sorted (by decide +kernel) (pa_cons (pv 5) pa_nil) (pk_cons (pe_glob (v := .ref f_key) rfl g_key rfl) pk_nil))))))))), ?_⟩
    refine ⟨_, rfl, _, rfl, _, _, .cons g1 (.cons g2 .nil), ⟨p, S, rfl, hp, po, ho, hS, rfl⟩, fun H1 v s1 hv => ?_⟩
    refine gtup_D hv rfl fun ys hys => ?_
    rcases hys with _ | ⟨y1, _ | ⟨y2, _ | _⟩⟩
    refine ⟨_, _, rfl, _, _, rfl, rfl, ?_⟩
    have hS' : (stepsOf p (first p) S).length = S.length := stepsOf_len _ _ _
    generalize hRe : stepsOf p (first p) S = R at hR y2 hS'
    generalize hst : goAll p (first p) S = st at wf y1
    have l1n : (failL R).length ≤ R.length := List.length_filterMap_le _ _
    have l2n : (deadL p st).length ≤ 1 := by unfold deadL; split <;> simp
    have l4n : (lostL p S).length ≤ S.length := by
      unfold lostL
      split
      · rw [List.length_map]; exact unh_len p S _
      · exact Nat.zero_le _
    refine ⟨_, rfl, _, _, .cons y2 .nil, ⟨R, rfl, by omega, rfl⟩, fun H2 a1 x1 s2 ha1 hx1 r1 => ?_⟩
    have s12 := s1.trans s2
    refine ⟨_, rfl, _, rfl, _, _, .cons (g1.sm s12) (.cons (y1.sm s2) .nil), ⟨p, st, rfl, hp, wf, rfl⟩, fun H3 a2 x2 s3 ha2 hx2 r2 => ?_⟩
    have s13 := s12.trans s3
    have n1 : x1.length = (failL R).length := by rw [r1.length, List.length_map]
    have n2 : x2.length = (deadL p st).length := by rw [r2.length, List.length_map]
    refine ⟨a1, a2, x1, x2, rfl, rfl, s3 _ _ hx1, hx2, Nat.le_of_lt (sizeLine_small (by omega)), fun a3 ha3 => ?_⟩
    have s14 := s13.new ha3 (o := .lst (x1 ++ x2))
    have r12 : RpAll K (upd H3 a3 (.lst (x1 ++ x2))) (x1 ++ x2) ((failL R ++ deadL p st).map eFt) := by
      rw [List.map_append]
      exact ((r1.sm s3).app r2).tle (Tle.new ha3)
    have hx3 : upd H3 a3 (.lst (x1 ++ x2)) a3 = some (.lst (x1 ++ x2)) := upd_same
    have y2' := (((y2.sm s2).sm s3).tle (Tle.new ha3 (o := .lst (x1 ++ x2))))
    generalize upd H3 a3 (.lst (x1 ++ x2)) = H4 at s14 r12 hx3 y2'
    refine ⟨_, rfl, _, rfl, p, R, .cons (g1.sm s14) (.cons y2' .nil), hR, fun LR H5 a4 x4 hLR lLR s5 ha4 hx4 r4 => ?_⟩
    have s15 := s14.trans s5
    have n4 : x4.length = LR.length := by rw [r4.length, List.length_map]
    have n12 : (x1 ++ x2).length ≤ 65 := by rw [List.length_append]; omega
    refine ⟨a3, a4, _, x4, rfl, rfl, s5 _ _ hx3, hx4, Nat.le_of_lt (sizeLine_small (by omega)), fun a5 ha5 => ?_⟩
    have s16 := s15.new ha5 (o := .lst (x1 ++ x2 ++ x4))
    have r124 : RpAll K (upd H5 a5 (.lst (x1 ++ x2 ++ x4))) (x1 ++ x2 ++ x4) ((failL R ++ deadL p st ++ LR).map eFt) := by
      rw [List.map_append]
      exact ((r12.sm s5).app r4).tle (Tle.new ha5)
    have hx5 : upd H5 a5 (.lst (x1 ++ x2 ++ x4)) a5 = some (.lst (x1 ++ x2 ++ x4)) := upd_same
    have y2'' := (y2'.sm s5).tle (Tle.new ha5 (o := .lst (x1 ++ x2 ++ x4)))
    generalize upd H5 a5 (.lst (x1 ++ x2 ++ x4)) = H6 at s16 r124 hx5 y2''
    have n124 : (x1 ++ x2 ++ x4).length ≤ 100065 := by rw [List.length_append]; omega
    refine ⟨_, rfl, _, rfl, _, rfl, _, _, .cons (g1.sm s16) (.cons (g2.sm s16) .nil), ⟨p, S, rfl, hp, po, ho, hS, rfl⟩, fun H7 a6 x6 s7 ha6 hx6 r6 => ?_⟩
    have s17 := s16.trans s7
    have n6 : x6.length = (lostL p S).length := by rw [r6.length, List.length_map]
    refine ⟨a5, a6, _, x6, rfl, rfl, s7 _ _ hx5, hx6, Nat.le_of_lt (sizeLine_small (by omega)), fun a7 ha7 => ?_⟩
    have s18 := s17.new ha7 (o := .lst (x1 ++ x2 ++ x4 ++ x6))
    have r7 : RpAll K (upd H7 a7 (.lst (x1 ++ x2 ++ x4 ++ x6))) (x1 ++ x2 ++ x4 ++ x6) ((failL R ++ deadL p st ++ LR ++ lostL p S).map eFt) := by
      rw [List.map_append]
      exact ((r124.sm s7).app r6).tle (Tle.new ha7)
    have hx7 : upd H7 a7 (.lst (x1 ++ x2 ++ x4 ++ x6)) a7 = some (.lst (x1 ++ x2 ++ x4 ++ x6)) := upd_same
    have y23 := (y2''.sm s7).tle (Tle.new ha7 (o := .lst (x1 ++ x2 ++ x4 ++ x6)))
    generalize upd H7 a7 (.lst (x1 ++ x2 ++ x4 ++ x6)) = H8 at s18 r7 hx7 y23
    have n7 : (x1 ++ x2 ++ x4 ++ x6).length ≤ 100129 := by rw [List.length_append]; omega
    refine ⟨_, rfl, _, rfl, p, R, .cons (g1.sm s18) (.cons y23 .nil), hR, fun LB H9 a8 x8 hLB lLB s9 ha8 hx8 r8 => ?_⟩
    have n8 : x8.length = LB.length := by rw [r8.length, List.length_map]
    refine ⟨a7, a8, _, x8, rfl, rfl, s9 _ _ hx7, hx8, Nat.le_of_lt (sizeLine_small (by omega)), fun a9 ha9 => ?_⟩
    have s20 := (s18.trans s9).new ha9 (o := .lst (x1 ++ x2 ++ x4 ++ x6 ++ x8))
    have r9 : RpAll K (upd H9 a9 (.lst (x1 ++ x2 ++ x4 ++ x6 ++ x8))) (x1 ++ x2 ++ x4 ++ x6 ++ x8) ((failL R ++ deadL p st ++ LR ++ lostL p S ++ LB).map eFt) := by
      rw [List.map_append]
      exact ((r7.sm s9).app r8).tle (Tle.new ha9)
    have hx9 : upd H9 a9 (.lst (x1 ++ x2 ++ x4 ++ x6 ++ x8)) a9 = some (.lst (x1 ++ x2 ++ x4 ++ x6 ++ x8)) := upd_same
    generalize upd H9 a9 (.lst (x1 ++ x2 ++ x4 ++ x6 ++ x8)) = H10 at s20 r9 hx9
    have n9 : (x1 ++ x2 ++ x4 ++ x6 ++ x8).length ≤ S.length * 450 + 1 := by rw [List.length_append, List.length_append, List.length_append, List.length_append]; omega
    generalize x1 ++ x2 ++ x4 ++ x6 ++ x8 = xa at r9 hx9 n9
    have hmem : ∀ F, F ∈ failL R ++ deadL p st ++ LR ++ lostL p S ++ LB ↔ Told p S F := fun F => by
      unfold Told
      rw [List.mem_append, List.mem_append, List.mem_append, List.mem_append, mem_failL, mem_deadL, hLR, hLB, mem_lostL, hRe, hst]
      exact ⟨fun q => q.elim (fun q => q.elim (fun q => q.elim (fun q => q.elim .inl fun q => .inr (.inl q)) fun q => .inr (.inr (.inl q))) fun q => .inr (.inr (.inr (.inl q)))) fun q => .inr (.inr (.inr (.inr q))),
        fun q => q.elim (fun q => .inl (.inl (.inl (.inl q)))) fun q => q.elim (fun q => .inl (.inl (.inl (.inr q)))) fun q => q.elim (fun q => .inl (.inl (.inr q))) fun q => q.elim (fun q => .inl (.inr q)) .inr⟩
    generalize failL R ++ deadL p st ++ LR ++ lostL p S ++ LB = A at r9 hmem
    have nA : xa.length = A.length := by rw [r9.length, List.length_map]
    intro dd hdd
    have hdd0 := s20.free hdd
    have sd := Same.new0 hdd (o := DNo P w dd [])
    refine ⟨_, rfl, ?_⟩
    have hne : a9 ≠ dd := fun q => by subst q; rw [hx9] at hdd; cases hdd
    have hx10 := sd _ _ hx9
    have r10 := r9.sm sd
    have s21 := s20.trans sd
    refine for_LD (fun m σ H' => (SqL K H' a9 xa ∧ Tle K (upd H10 dd (DNo P w dd [])) H') ∧ H' a9 = some (.lst xa) ∧ Same H H' ∧ ∃ xs b b2 b3, ∃ d : List (Ft × Unit), σ = [some v1, some v2, b2, b3, some (.ref a9), some (.ref dd), b] ∧ H' dd = some (DNo P w dd xs) ∧ DF K H' (fun _ _ => True) xs d ∧ (d.map (·.1)).Nodup ∧ (∀ F, F ∈ d.map (·.1) ↔ F ∈ A.take m) ∧ xs.length ≤ m)
      (SqL.of hx10) r10 ⟨⟨SqL.of hx10, Tle.refl⟩, hx10, s21, [], none, _, _, [], rfl, upd_same, .nil, List.nodup_nil, fun F => by simp, Nat.le_refl _⟩ (fun m σ H' q => q.1) ?_ ?_
    · rintro m x e σ H12 em rx ⟨⟨_, tl⟩, hx12, s22, xs, b, b2, b3, d, rfl, hd12, df, nd, mem, hl⟩
      rw [List.getElem?_map] at em
      obtain ⟨F, hF, rfl⟩ := Option.map_eq_some_iff.mp em
      have hm : m < A.length := (List.getElem?_eq_some_iff.mp hF).1
      have rx2 := rx
      rw [eFt_eq] at rx2
      obtain ⟨bx, _, rfl, _, _⟩ := rx2.toTup
      refine ⟨_, rfl, _, rfl, dd, bx, xs, _, rfl, rfl, df.key hd12 rx, sizeLine_small (by omega), ?_⟩
      rw [show nk (.tuple (.str (ftK F) :: ftR F)) = fk F by rw [fk, eFt_eq]]
      have T : Tle K H12 (upd H12 dd (DNo P w dd (putV xs (fk F) bx (.bl true)))) := Tle.upd (by rw [hd12]; trivial)
      have hx13 : upd H12 dd (DNo P w dd (putV xs (fk F) bx (.bl true))) a9 = some (.lst xa) := by rw [upd_ne hne]; exact hx12
      have hlen := put_len xs (fk F) bx (.bl true)
      refine ⟨⟨SqL.of hx13, tl.trans T⟩, hx13, s22.wr hdd0, putV xs (fk F) bx (.bl true), ?_⟩
      by_cases c : F ∈ d.map (·.1)
      · refine ⟨_, _, _, d, rfl, upd_same, (df.old c).mono T fun _ _ q => q, nd, fun G => ?_, by omega⟩
        rw [mem, take_snoc hF, List.mem_append, List.mem_singleton]
        exact ⟨.inl, fun q => q.elim id fun e => e ▸ (mem F).mp c⟩
      · refine ⟨_, _, _, d ++ [(F, ())], rfl, upd_same, (df.snoc rx trivial c).mono T fun _ _ q => q, ?_, fun G => ?_, by omega⟩
        · rw [List.map_append, List.nodup_append]
          exact ⟨nd, by simp, fun x hx y hy e => by
            have hy : y = F := by simpa using hy
            subst hy
            exact c (e ▸ hx)⟩
        · rw [List.map_append, List.mem_append, mem, take_snoc hF, List.mem_append]
          rfl
    · rintro σ H12 ⟨⟨_, tl⟩, hx12, s22, xs, b, b2, b3, d, rfl, hd12, df, nd, mem, hl⟩
      rw [List.length_map] at hl mem
      rw [List.take_length] at mem
      refine ⟨_, rfl, dd, xs, (d.map (fun z : Ft × Unit => z.1)).map eFt, kf, rfl, rfl, hd12, df.keys, fun e he => ?_, near_fts _, fun e he => ?_, s22, fun q ys H13 hq sm hys ry => ?_⟩
      · obtain ⟨F, _, rfl⟩ := List.mem_map.mp he
        exact ⟨F, rfl, rfl⟩
      · obtain ⟨F, _, rfl⟩ := List.mem_map.mp he
        exact kf_depth F
      · rw [← List.map_mergeSort (r := fun a b => dataLe false kf (eFt a) (eFt b)) (fun _ _ _ _ => rfl)] at ry
        refine k _ _ q ys (fun F => ?_) ?_ (s22.trans sm) (s22.free hq) hys ry
        · rw [(List.mergeSort_perm _ _).mem_iff, mem, hmem]
        · have := df.length
          rw [List.length_mergeSort, List.length_map]
          omega
end
end Ev

-- part EvW18
set_option maxHeartbeats 400000
set_option Elab.async false
set_option linter.all false
set_option maxRecDepth 100000
set_option maxHeartbeats 4000000
/-! The walks: finds_of, finds. -/
namespace Ev
open PySem PySem.W L2
theorem nat_lt : ∀ a b : List Nat, (a.map fun k : Nat => (k : Int)) < (b.map fun k : Nat => (k : Int)) ↔ a < b
  | [], [] => by simp
  | [], _ :: _ => by simp
  | _ :: _, [] => by simp
  | x :: a, y :: b => by
    rw [List.map_cons, List.map_cons, List.cons_lt_cons_iff, List.cons_lt_cons_iff, nat_lt a b]
    constructor
    · rintro (h | ⟨h1, h2⟩)
      · exact .inl (by omega)
      · exact .inr ⟨by omega, h2⟩
    · rintro (h | ⟨h1, h2⟩)
      · exact .inl (by omega)
      · exact .inr ⟨by omega, h2⟩
theorem leS_eq (a b : List Nat) : dle (eSch a) (eSch b) = decide (a ≤ b) := by
  have e : ∀ S : List Nat, S.map dI = (S.map fun k : Nat => (k : Int)).map .int := fun S => by rw [List.map_map]; rfl
  unfold dle eSch
  rw [dataLt_tuple, e, e]
  rw [show PyProof.Rows.lexLt PyProof.Rows.itemOrd (keyToksAll ((b.map fun k : Nat => (k : Int)).map .int)) (keyToksAll ((a.map fun k : Nat => (k : Int)).map .int)) = decide ((b.map fun k : Nat => (k : Int)) < (a.map fun k : Nat => (k : Int))) from dataLt_ints _ _]
  by_cases h : b < a
  · rw [decide_eq_true ((nat_lt b a).mpr h), decide_eq_false (List.not_le.mpr h)]
    rfl
  · rw [decide_eq_false (fun q => h ((nat_lt b a).mp q)), decide_eq_true (List.not_lt.mp h)]
    rfl
def srt (Ss : List (List Nat)) : List (List Nat) := Ss.mergeSort fun a b => dle (eSch a) (eSch b)
theorem srt_le (Ss : List (List Nat)) : (srt Ss).Pairwise (· ≤ ·) := by
  have := List.pairwise_mergeSort (le := fun a b => dle (eSch a) (eSch b)) (fun a b c h1 h2 => by
    simp only [leS_eq, decide_eq_true_eq] at *
    exact List.le_trans h1 h2) (fun a b => by
    simp only [leS_eq, Bool.or_eq_true, decide_eq_true_eq]
    exact List.le_total a b) Ss
  exact this.imp fun h => by simpa [leS_eq] using h
theorem srt_mem {Ss : List (List Nat)} {S : List Nat} : S ∈ srt Ss ↔ S ∈ Ss := (List.mergeSort_perm _ _).mem_iff
theorem srt_map (Ss : List (List Nat)) : (Ss.map eSch).mergeSort dle = (srt Ss).map eSch := (List.map_mergeSort (r := fun a b => dle (eSch a) (eSch b)) (fun _ _ _ _ => rfl)).symm
theorem alike_sch : ∀ a b : List Nat, alikeAll (a.map dI) (b.map dI) = true
  | [], _ => rfl
  | _ :: _, [] => rfl
  | _ :: a, _ :: b => by
    show (true && alikeAll _ _) = true
    rw [alike_sch a b]
    rfl
theorem sb_sch {Ss : List (List Nat)} (h : ∀ S ∈ Ss, S ≠ []) : Sb (Ss.map eSch) := by
  refine .inr ⟨?_, .inl ?_⟩
  · intro d hd e he
    obtain ⟨a, _, rfl⟩ := List.mem_map.mp hd
    obtain ⟨b, _, rfl⟩ := List.mem_map.mp he
    exact alike_sch a b
  · intro d hd
    obtain ⟨a, ha, rfl⟩ := List.mem_map.mp hd
    cases a with
    | nil => exact absurd rfl (h _ ha)
    | cons x a => exact ⟨_, _, rfl⟩
theorem dep_sch (S : List Nat) : (eSch S).depth ≤ 40 := by
  have : ∀ l : List Nat, PyData.depthAll (l.map dI) = 0 := by
    intro l
    induction l with
    | nil => rfl
    | cons a l ih =>
      show max 0 _ = 0
      rw [ih]
      rfl
  show PyData.depthAll (S.map dI) + 1 ≤ 40
  rw [this]
  decide
def eFind (z : Ft × List Nat) : D := .tuple [eFt z.1, eSch z.2]
def leK (a b : Ft × List Nat) : Bool := dataLe false kf (eFt a.1) (eFt b.1)
noncomputable local instance decD (a b : D) : Decidable (a = b) := Classical.propDecidable _
noncomputable def findF (d : List (Ft × List Nat)) (x : D) : Option D := (d.find? fun z => decide (eFt z.1 = x)).map fun z => .tuple [x, eSch z.2]
theorem findF_at {d : List (Ft × List Nat)} (nd : (d.map (·.1)).Nodup) {F : Ft} {S : List Nat} (h : (F, S) ∈ d) : findF d (eFt F) = some (eFind (F, S)) := by
  unfold findF
  induction d with
  | nil => exact nomatch h
  | cons z d ih =>
    rw [List.find?_cons]
    rw [List.map_cons, List.nodup_cons] at nd
    rcases List.mem_cons.mp h with rfl | h
    · rw [decide_eq_true rfl]
      rfl
    · have : eFt z.1 ≠ eFt F := fun q => nd.1 (by rw [eFt_inj q]; exact List.mem_map_of_mem (f := (·.1)) h)
      rw [decide_eq_false this]
      exact ih nd.2 h
theorem findF_all {d : List (Ft × List Nat)} (nd : (d.map (·.1)).Nodup) : ∀ {e : List (Ft × List Nat)}, (∀ z ∈ e, z ∈ d) → ((e.map (·.1)).map eFt).filterMap (findF d) = e.map eFind
  | [], _ => rfl
  | (F, S) :: e, h => by
    rw [List.map_cons, List.map_cons, List.filterMap_cons, findF_at nd (h _ List.mem_cons_self), findF_all nd fun z hz => h z (List.mem_cons_of_mem _ hz)]
    rfl
theorem ix_NK {X : Cx} {P : Program} {w : World} {K : PySem.W.Frag} (e1 : X.prog = P) (e2 : X.w = w) (e3 : X.K = K) (hu : X.A.units + 64 < cLine) : IxR X (rIxN P w K) := by
  subst e1 e2 e3
  exact ix_N hu
section
variable {P : Program} {w : World} {K : PySem.W.Frag} {mg : Str → Option Value} {base : Heap} {C : Addr}
/-- finds_of: 0 program, 1 schedules, 2 found, 3 schedule, 4 fault -/
abbrev s_finds_of : Stmt := top 81
theorem sc_finds_of : FnScope ["program", "schedules", "found", "schedule", "fault"] ["program", "schedules"] (defScope s_finds_of) := ⟨rfl, rfl, rfl, by decide +kernel, rfl, by decide +kernel, by decide +kernel⟩
def spFinds (K : PySem.W.Frag) : L2.Sp := fun vs H Q _ => ∃ p, ∃ Ss : List (List Nat), ∃ vp le xs, vs = [vp, .ref le] ∧ Rp K H vp (eProg p) ∧ H le = some (.lst xs) ∧ RpAll K H xs (Ss.map eSch) ∧ p.length < 1000 ∧ POk p ∧ (∀ S ∈ Ss, okS p (first p) S ∧ S.length ≤ 8) ∧ Ss.length ≤ 1000 ∧ (Ss.length < 2 ∨ ∀ S ∈ Ss, S ≠ []) ∧
  ∀ (d : List (Ft × List Nat)) H' l ys, Firsts (Told p) (srt Ss) d → d.length ≤ 1000000000 → Same H H' → H l = none → H' l = some (.lst ys) → RpAll K H' ys ((d.mergeSort leK).map eFind) → Q (.ref l) H'
theorem ok_finds_of (T : Txt w K mg C) : Cal P w K mg base 13 "finds_of" ["program", "schedules"] (spFinds K) := by
  obtain ⟨f_key, fd_key, F_key, g_key, kp_key, B_key⟩ := ok_fault_key (P := P) (base := base) T
  refine T.d_finds_of.ok sc_finds_of (fun vs H Q E h => ?_) (fun f cdv A outer s H vs Q E hr h => ?_)
  · obtain ⟨_, _, _, _, _, rfl, _⟩ := h
    rfl
  · obtain ⟨p, Ss, v1, le, xs0, rfl, g1, hx0, rx0, hp, po, hS, hSl, hso, k⟩ := h
    refine ⟨_, (pss_cons (ps_set (i := 2) sc_finds_of.nd rfl (Or.inr rfl) pe_dnewN)
        (pss_cons (ps_for PassesOwn.never rfl (pi_list (pe_callB (call_sortD hr.units) (by rfl) T.sorted (by decide +kernel) (pa_cons (pv 1) pa_nil))) (pg_name (i := 3) sc_finds_of.nd rfl (Or.inl rfl))
          (pss_one (ps_for PassesOwn.never rfl (pi_list (pe_own (ok_faults_of T) (hr.mono (by decide)) rfl (pa_cons (pv 0) (pa_cons (pv 3) pa_nil)))) (pg_name (i := 4) sc_finds_of.nd rfl (Or.inl rfl))
            (pss_one (ps_if (pt_cmpR (op_notInN hr.units) (pv 4) (pv 2) (by rfl))
              (pss_one (ps_dputN hr.units (pv 2) (pv 4) (pv 3) rfl))
              pss_nil)))))
        (pss_one (ps_ret (pe_lc (own := [("fault", 4)]) (g := gName 4) rfl sc_finds_of.nd (pi_list (pe_callBK (call_sortKN F_key (hr.mono (by decide)) B_key rfl) (by rfl) T.sorted (by decide +kernel) (pa_cons (pv 2) pa_nil) (pk_cons (pe_glob (v := .ref f_key) rfl g_key rfl) pk_nil))) (blkOk_by (N := ["program", "schedules", "found", "schedule", "fault"]) (sc := defScope s_finds_of) (own := [("fault", 4)]) (by decide +kernel)) (fun _ _ _ _ _ => (pg_name (i := 4) sc_finds_of.nd rfl (Or.inl rfl))) (fun _ _ _ _ _ => pts_nil) (fun _ _ _ _ _ => (pe_tup (pa_cons (pv 4) (pa_cons (pe_ix (ix_NK rfl rfl rfl hr.units) (pv 2) (pv 4) (fun _ _ => rfl)) pa_nil))))))))), ?_⟩
    intro dd hdd
    have sd := Same.new0 hdd (o := DNo P w dd [])
    refine ⟨_, rfl, le, xs0, _, rfl, SqL.of (sd _ _ hx0), rx0.sm sd, ?_, ?_, fun ls ys H1 hls s1 hys ry => ?_⟩
    · rw [List.length_map]
      exact hso.imp id fun h => sb_sch h
    · intro e he
      obtain ⟨S, _, rfl⟩ := List.mem_map.mp he
      exact dep_sch S
    rw [srt_map] at ry
    have s01 := sd.trans s1
    have hdd1 : H1 dd = some (DNo P w dd []) := s1 _ _ upd_same
    have hls0 : H ls = none := sd.free hls
    have hne : ls ≠ dd := fun q => by
      have h : upd H dd (DNo P w dd []) ls = none := hls
      rw [q, upd_same] at h
      cases h
    have hlen : (srt Ss).length ≤ 1000 := by
      have := (List.mergeSort_perm Ss fun a b => dle (eSch a) (eSch b)).length_eq
      unfold srt
      omega
    refine for_LD (fun i σ H' => (SqL K H' ls ys ∧ Tle K H1 H') ∧ H' ls = some (.lst ys) ∧ Same H H' ∧ ∃ xs b c, ∃ d : List (Ft × List Nat), σ = [some v1, some (.ref le), some (.ref dd), b, c] ∧ H' dd = some (DNo P w dd xs) ∧ DF K H' (fun v S => Rp K H' v (eSch S)) xs d ∧ Firsts (Told p) ((srt Ss).take i) d ∧ xs.length ≤ i * 4000)
      (SqL.of hys) ry ⟨⟨SqL.of hys, Tle.refl⟩, hys, s01, [], none, none, [], rfl, hdd1, .nil, Firsts.nil _, Nat.zero_le _⟩ (fun m σ H' q => q.1) ?_ ?_
    · rintro i x e σ H2 em rx ⟨⟨_, tl⟩, hys2, s2, xs, b, c, d, rfl, hd2, df, fi, hl⟩
      rw [List.getElem?_map] at em
      obtain ⟨S, hSi, rfl⟩ := Option.map_eq_some_iff.mp em
      have hi : i < (srt Ss).length := (List.getElem?_eq_some_iff.mp hSi).1
      obtain ⟨ho, hS8⟩ := hS S (srt_mem.mp (List.mem_of_getElem? hSi))
      refine ⟨_, rfl, _, rfl, p, S, .cons (g1.sm s2) (.cons rx .nil), hp, po, ho, by omega, fun Fs H3 lf xf hF lF s3 hlf hxf rf => ?_⟩
      have hne2 : lf ≠ dd := fun q => by subst q; rw [hd2] at hlf; cases hlf
      have s23 := s2.trans s3
      have rx3 := rx.sm s3
      have turn0 := fi.turn S
      refine for_LD (fun m σ H' => (SqL K H' lf xf ∧ Tle K H3 H') ∧ H' lf = some (.lst xf) ∧ H' ls = some (.lst ys) ∧ Same H H' ∧ ∃ xs c, ∃ d : List (Ft × List Nat), σ = [some v1, some (.ref le), some (.ref dd), some x, c] ∧ H' dd = some (DNo P w dd xs) ∧ DF K H' (fun v S => Rp K H' v (eSch S)) xs d ∧ Turn (Told p) ((srt Ss).take i) S (Fs.take m) d ∧ xs.length ≤ i * 4000 + m)
        (SqL.of hxf) rf ⟨⟨SqL.of hxf, Tle.refl⟩, hxf, s3 _ _ hys2, s23, xs, _, d, rfl, s3 _ _ hd2, df.mono (Tle.same s3) (fun _ _ q => q.sm s3), turn0, by omega⟩ (fun m σ H' q => q.1) ?_ ?_
      · rintro m y e σ H4 em ry4 ⟨⟨_, tl4⟩, hxf4, hys4, s4, xs, c, d, rfl, hd4, df, tu, hl⟩
        rw [List.getElem?_map] at em
        obtain ⟨F, hF', rfl⟩ := Option.map_eq_some_iff.mp em
        have hm : m < Fs.length := (List.getElem?_eq_some_iff.mp hF').1
        have rx2 := ry4
        rw [eFt_eq] at rx2
        obtain ⟨bx, _, rfl, _, _⟩ := rx2.toTup
        have ek : nk (.tuple (.str (ftK F) :: ftR F)) = fk F := by rw [fk, eFt_eq]
        refine ⟨_, rfl, _, rfl, dd, bx, xs, _, rfl, rfl, df.key hd4 ry4, _, rfl, ?_⟩
        rw [ek]
        rcases df.find F with ⟨e1, e2⟩ | ⟨b', v', c', e1, e2, _⟩
        · rw [e1]
          refine iteT ?_
          refine ⟨_, rfl, _, rfl, _, rfl, dd, bx, xs, _, rfl, rfl, df.key hd4 ry4, sizeLine_small (by omega), ?_⟩
          rw [ek]
          have T : Tle K H4 (upd H4 dd (DNo P w dd (putV xs (fk F) bx x))) := Tle.upd (by rw [hd4]; trivial)
          have hlen := put_len xs (fk F) bx x
          have hx5 : upd H4 dd (DNo P w dd (putV xs (fk F) bx x)) lf = some (.lst xf) := by rw [upd_ne hne2]; exact hxf4
          refine ⟨⟨SqL.of hx5, tl4.trans T⟩, hx5, by rw [upd_ne hne]; exact hys4, s4.wr hdd, putV xs (fk F) bx x, _, d ++ [(F, S)], rfl, upd_same, ?_, ?_, by omega⟩
          · exact (df.snoc ry4 (rx3.tle tl4) e2).mono T fun _ _ q => q.tle T
          · rw [take_snoc hF']
            exact tu.new e2
        · rw [e1]
          refine iteF ⟨⟨SqL.of hxf4, tl4⟩, hxf4, hys4, s4, xs, _, d, rfl, hd4, df, ?_, by omega⟩
          rw [take_snoc hF']
          exact tu.old (List.mem_map_of_mem (f := (·.1)) e2)
      · rintro σ H4 ⟨⟨_, tl4⟩, hxf4, hys4, s4, xs, c, d, rfl, hd4, df, tu, hl⟩
        rw [List.length_map] at hl tu
        rw [List.take_length] at tu
        refine ⟨⟨SqL.of hys4, (tl.trans (Tle.same s3)).trans tl4⟩, hys4, s4, xs, _, _, d, rfl, hd4, df, ?_, by omega⟩
        rw [take_snoc hSi]
        exact tu.done hF
    · rintro σ H2 ⟨⟨_, tl⟩, hys2, s2, xs, b, c, d, rfl, hd2, df, fi, hl⟩
      rw [List.length_map, List.take_length] at fi
      rw [List.length_map] at hl
      refine ⟨_, rfl, dd, xs, (d.map (fun z : Ft × List Nat => z.1)).map eFt, kf, rfl, rfl, hd2, df.keys, fun e he => ?_, near_fts _, fun e he => ?_, s2, fun q zs H3 hq sm hzs rz => ?_⟩
      · obtain ⟨F, _, rfl⟩ := List.mem_map.mp he
        exact ⟨F, rfl, rfl⟩
      · obtain ⟨F, _, rfl⟩ := List.mem_map.mp he
        exact kf_depth F
      have ed : ((d.map (fun z : Ft × List Nat => z.1)).map eFt).mergeSort (dataLe false kf) = ((d.mergeSort leK).map (fun z : Ft × List Nat => z.1)).map eFt := by
        rw [List.map_map, List.map_map]
        exact (List.map_mergeSort (r := leK) (s := dataLe false kf) (f := eFt ∘ fun z : Ft × List Nat => z.1) (fun _ _ _ _ => rfl)).symm
      rw [ed] at rz
      have dl : d.length ≤ 4000000 := by
        have := df.length
        omega
      have hd3 := sm _ _ hd2
      have df3 := df.mono (Tle.same sm) (fun _ _ q => q.sm sm) (R' := fun v S => Rp K H3 v (eSch S))
      have inD : ∀ z, z ∈ d.mergeSort leK → z ∈ d := fun z hz => (List.mergeSort_perm _ _).mem_iff.mp hz
      refine lc_LD (findF d) (SqL.of hzs) rz (by rw [List.length_map, List.length_map, List.length_mergeSort]; omega) (fun x e H' Cn N he r s3 c1 c2 => ⟨rfl, iteT (B := N H') ?_⟩) fun l2 acc H' hl2 s3 e ra => ?_
      · obtain ⟨F, hF, rfl⟩ := List.mem_map.mp he
        obtain ⟨⟨F', S⟩, hz, e0⟩ := List.mem_map.mp hF
        have e0 : F' = F := e0
        subst e0
        have hzd := inD _ hz
        have rx2 := r
        rw [eFt_eq] at rx2
        obtain ⟨bx, _, rfl, _, _⟩ := rx2.toTup
        have ek : nk (.tuple (.str (ftK F') :: ftR F')) = fk F' := by rw [fk, eFt_eq]
        have df4 := df3.mono (Tle.same s3) (fun _ _ q => q.sm s3) (R' := fun v S => Rp K H' v (eSch S))
        rcases df4.find F' with ⟨_, q2⟩ | ⟨b', v', S', q1, q2, q3⟩
        · exact absurd (List.mem_map_of_mem (f := (·.1)) hzd) q2
        · refine ⟨_, rfl, _, rfl, _, rfl, dd, bx, xs, _, b', v', rfl, rfl, df4.key (s3 _ _ hd3) r, by rw [ek]; exact q1, ?_⟩
          refine ⟨by show 2 ≤ sizeLine; exact Nat.le_of_lt (sizeLine_small (by decide)), fun q hq => c1 _ _ _ (findF_at fi.nd q2) (Rp.newT hq (.cons r (.cons q3 .nil))) (Same.new0 hq)⟩
      · rw [findF_all fi.nd inD] at ra
        exact k d _ _ _ fi (by omega) ((s2.trans sm).trans s3) ((s2.trans sm).free hl2) e ra

def headF : D → Option D
  | .tuple (a :: _) => some a
  | _ => none
theorem headF_all (E : List Ent) : (E.map eEnt).filterMap headF = (E.map (·.S)).map eSch := by
  induction E with
  | nil => rfl
  | cons e E ih =>
    show _ :: _ = _ :: _
    rw [ih]
theorem sch_ne {p : Prog} {L : Nat} (hL : 0 < L) {Kd : Ent → List Ent} (g : Grow Kd L) (po : POk p) (hK : ∀ e k, k ∈ Kd e → k ∈ kidsA p L e) : (((dfs Kd L (mk p [])).filter (compl p L)).map (·.S)).length < 2 ∨ ∀ S ∈ ((dfs Kd L (mk p [])).filter (compl p L)).map (·.S), S ≠ [] := by
  by_cases h : (enabled p (first p)).length = 0
  · left
    have e0 : Kd (mk p []) = [] := by
      cases hk : Kd (mk p []) with
      | nil => rfl
      | cons a r =>
        have := hK (mk p []) a (by rw [hk]; exact List.mem_cons_self)
        unfold kidsA at this
        split at this
        · have he : enabled p (mk p []).s = [] := List.eq_nil_of_length_eq_zero h
          rw [he] at this
          exact nomatch this
        · exact nomatch this
    rw [dfs_eq g, e0, List.length_map]
    exact Nat.lt_of_le_of_lt (List.length_filter_le _ _) (Nat.lt_succ_self 1)
  · right
    rintro S hS rfl
    obtain ⟨e, he, heS⟩ := List.mem_map.mp hS
    obtain ⟨h1, h2⟩ := List.mem_filter.mp he
    obtain ⟨hmk, _⟩ := dfs_ok po g hK h1
    rw [heS] at hmk
    subst hmk
    unfold compl at h2
    rw [Bool.or_eq_true, decide_eq_true_eq, decide_eq_true_eq] at h2
    rcases h2 with q | q
    · have q : 0 = L := q
      omega
    · exact h q
/-- finds: 0 program, 1 limit, 2 most, 3 entry -/
abbrev s_finds : Stmt := top 82
theorem sc_finds : FnScope ["program", "limit", "most", "entry"] ["program", "limit", "most"] (defScope s_finds) := ⟨rfl, rfl, rfl, by decide +kernel, rfl, by decide +kernel, by decide +kernel⟩
def allT (p : Prog) (L : Nat) : List (List Nat) := ((dfs (kidsT p L) L (mk p [])).filter (compl p L)).map (·.S)
def spFin (K : PySem.W.Frag) : L2.Sp := fun vs H Q _ => ∃ p, ∃ L most : Nat, RpAll K H vs [eProg p, dI L, dI most] ∧ p.length < 1000 ∧ POk p ∧ Small p ∧ 0 < L ∧ L ≤ 8 ∧ 700 ≤ most ∧
  ∀ (d : List (Ft × List Nat)) H' l ys, Firsts (Told p) (srt (allT p L)) d → d.length ≤ 1000000000 → Same H H' → H l = none → H' l = some (.lst ys) → RpAll K H' ys ((d.mergeSort leK).map eFind) → Q (.ref l) H'
theorem ok_finds (T : Txt w K mg C) : Cal P w K mg base 14 "finds" ["program", "limit", "most"] (spFin K) := by
  refine T.d_finds.ok sc_finds (fun vs H Q E h => ?_) (fun f cdv A outer s H vs Q E hr h => ?_)
  · obtain ⟨_, _, _, hd, _⟩ := h
    exact hd.length
  · obtain ⟨p, L, most, hd, hp, po, sm, hL0, hL, hm, k⟩ := h
    rcases hd with _ | ⟨g1, _ | ⟨g2, _ | ⟨g3, _ | _⟩⟩⟩
    have gr := grow_T p L
    have hsub := sub_T p L
    have hcnt := dfs_len po sm hL gr hsub (kidsT_len p L)
    have hcnt2 : ((dfs (kidsT p L) L (mk p [])).filter (compl p L)).length ≤ 600 := Nat.le_trans (List.length_filter_le _ _) hcnt
    refine ⟨_, (pss_one (ps_ret (pe_own (ok_finds_of T) (hr.mono (by decide)) rfl (pa_cons (pv 0) (pa_cons (pe_lc (own := [("entry", 3)]) (g := gName 3) rfl sc_finds.nd (pi_list (pe_own (ok_executions T) (hr.mono (by decide)) rfl (pa_cons (pv 0) (pa_cons (pv 1) (pa_cons (pv 2) pa_nil))))) (blkOk_by (N := ["program", "limit", "most", "entry"]) (sc := defScope s_finds) (own := [("entry", 3)]) (by decide +kernel)) (fun _ _ _ _ _ => (pg_name (i := 3) sc_finds.nd rfl (Or.inl rfl))) (fun _ _ _ _ _ => pts_nil) (fun _ _ _ _ _ => (pe_ix (ix_DK rfl) (pv 3) pe_int (fun _ _ => rfl)))) pa_nil))))), ?_⟩
    refine ⟨_, rfl, _, rfl, _, rfl, _, rfl, ?_⟩
    refine ⟨_, _, .cons g1 (.cons g2 (.cons g3 .nil)), ⟨p, L, most, rfl, hp, po, sm, hL, hm, rfl⟩, fun H1 l1 x1 s1 hl1 hx1 r1 => ?_⟩
    refine lc_LD headF (SqL.of hx1) r1 (by rw [List.length_map]; omega) (fun x e H' Cn N he r s3 c1 c2 => ⟨rfl, iteT (B := N H') ?_⟩) fun l2 acc H' hl2 s3 e ra => ?_
    · obtain ⟨en, hen, rfl⟩ := List.mem_map.mp he
      exact ⟨_, rfl, _, _, _, r, rfl, at0, fun u hu => c1 _ _ _ rfl hu (Same.refl _)⟩
    · rw [headF_all] at ra
      have s13 := s1.trans s3
      refine ⟨p, allT p L, _, l2, acc, rfl, g1.sm s13, e, ra, hp, po, fun S hS => ?_, ?_, ?_, fun d H2 l ys fi dl s4 hl hys ry => k d H2 l ys fi dl (s13.trans s4) (s13.free hl) hys ry⟩
      · obtain ⟨en, hen, rfl⟩ := List.mem_map.mp hS
        have := dfs_ok po gr hsub (List.mem_filter.mp hen).1
        exact ⟨this.2.1, by have := this.2.2.1; omega⟩
      · unfold allT
        rw [List.length_map]
        omega
      · exact sch_ne hL0 gr po hsub
end
end Ev

-- part EvO
set_option maxHeartbeats 400000
set_option Elab.async false
set_option linter.all false
set_option maxRecDepth 100000
set_option maxHeartbeats 4000000
/-! The order of the entries. -/
namespace Ev
open PySem PySem.W L2
mutual
/-- data without lists and dicts -/
def Pln : D → Prop
  | .tuple ds => PlnA ds
  | .list _ => False
  | .dict _ => False
  | _ => True
def PlnA : List D → Prop
  | [] => True
  | d :: ds => Pln d ∧ PlnA ds
end
mutual
theorem pln_self : ∀ d : D, Pln d → alike d d = true
  | .none, _ => rfl
  | .bool _, _ => rfl
  | .int _, _ => rfl
  | .str _, _ => rfl
  | .tuple ds, h => plnA_self ds h
  | .list _, h => h.elim
  | .dict _, h => h.elim
theorem plnA_self : ∀ ds : List D, PlnA ds → alikeAll ds ds = true
  | [], _ => rfl
  | d :: ds, h => by
    show (alike d d && alikeAll ds ds) = true
    rw [pln_self d h.1, plnA_self ds h.2]
    rfl
end
theorem plnA_map {α : Type} {f : α → D} (h : ∀ a, Pln (f a)) : ∀ l : List α, PlnA (l.map f)
  | [] => trivial
  | a :: l => ⟨h a, plnA_map h l⟩
theorem depA_map {α : Type} {f : α → D} {n : Nat} (h : ∀ a, (f a).depth ≤ n) : ∀ l : List α, PyData.depthAll (l.map f) ≤ n
  | [] => Nat.zero_le _
  | a :: l => Nat.max_le.mpr ⟨h a, depA_map h l⟩
theorem sch_eqv : ∀ {a b : List Nat}, PyData.eqvAll (a.map dI) (b.map dI) = true → a = b
  | [], [], _ => rfl
  | [], _ :: _, h => by simp [PyData.eqvAll] at h
  | _ :: _, [], h => by simp [PyData.eqvAll] at h
  | x :: a, y :: b, h => by
    rw [List.map_cons, List.map_cons, eqv_all_cons, Bool.and_eq_true] at h
    have h1 : (x : Int) = (y : Int) := by simpa [dI, PyData.eqv] using h.1
    rw [sch_eqv h.2, show x = y by omega]
theorem pln_own (o : Option Nat) : Pln (eOwn o) := by cases o <;> trivial
theorem pln_wd (o : Option Wd) : Pln (eWd o) := by cases o <;> trivial
theorem pln_ts (t : Thr) : Pln (eTS t) := ⟨trivial, ⟨trivial, trivial, trivial, trivial, trivial⟩, trivial, pln_wd _, trivial⟩
theorem pln_sp (e : Stp) : Pln (eSp e) := ⟨trivial, trivial, plnA_map (f := fun z : Thg × Bool => PyData.tuple [.str z.1.s, .bool z.2]) (fun _ => ⟨trivial, trivial, trivial⟩) e.to, pln_wd _, trivial⟩
theorem pln_st (s : MS) : Pln (eSt s) := ⟨⟨trivial, trivial, trivial⟩, ⟨pln_own _, pln_own _, trivial⟩, ⟨plnA_map (f := PyData.int) (fun _ => trivial) s.sh.q, trivial⟩, ⟨plnA_map (f := dI) (fun _ => trivial) s.sh.w, trivial⟩, plnA_map pln_ts s.ts, trivial⟩
theorem dp_own (o : Option Nat) : (eOwn o).depth ≤ 0 := by cases o <;> exact Nat.le_refl _
theorem dp_wd (o : Option Wd) : (eWd o).depth ≤ 0 := by cases o <;> exact Nat.le_refl _
theorem dp_ts (t : Thr) : (eTS t).depth ≤ 2 := by
  have := dp_wd t.wd
  show max 0 (max (max 0 (max 0 (max 0 (max 0 0))) + 1) (max 0 (max (eWd t.wd).depth 0))) + 1 ≤ 2
  omega
theorem dp_sp (e : Stp) : (eSp e).depth ≤ 3 := by
  have := dp_wd e.wd
  have h := depA_map (f := fun z : Thg × Bool => PyData.tuple [.str z.1.s, .bool z.2]) (n := 1) (fun _ => Nat.le_refl _) e.to
  show max 0 (max 0 (max (PyData.depthAll (e.to.map fun z : Thg × Bool => PyData.tuple [.str z.1.s, .bool z.2]) + 1) (max (eWd e.wd).depth 0))) + 1 ≤ 3
  omega
theorem near_ent {p : Prog} {a b : Ent} (ha : a = mk p a.S) (hb : b = mk p b.S) : near (eEnt a) (eEnt b) := by
  refine ⟨_, _, _, _, rfl, rfl, alike_sch a.S b.S, fun e => ?_⟩
  have e1 : a.S = b.S := sch_eqv e
  have e2 : a = b := by rw [ha, hb, e1]
  subst e2
  exact plnA_self _ ⟨plnA_map pln_sp a.R, pln_st a.s, trivial⟩
theorem dpt {ds : List D} {n : Nat} (h : PyData.depthAll ds ≤ n) : (PyData.tuple ds).depth ≤ n + 1 := Nat.succ_le_succ h
theorem dpc {d : D} {ds : List D} {n : Nat} (h : d.depth ≤ n) (t : PyData.depthAll ds ≤ n) : PyData.depthAll (d :: ds) ≤ n := Nat.max_le.mpr ⟨h, t⟩
theorem dpn {n : Nat} : PyData.depthAll [] ≤ n := Nat.zero_le _
theorem dpi {z : Int} {n : Nat} : (PyData.int z).depth ≤ n := Nat.zero_le _
theorem dp_st (s : MS) : (eSt s).depth ≤ 8 := by
  have o : ∀ o : Option Nat, (eOwn o).depth ≤ 6 := fun o => Nat.le_trans (dp_own o) (by decide)
  have q : PyData.depthAll (s.sh.q.map PyData.int) ≤ 5 := depA_map (fun _ => dpi) _
  have w : PyData.depthAll (s.sh.w.map dI) ≤ 5 := depA_map (fun _ => dpi) _
  have t : PyData.depthAll (s.ts.map eTS) ≤ 6 := depA_map (fun t => Nat.le_trans (dp_ts t) (by decide)) _
  exact dpt (dpc (dpt (dpc dpi (dpc dpi dpn))) (dpc (dpt (dpc (o _) (dpc (o _) dpn))) (dpc (dpt (dpc (dpt q) dpn)) (dpc (dpt (dpc (dpt w) dpn)) (dpc (dpt t) dpn)))))
theorem dp_ent (e : Ent) : (eEnt e).depth ≤ 40 := by
  have r : PyData.depthAll (e.R.map eSp) ≤ 38 := depA_map (fun t => Nat.le_trans (dp_sp t) (by decide)) _
  have s : PyData.depthAll (e.S.map dI) ≤ 38 := depA_map (fun _ => dpi) _
  exact dpt (dpc (dpt s) (dpc (dpt r) (dpc (Nat.le_trans (dp_st e.s) (by decide)) dpn)))
end Ev

-- part EvW19
set_option maxHeartbeats 400000
set_option Elab.async false
set_option linter.all false
set_option maxRecDepth 100000
set_option maxHeartbeats 4000000
/-! The walks: what is drawn. -/
namespace Ev
open PySem L2
theorem seq_par2 {t u : TS} {D : Ends} {σ : L2.St} {H : Hp} (good : L2.St → Hp → Prop) (h1 : ∀ rest : L2.St → Hp → Prop, (∀ σ' H', good σ' H' → rest σ' H') → t { D with nx := rest } σ H) (h2 : ∀ σ' H', good σ' H' → u D σ' H') : tSeq t u D σ H := h1 _ h2
section
variable {P : Program} {w : World} {K : PySem.W.Frag} {mg : Str → Option Value} {base : Heap} {C : Addr}
/-- _law_cell: 0 _law_script, 1 _law_k -/
abbrev s_law_cell : Stmt := top 84
theorem sc_law_cell : FnScope ["_law_script", "_law_k"] ["_law_script", "_law_k"] (defScope s_law_cell) := ⟨rfl, rfl, rfl, by decide +kernel, rfl, by decide +kernel, by decide +kernel⟩
def spCell (K : PySem.W.Frag) : L2.Sp := fun vs H Q _ => ∃ a, ∃ ns : List Int, ∃ k : Nat, vs = [.ref a, .int (k : Int)] ∧ SqL K H a (ns.map V.int) ∧ ∀ z : Int, Q (.int z) H
theorem ok_law_cell (T : Txt w K mg C) : Cal P w K mg base 1 "_law_cell" ["_law_script", "_law_k"] (spCell K) := by
  refine T.d_law_cell.ok sc_law_cell (fun vs H Q E h => ?_) (fun f cdv A outer s H vs Q E hr h => ?_)
  · obtain ⟨_, _, _, rfl, _⟩ := h
    rfl
  · obtain ⟨a, ns, k, rfl, hq, kk⟩ := h
    refine ⟨_, (pss_cons (ps_if (pt_cmpR op_lt (pv 1) (pe_callB call_len_seq (by rfl) T.len PySem.boot_len (pa_cons (pv 0) pa_nil)) (nomark _))
          (pss_one (ps_ret (pe_ix ix_list (pv 0) (pv 1) (fun _ _ => rfl))))
          pss_nil)
        (pss_one (ps_ret pe_int))), ?_⟩
    refine ⟨_, rfl, _, rfl, a, _, rfl, .inl hq, _, _, rfl, rfl, _, rfl, ?_⟩
    by_cases c : (k : Int) < (((ns.map V.int).length : Nat) : Int)
    · rw [decide_eq_true c]
      have hk : k < ns.length := by rw [List.length_map] at c; omega
      refine iteT ⟨_, rfl, _, rfl, a, _, _, _, rfl, rfl, hq, atI_nat (v := .int ns[k]) ?_, kk _⟩
      rw [List.getElem?_map, List.getElem?_eq_getElem hk]
      rfl
    · rw [decide_eq_false c]
      exact iteF (kk 0)

/-- _law_digits: 0 _law_cell_here, 1 _law_k, 2 _law_most, 3 _law_digits_here, 4 _law_turn, 5 _law_seed -/
abbrev s_law_digits : Stmt := top 85
theorem sc_law_digits : FnScope ["_law_cell_here", "_law_k", "_law_most", "_law_digits_here", "_law_turn", "_law_seed"] ["_law_cell_here", "_law_k", "_law_most"] (defScope s_law_digits) := ⟨rfl, rfl, rfl, by decide +kernel, rfl, by decide +kernel, by decide +kernel⟩
def spDig (K : PySem.W.Frag) : L2.Sp := fun vs H Q _ => ∃ c k : Int, ∃ m : Nat, vs = [.int c, .int k, .int (m : Int)] ∧ m ≤ 20 ∧ ∀ (ds : List Int) H' l, ds.length ≤ 20 → Same H H' → H l = none → H' l = some (.lst (ds.map V.int)) → Q (.ref l) H'
theorem ok_law_digits (T : Txt w K mg C) : Cal P w K mg base 1 "_law_digits" ["_law_cell_here", "_law_k", "_law_most"] (spDig K) := by
  refine T.d_law_digits.ok sc_law_digits (fun vs H Q E h => ?_) (fun f cdv A outer s H vs Q E hr h => ?_)
  · obtain ⟨_, _, _, rfl, _⟩ := h
    rfl
  · obtain ⟨c, k, m, rfl, hm, kk⟩ := h
    refine ⟨_, (pss_cons (ps_set (i := 3) sc_law_digits.nd rfl (Or.inl rfl) (pe_lst pa_nil))
        (pss_cons (ps_if (pt_cmpR op_lt (pv 0) pe_int (nomark _))
          (pss_one (ps_set (i := 0) sc_law_digits.nd rfl (Or.inl rfl) (pe_op op_sub (pe_un un_neg pe_int) (pv 0))))
          pss_nil)
        (pss_cons (ps_if (pt_cmpR op_ge (pv 0) (pe_op op_pow pe_int pe_int) (nomark _))
          (pss_one (ps_for PassesOwn.never rfl (pi_range1 rfl T.range (pa_cons pe_int pa_nil)) (pg_name (i := 4) sc_law_digits.nd rfl (Or.inl rfl))
            (pss_one (ps_if (PW.pt (pw_and (pt_cmpR op_gt (pv 0) pe_int (nomark _)) (pw_and1 (pt_cmpR op_lt (pe_callB call_len_seq (by rfl) T.len PySem.boot_len (pa_cons (pv 3) pa_nil)) (pv 2) (nomark _)))))
              (pss_cons (ps_expr (pe_bm PySem.F.plainAttrs_list PySem.F.slot_list_append PySem.F.type_list_append mt_append (pv 3) (pa_cons (pe_op op_mod (pe_callTy call_int1 (by rfl) T.int (by decide +kernel) (pa_cons (pv 0) pa_nil)) pe_int) pa_nil)))
              (pss_one (ps_set (i := 0) sc_law_digits.nd rfl (Or.inl rfl) (pe_op op_fdiv (pv 0) pe_int))))
              pss_nil))))
          (pss_cons (ps_set (i := 5) sc_law_digits.nd rfl (Or.inl rfl) (pe_op op_mod (pe_callTy call_int1 (by rfl) T.int (by decide +kernel) (pa_cons (pe_op op_add (pe_op op_add (pe_op op_mul (pv 0) pe_int) (pe_op op_mul (pv 1) pe_int)) pe_int) pa_nil)) pe_int))
          (pss_one (ps_for PassesOwn.never rfl (pi_range1 rfl T.range (pa_cons (pv 2) pa_nil)) (pg_name (i := 4) sc_law_digits.nd rfl (Or.inl rfl))
            (pss_cons (ps_set (i := 5) sc_law_digits.nd rfl (Or.inl rfl) (pe_op op_mod (pe_callTy call_int1 (by rfl) T.int (by decide +kernel) (pa_cons (pe_op op_add (pe_op op_add (pe_op op_mul (pv 5) pe_int) (pe_op op_mul pe_int (pv 4))) pe_int) pa_nil)) pe_int))
            (pss_one (ps_expr (pe_bm PySem.F.plainAttrs_list PySem.F.slot_list_append PySem.F.type_list_append mt_append (pv 3) (pa_cons (pe_op op_mod (pe_callTy call_int1 (by rfl) T.int (by decide +kernel) (pa_cons (pe_op op_fdiv (pv 5) pe_int) pa_nil)) pe_int) pa_nil)))))))))
        (pss_one (ps_ret (pv 3)))))), ?_⟩
    refine ⟨Nat.zero_le _, fun l hl => ?_⟩
    have s0 := Same.new0 hl (o := .lst [])
    have hx0 : upd H l (.lst []) l = some (.lst []) := upd_same
    generalize upd H l (.lst []) = H1 at s0 hx0
    try dsimp only [gName]
    refine seq_par2 (fun σ' H' => H' = H1 ∧ ∃ c' : Int, σ' = [some (.int c'), some (.int k), some (.int (m : Int)), some (.ref l), none, none]) (fun rest hrest => ?_) ?_
    · refine ⟨_, rfl, _, _, rfl, rfl, _, rfl, ?_⟩
      by_cases h : c < 0
      · rw [decide_eq_true h]
        refine iteT ?_
        exact ⟨_, rfl, _, rfl, _, _, rfl, rfl, hrest _ _ ⟨rfl, _, rfl⟩⟩
      · rw [decide_eq_false h]
        refine iteF ?_
        exact hrest _ _ ⟨rfl, _, rfl⟩
    rintro σ1 H2 ⟨rfl, c, rfl⟩
    try dsimp only [gName]
    refine seq_par2 (fun x H' => Same H H' ∧ ∃ (ds : List Int) (a b c : Option V), x = [a, some (.int k), some (.int (m : Int)), some (.ref l), b, c] ∧ H' l = some (.lst (ds.map V.int)) ∧ ds.length ≤ 20) (fun rest hrest => ?_) ?_
    rotate_left
    · rintro x H' ⟨sm, ds, a, b, c, rfl, hx, hl'⟩
      exact ⟨_, rfl, kk ds _ _ hl' sm hl hx⟩
    refine ⟨_, rfl, _, _, rfl, rfl, ⟨by decide, by decide, by decide⟩, _, _, rfl, rfl, _, rfl, ?_⟩
    by_cases h : (10 : Int) ^ (18 : Int).toNat ≤ c
    · rw [decide_eq_true h]
      refine iteT ?_
      refine ⟨60, rfl, by decide, by decide, ?_⟩
      refine for_range (lo := 0) (n := 60) (fun i σ H' => Same H H' ∧ ∃ (ds : List Int) (c : Int) (b e : Option V), σ = [some (.int c), some (.int k), some (.int (m : Int)), some (.ref l), b, e] ∧ H' l = some (.lst (ds.map V.int)) ∧ ds.length ≤ m)
        ⟨s0, [], c, none, none, rfl, hx0, Nat.zero_le _⟩ ?_ ?_
      · rintro i σ H3 hi ⟨s1, ds, c, b, e, rfl, hx, hlen⟩
        refine ⟨_, rfl, _, _, rfl, rfl, _, rfl, ?_⟩
        by_cases h0 : 0 < c
        · rw [decide_eq_true h0]
          refine iteT ?_
          refine ⟨_, rfl, l, _, rfl, .inl (SqL.of hx), _, rfl, _, _, rfl, rfl, _, rfl, ?_⟩
          by_cases h1 : (((ds.map V.int).length : Nat) : Int) < (m : Int)
          · rw [decide_eq_true h1]
            refine iteT ?_
            refine ⟨_, rfl, .inl ⟨rfl, _, SqL.of hx⟩, _, rfl, .inl ⟨_, rfl, _, _, rfl, rfl, by show (0 : Int) < 1000; decide, l, _, _, rfl, rfl, hx, sizeLine_small (by omega), ?_⟩⟩
            refine ⟨_, rfl, _, _, rfl, rfl, ⟨by decide, by decide⟩, s1.wr hl, ds ++ [c % 1000], _, _, _, rfl, ?_, ?_⟩
            · rw [upd_same, List.map_append]
              rfl
            · rw [List.length_map] at h1
              rw [List.length_append]
              show ds.length + 1 ≤ m
              omega
          · rw [decide_eq_false h1]
            exact iteF ⟨s1, ds, c, _, _, rfl, hx, hlen⟩
        · rw [decide_eq_false h0]
          exact iteF (iteF ⟨s1, ds, c, _, _, rfl, hx, hlen⟩)
      · rintro σ H3 ⟨s1, ds, c, b, e, rfl, hx, hlen⟩
        exact hrest _ _ ⟨s1, ds, _, _, _, rfl, hx, by omega⟩
    · rw [decide_eq_false h]
      refine iteF ?_
      have cm : ∀ i : Int, CMul i 48271 := fun i => .inr ⟨by decide, by decide⟩
      refine ⟨_, rfl, _, _, rfl, rfl, .inr ⟨by decide, by decide⟩, _, rfl, _, _, rfl, rfl, .inr ⟨by decide, by decide⟩, _, _, rfl, rfl, _, _, rfl, rfl, .inl ⟨_, rfl, _, _, rfl, rfl, by show (0 : Int) < 2147483647; decide, ?_⟩⟩
      refine ⟨_, rfl, (m : Int), rfl, by omega, by omega, ?_⟩
      rw [show ((m : Nat) : Int).toNat = m from rfl]
      refine for_range (lo := 0) (n := m) (fun i σ H' => Same H H' ∧ ∃ (ds : List Int) (c : Option V) (b : Option V) (z : Int), σ = [c, some (.int k), some (.int (m : Int)), some (.ref l), b, some (.int z)] ∧ H' l = some (.lst (ds.map V.int)) ∧ ds.length ≤ i)
        ⟨s0, [], _, none, _, rfl, hx0, Nat.zero_le _⟩ ?_ ?_
      · rintro i σ H3 hi ⟨s1, ds, c, b, z, rfl, hx, hlen⟩
        refine ⟨_, rfl, _, _, rfl, rfl, .inr ⟨by decide, by decide⟩, _, rfl, _, _, rfl, rfl, .inl ⟨by decide, by decide⟩, _, _, rfl, rfl, _, _, rfl, rfl, .inl ⟨_, rfl, _, _, rfl, rfl, by show (0 : Int) < 2147483647; decide, ?_⟩⟩
        refine ⟨_, rfl, .inl ⟨rfl, _, SqL.of hx⟩, _, rfl, _, _, rfl, rfl, ⟨by decide, by decide⟩, .inl ⟨_, rfl, _, _, rfl, rfl, by show (0 : Int) < 1000; decide, l, _, _, rfl, rfl, hx, sizeLine_small (by rw [List.length_map]; omega), ?_⟩⟩
        refine ⟨s1.wr hl, ds ++ [(z * 16807 + 7 * (0 + (i : Int)) + 1) % 2147483647 / 997 % 1000], _, _, _, rfl, ?_, ?_⟩
        · rw [upd_same, List.map_append]
          rfl
        · rw [List.length_append]
          show ds.length + 1 ≤ _
          omega
      · rintro σ H3 ⟨s1, ds, c, b, z, rfl, hx, hlen⟩
        exact hrest _ _ ⟨s1, ds, _, _, _, rfl, hx, by omega⟩

/-- _law_padded: 0 _law_cell_here, 1 _law_k, 2 _law_d, 3 _law_turn -/
abbrev s_law_padded : Stmt := top 86
theorem sc_law_padded : FnScope ["_law_cell_here", "_law_k", "_law_d", "_law_turn"] ["_law_cell_here", "_law_k"] (defScope s_law_padded) := ⟨rfl, rfl, rfl, by decide +kernel, rfl, by decide +kernel, by decide +kernel⟩
def spPad (K : PySem.W.Frag) : L2.Sp := fun vs H Q _ => ∃ c : Int, ∃ k : Nat, vs = [.int c, .int (k : Int)] ∧ ∀ (ds : List Int) H' l, 20 ≤ ds.length → Same H H' → H l = none → H' l = some (.lst (ds.map V.int)) → Q (.ref l) H'
theorem ok_law_padded (T : Txt w K mg C) : Cal P w K mg base 2 "_law_padded" ["_law_cell_here", "_law_k"] (spPad K) := by
  refine T.d_law_padded.ok sc_law_padded (fun vs H Q E h => ?_) (fun f cdv A outer s H vs Q E hr h => ?_)
  · obtain ⟨_, _, rfl, _⟩ := h
    rfl
  · obtain ⟨c, k, rfl, kk⟩ := h
    refine ⟨_, (pss_cons (ps_set (i := 2) sc_law_padded.nd rfl (Or.inl rfl) (pe_own (ok_law_digits T) (hr.mono (by decide)) rfl (pa_cons (pv 0) (pa_cons (pv 1) (pa_cons pe_int pa_nil)))))
        (pss_cons (ps_for PassesOwn.never rfl (pi_range1 rfl T.range (pa_cons pe_int pa_nil)) (pg_name (i := 3) sc_law_padded.nd rfl (Or.inl rfl))
          (pss_one (ps_expr (pe_bm PySem.F.plainAttrs_list PySem.F.slot_list_append PySem.F.type_list_append mt_append (pv 2) (pa_cons (pv 3) pa_nil)))))
        (pss_one (ps_ret (pv 2))))), ?_⟩
    refine ⟨_, rfl, _, rfl, c, (k : Int), 20, rfl, Nat.le_refl _, fun ds H1 l hd s1 hl hx => ?_⟩
    refine ⟨20, rfl, by decide, by decide, ?_⟩
    refine for_range (lo := 0) (n := 20) (fun i σ H' => Same H H' ∧ ∃ (es : List Int) (b : Option V), σ = [some (.int c), some (.int (k : Int)), some (.ref l), b] ∧ H' l = some (.lst ((ds ++ es).map V.int)) ∧ es.length = i)
      ⟨s1, [], none, rfl, by rw [List.append_nil]; exact hx, rfl⟩ ?_ ?_
    · rintro i σ H2 hi ⟨s2, es, b, rfl, hx2, hl2⟩
      refine ⟨_, rfl, .inl ⟨rfl, _, SqL.of hx2⟩, _, rfl, l, _, _, rfl, rfl, hx2, sizeLine_small (by rw [List.length_map, List.length_append]; omega), s2.wr hl, es ++ [(0 : Int) + (i : Int)], _, rfl, ?_, ?_⟩
      · rw [upd_same, ← List.append_assoc, List.map_append (l₁ := ds ++ es)]
        rfl
      · rw [List.length_append, hl2]
        rfl
    · rintro σ H2 ⟨s2, es, b, rfl, hx2, hl2⟩
      exact ⟨_, rfl, kk (ds ++ es) _ _ (by rw [List.length_append]; omega) s2 hl hx2⟩
end
end Ev

-- part EvW20
set_option maxHeartbeats 400000
set_option Elab.async false
set_option linter.all false
set_option maxRecDepth 100000
set_option maxHeartbeats 4000000
/-! The walks: the programs that are drawn. -/
namespace Ev
open PySem L2
/-! ### displays of data, told without their heaps -/
section
variable {K : PySem.W.Frag} {H0 : Hp} {σ : L2.St}
def KE (K : PySem.W.Frag) (H0 : Hp) (σ : L2.St) (te : TE) (d : D) : Prop := ∀ H Q, Same H0 H → (∀ v H', Same H H' → Rp K H' v d → Q v H') → te σ H Q
def KA (K : PySem.W.Frag) (H0 : Hp) (σ : L2.St) (ta : TA) (ds : List D) : Prop := ∀ H Q, Same H0 H → (∀ vs H', Same H H' → RpAll K H' vs ds → Q vs H') → ta σ H Q
theorem KA.nil : KA K H0 σ tNil [] := fun H Q _ k => k [] H (Same.refl _) .nil
theorem KA.cons {te : TE} {ta : TA} {d : D} {ds : List D} (h : KE K H0 σ te d) (t : KA K H0 σ ta ds) : KA K H0 σ (tCons te ta) (d :: ds) := fun H Q s k => h H _ s fun v H1 s1 r => t H1 _ (s.trans s1) fun vs H2 s2 rs => k (v :: vs) H2 (s1.trans s2) (.cons (r.sm s2) rs)
theorem KE.str {x : Str} : KE K H0 σ (tC (.str x)) (.str x) := fun H Q _ k => k _ H (Same.refl _) (.str x)
theorem KE.int {x : Int} : KE K H0 σ (tC (.int x)) (.int x) := fun H Q _ k => k _ H (Same.refl _) (.int x)
theorem KE.tup {ta : TA} {ds : List D} (h : KA K H0 σ ta ds) (hl : ds.length < 1000) : KE K H0 σ (tTupN K ta) (.tuple ds) := fun H Q s k => h H _ s fun vs H1 s1 rs => ⟨ds, rs, hl, fun v H2 s2 r => k v H2 (s1.trans s2) r⟩
theorem KE.var {i : Nat} {v : V} {d : D} (h : σ[i]? = some (some v)) (r : Rp K H0 v d) : KE K H0 σ (tVar i) d := fun H Q s k => ⟨v, h, k v H (Same.refl _) (r.sm s)⟩
theorem KE.add {i : Nat} {a b : Int} (h : σ[i]? = some (some (.int a))) : KE K H0 σ (tOp (rI0 fun i j => .int (i + j)) (tVar i) (tC (.int b))) (.int (a + b)) := fun H Q s k => ⟨_, h, _, _, rfl, rfl, k _ H (Same.refl _) (.int _)⟩
/-- lists of data, and lists of those -/
def LAt (K : PySem.W.Frag) (H : Hp) (v : V) (ds : List D) : Prop := ∃ l xs, v = .ref l ∧ H l = some (.lst xs) ∧ RpAll K H xs ds
theorem LAt.sm {H H' : Hp} {v : V} {ds : List D} (h : LAt K H v ds) (s : Same H H') : LAt K H' v ds := by
  obtain ⟨l, xs, e, h1, h2⟩ := h
  exact ⟨l, xs, e, s _ _ h1, h2.sm s⟩
def KL (K : PySem.W.Frag) (H0 : Hp) (σ : L2.St) (te : TE) (ds : List D) : Prop := ∀ H Q, Same H0 H → (∀ v H', Same H H' → LAt K H' v ds → Q v H') → te σ H Q
def KLs (K : PySem.W.Frag) (H0 : Hp) (σ : L2.St) (ta : TA) (dss : List (List D)) : Prop := ∀ H Q, Same H0 H → (∀ vs H', Same H H' → Paired (LAt K H') vs dss → Q vs H') → ta σ H Q
theorem KL.lst {ta : TA} {ds : List D} (h : KA K H0 σ ta ds) (hl : ds.length < 1000) : KL K H0 σ (tLst ta) ds := fun H Q s k => h H _ s fun vs H1 s1 rs => ⟨Nat.le_of_lt (sizeLine_small (by rw [rs.length]; omega)), fun p hp => k _ _ (s1.new hp) ⟨p, vs, rfl, upd_same, rs.tle (Tle.new hp)⟩⟩
theorem KLs.nil : KLs K H0 σ tNil [] := fun H Q _ k => k [] H (Same.refl _) .nil
theorem KLs.cons {te : TE} {ta : TA} {d : List D} {ds : List (List D)} (h : KL K H0 σ te d) (t : KLs K H0 σ ta ds) : KLs K H0 σ (tCons te ta) (d :: ds) := fun H Q s k => h H _ s fun v H1 s1 r => t H1 _ (s.trans s1) fun vs H2 s2 rs => k (v :: vs) H2 (s1.trans s2) (.cons (r.sm s2) rs)
end
def pieces (pc : Nat) : List (List In) := [[.get .a .x, .put .x .inc], [.add .x (.num 1)], [.put .x (.num 2)], [.get .b .y], [.lock .m, .add .y (.num 1), .unlock .m], [.lock .m, .lock .n], [.lock .n, .lock .m],
  [.lock .m, .wait, .unlock .m], [.notify], [.lock .m, .notifyall, .unlock .m], [.send (.num 3)], [.take], [.get .a .x, .check .less], [.beg, .get .a .x, .put .y .inc, .fin], [.unlock .m], [.add .y (.num 99)], [.lett .inc],
  [.go (pc + 2) .ra, .put .y .inc], [.beg, .add .x (.num 1), .add .y (.num 1), .fin], [.put .y .ra]]
section
variable {P : Program} {w : World} {K : PySem.W.Frag} {mg : Str → Option Value} {base : Heap} {C : Addr}
/-- _law_things:  -/
abbrev s_law_things : Stmt := top 87
theorem sc_law_things : FnScope [] [] (defScope s_law_things) := ⟨rfl, rfl, rfl, by decide +kernel, rfl, by decide +kernel, by decide +kernel⟩
theorem ok_law_things (T : Txt w K mg C) : Cal P w K mg base 1 "_law_things" [] (spR K fun ds d => ds = [] ∧ d = .tuple things) := by
  refine T.d_law_things.ok sc_law_things (fun vs H Q E h => ?_) (fun f cdv A outer s H vs Q E hr h => ?_)
  · obtain ⟨_, _, hd, ⟨rfl, _⟩, _⟩ := h
    exact hd.length
  · obtain ⟨ds, d, hd, ⟨rfl, rfl⟩, k⟩ := h
    refine ⟨_, (pss_one (ps_ret (pe_tupN (pa_cons (pe_tupN (pa_cons pe_str (pa_cons pe_str pa_nil))) (pa_cons (pe_tupN (pa_cons pe_str (pa_cons pe_str (pa_cons pe_int pa_nil)))) (pa_cons (pe_tupN (pa_cons pe_str (pa_cons pe_str (pa_cons pe_str pa_nil)))) (pa_cons (pe_tupN (pa_cons pe_str (pa_cons pe_str (pa_cons pe_int pa_nil)))) (pa_cons (pe_tupN (pa_cons pe_str (pa_cons pe_str (pa_cons pe_int pa_nil)))) (pa_cons (pe_tupN (pa_cons pe_str (pa_cons pe_str pa_nil))) pa_nil))))))))), ?_⟩
    cases hd
    have key : KE K H (L2.start [] []) _ (.tuple things) := KE.tup (KA.cons (KE.tup (KA.cons KE.str (KA.cons KE.str KA.nil)) (by decide)) (KA.cons (KE.tup (KA.cons KE.str (KA.cons KE.str (KA.cons KE.int KA.nil))) (by decide)) (KA.cons (KE.tup (KA.cons KE.str (KA.cons KE.str (KA.cons KE.str KA.nil))) (by decide)) (KA.cons (KE.tup (KA.cons KE.str (KA.cons KE.str (KA.cons KE.int KA.nil))) (by decide)) (KA.cons (KE.tup (KA.cons KE.str (KA.cons KE.str (KA.cons KE.int KA.nil))) (by decide)) (KA.cons (KE.tup (KA.cons KE.str (KA.cons KE.str KA.nil)) (by decide)) KA.nil)))))) (by decide)
    exact key H _ (Same.refl _) fun v H' s r => k H' v s r

def incT (K : PySem.W.Frag) : TE := tTupN K (tCons (tC (.str "op")) (tCons (tC (.str "+")) (tCons (tTupN K (tCons (tC (.str "reg")) (tCons (tC (.str "a")) tNil))) (tCons (tTupN K (tCons (tC (.str "num")) (tCons (tC (.int 1)) tNil))) tNil))))
theorem inc_key {H0 : Hp} {σ : L2.St} : KE K H0 σ (incT K) (.tuple [.str "op", .str "+", .tuple [.str "reg", .str "a"], .tuple [.str "num", .int 1]]) := KE.tup (KA.cons KE.str (KA.cons KE.str (KA.cons (KE.tup (KA.cons KE.str (KA.cons KE.str KA.nil)) (Nat.le_of_ble_eq_true rfl)) (KA.cons (KE.tup (KA.cons KE.str (KA.cons KE.int KA.nil)) (Nat.le_of_ble_eq_true rfl)) KA.nil)))) (Nat.le_of_ble_eq_true rfl)
def lessT (K : PySem.W.Frag) : TE := tTupN K (tCons (tC (.str "op")) (tCons (tC (.str "<")) (tCons (tTupN K (tCons (tC (.str "reg")) (tCons (tC (.str "a")) tNil))) (tCons (tTupN K (tCons (tC (.str "num")) (tCons (tC (.int 2)) tNil))) tNil))))
theorem less_key {H0 : Hp} {σ : L2.St} : KE K H0 σ (lessT K) (.tuple [.str "op", .str "<", .tuple [.str "reg", .str "a"], .tuple [.str "num", .int 2]]) := KE.tup (KA.cons KE.str (KA.cons KE.str (KA.cons (KE.tup (KA.cons KE.str (KA.cons KE.str KA.nil)) (Nat.le_of_ble_eq_true rfl)) (KA.cons (KE.tup (KA.cons KE.str (KA.cons KE.int KA.nil)) (Nat.le_of_ble_eq_true rfl)) KA.nil)))) (Nat.le_of_ble_eq_true rfl)
def pieceD (pc : Nat) : List (List D) := [[.tuple [.str "get", .str "a", .str "x"], .tuple [.str "put", .str "x", eTr .inc]], [.tuple [.str "add", .str "x", .tuple [.str "num", .int 1]]], [.tuple [.str "put", .str "x", .tuple [.str "num", .int 2]]], [.tuple [.str "get", .str "b", .str "y"]], [.tuple [.str "lock", .str "m"], .tuple [.str "add", .str "y", .tuple [.str "num", .int 1]], .tuple [.str "unlock", .str "m"]], [.tuple [.str "lock", .str "m"], .tuple [.str "lock", .str "n"]], [.tuple [.str "lock", .str "n"], .tuple [.str "lock", .str "m"]], [.tuple [.str "lock", .str "m"], .tuple [.str "wait", .str "w"], .tuple [.str "unlock", .str "m"]], [.tuple [.str "notify", .str "w"]], [.tuple [.str "lock", .str "m"], .tuple [.str "notifyall", .str "w"], .tuple [.str "unlock", .str "m"]], [.tuple [.str "send", .str "q", .tuple [.str "num", .int 3]]], [.tuple [.str "take", .str "a", .str "q"]], [.tuple [.str "get", .str "a", .str "x"], .tuple [.str "check", eTr .less]], [.tuple [.str "begin"], .tuple [.str "get", .str "a", .str "x"], .tuple [.str "put", .str "y", eTr .inc], .tuple [.str "end"]], [.tuple [.str "unlock", .str "m"]], [.tuple [.str "add", .str "y", .tuple [.str "num", .int 99]]], [.tuple [.str "let", .str "a", eTr .inc]], [.tuple [.str "go", .int ((pc : Int) + 2), .tuple [.str "reg", .str "a"]], .tuple [.str "put", .str "y", eTr .inc]], [.tuple [.str "begin"], .tuple [.str "add", .str "x", .tuple [.str "num", .int 1]], .tuple [.str "add", .str "y", .tuple [.str "num", .int 1]], .tuple [.str "end"]], [.tuple [.str "put", .str "y", .tuple [.str "reg", .str "a"]]]]
theorem pieceD_eq (pc : Nat) : pieceD pc = (pieces pc).map fun c => c.map eIn := by
  simp only [pieces, pieceD, List.map_cons, List.map_nil]
  rfl
def pieceT (K : PySem.W.Frag) (t2 t3 tp : TE) : TA := (tCons (tLst (tCons (tTupN K (tCons (tC (.str "get")) (tCons (tC (.str "a")) (tCons (tC (.str "x")) tNil)))) (tCons (tTupN K (tCons (tC (.str "put")) (tCons (tC (.str "x")) (tCons t2 tNil)))) tNil))) (tCons (tLst (tCons (tTupN K (tCons (tC (.str "add")) (tCons (tC (.str "x")) (tCons (tTupN K (tCons (tC (.str "num")) (tCons (tC (.int 1)) tNil))) tNil)))) tNil)) (tCons (tLst (tCons (tTupN K (tCons (tC (.str "put")) (tCons (tC (.str "x")) (tCons (tTupN K (tCons (tC (.str "num")) (tCons (tC (.int 2)) tNil))) tNil)))) tNil)) (tCons (tLst (tCons (tTupN K (tCons (tC (.str "get")) (tCons (tC (.str "b")) (tCons (tC (.str "y")) tNil)))) tNil)) (tCons (tLst (tCons (tTupN K (tCons (tC (.str "lock")) (tCons (tC (.str "m")) tNil))) (tCons (tTupN K (tCons (tC (.str "add")) (tCons (tC (.str "y")) (tCons (tTupN K (tCons (tC (.str "num")) (tCons (tC (.int 1)) tNil))) tNil)))) (tCons (tTupN K (tCons (tC (.str "unlock")) (tCons (tC (.str "m")) tNil))) tNil)))) (tCons (tLst (tCons (tTupN K (tCons (tC (.str "lock")) (tCons (tC (.str "m")) tNil))) (tCons (tTupN K (tCons (tC (.str "lock")) (tCons (tC (.str "n")) tNil))) tNil))) (tCons (tLst (tCons (tTupN K (tCons (tC (.str "lock")) (tCons (tC (.str "n")) tNil))) (tCons (tTupN K (tCons (tC (.str "lock")) (tCons (tC (.str "m")) tNil))) tNil))) (tCons (tLst (tCons (tTupN K (tCons (tC (.str "lock")) (tCons (tC (.str "m")) tNil))) (tCons (tTupN K (tCons (tC (.str "wait")) (tCons (tC (.str "w")) tNil))) (tCons (tTupN K (tCons (tC (.str "unlock")) (tCons (tC (.str "m")) tNil))) tNil)))) (tCons (tLst (tCons (tTupN K (tCons (tC (.str "notify")) (tCons (tC (.str "w")) tNil))) tNil)) (tCons (tLst (tCons (tTupN K (tCons (tC (.str "lock")) (tCons (tC (.str "m")) tNil))) (tCons (tTupN K (tCons (tC (.str "notifyall")) (tCons (tC (.str "w")) tNil))) (tCons (tTupN K (tCons (tC (.str "unlock")) (tCons (tC (.str "m")) tNil))) tNil)))) (tCons (tLst (tCons (tTupN K (tCons (tC (.str "send")) (tCons (tC (.str "q")) (tCons (tTupN K (tCons (tC (.str "num")) (tCons (tC (.int 3)) tNil))) tNil)))) tNil)) (tCons (tLst (tCons (tTupN K (tCons (tC (.str "take")) (tCons (tC (.str "a")) (tCons (tC (.str "q")) tNil)))) tNil)) (tCons (tLst (tCons (tTupN K (tCons (tC (.str "get")) (tCons (tC (.str "a")) (tCons (tC (.str "x")) tNil)))) (tCons (tTupN K (tCons (tC (.str "check")) (tCons t3 tNil))) tNil))) (tCons (tLst (tCons (tTupN K (tCons (tC (.str "begin")) tNil)) (tCons (tTupN K (tCons (tC (.str "get")) (tCons (tC (.str "a")) (tCons (tC (.str "x")) tNil)))) (tCons (tTupN K (tCons (tC (.str "put")) (tCons (tC (.str "y")) (tCons t2 tNil)))) (tCons (tTupN K (tCons (tC (.str "end")) tNil)) tNil))))) (tCons (tLst (tCons (tTupN K (tCons (tC (.str "unlock")) (tCons (tC (.str "m")) tNil))) tNil)) (tCons (tLst (tCons (tTupN K (tCons (tC (.str "add")) (tCons (tC (.str "y")) (tCons (tTupN K (tCons (tC (.str "num")) (tCons (tC (.int 99)) tNil))) tNil)))) tNil)) (tCons (tLst (tCons (tTupN K (tCons (tC (.str "let")) (tCons (tC (.str "a")) (tCons t2 tNil)))) tNil)) (tCons (tLst (tCons (tTupN K (tCons (tC (.str "go")) (tCons tp (tCons (tTupN K (tCons (tC (.str "reg")) (tCons (tC (.str "a")) tNil))) tNil)))) (tCons (tTupN K (tCons (tC (.str "put")) (tCons (tC (.str "y")) (tCons t2 tNil)))) tNil))) (tCons (tLst (tCons (tTupN K (tCons (tC (.str "begin")) tNil)) (tCons (tTupN K (tCons (tC (.str "add")) (tCons (tC (.str "x")) (tCons (tTupN K (tCons (tC (.str "num")) (tCons (tC (.int 1)) tNil))) tNil)))) (tCons (tTupN K (tCons (tC (.str "add")) (tCons (tC (.str "y")) (tCons (tTupN K (tCons (tC (.str "num")) (tCons (tC (.int 1)) tNil))) tNil)))) (tCons (tTupN K (tCons (tC (.str "end")) tNil)) tNil))))) (tCons (tLst (tCons (tTupN K (tCons (tC (.str "put")) (tCons (tC (.str "y")) (tCons (tTupN K (tCons (tC (.str "reg")) (tCons (tC (.str "a")) tNil))) tNil)))) tNil)) tNil))))))))))))))))))))
theorem piece_key {H0 : Hp} {σ : L2.St} {pc : Nat} {t2 t3 tp : TE} (ka : KE K H0 σ t2 (eTr .inc)) (kl : KE K H0 σ t3 (eTr .less)) (kp : KE K H0 σ tp (.int ((pc : Int) + 2))) : KLs K H0 σ (pieceT K t2 t3 tp) (pieceD pc) := (KLs.cons (KL.lst (KA.cons (KE.tup (KA.cons KE.str (KA.cons KE.str (KA.cons KE.str KA.nil))) (Nat.le_of_ble_eq_true rfl)) (KA.cons (KE.tup (KA.cons KE.str (KA.cons KE.str (KA.cons ka KA.nil))) (Nat.le_of_ble_eq_true rfl)) KA.nil)) (Nat.le_of_ble_eq_true rfl)) (KLs.cons (KL.lst (KA.cons (KE.tup (KA.cons KE.str (KA.cons KE.str (KA.cons (KE.tup (KA.cons KE.str (KA.cons KE.int KA.nil)) (Nat.le_of_ble_eq_true rfl)) KA.nil))) (Nat.le_of_ble_eq_true rfl)) KA.nil) (Nat.le_of_ble_eq_true rfl)) (KLs.cons (KL.lst (KA.cons (KE.tup (KA.cons KE.str (KA.cons KE.str (KA.cons (KE.tup (KA.cons KE.str (KA.cons KE.int KA.nil)) (Nat.le_of_ble_eq_true rfl)) KA.nil))) (Nat.le_of_ble_eq_true rfl)) KA.nil) (Nat.le_of_ble_eq_true rfl)) (KLs.cons (KL.lst (KA.cons (KE.tup (KA.cons KE.str (KA.cons KE.str (KA.cons KE.str KA.nil))) (Nat.le_of_ble_eq_true rfl)) KA.nil) (Nat.le_of_ble_eq_true rfl)) (KLs.cons (KL.lst (KA.cons (KE.tup (KA.cons KE.str (KA.cons KE.str KA.nil)) (Nat.le_of_ble_eq_true rfl)) (KA.cons (KE.tup (KA.cons KE.str (KA.cons KE.str (KA.cons (KE.tup (KA.cons KE.str (KA.cons KE.int KA.nil)) (Nat.le_of_ble_eq_true rfl)) KA.nil))) (Nat.le_of_ble_eq_true rfl)) (KA.cons (KE.tup (KA.cons KE.str (KA.cons KE.str KA.nil)) (Nat.le_of_ble_eq_true rfl)) KA.nil))) (Nat.le_of_ble_eq_true rfl)) (KLs.cons (KL.lst (KA.cons (KE.tup (KA.cons KE.str (KA.cons KE.str KA.nil)) (Nat.le_of_ble_eq_true rfl)) (KA.cons (KE.tup (KA.cons KE.str (KA.cons KE.str KA.nil)) (Nat.le_of_ble_eq_true rfl)) KA.nil)) (Nat.le_of_ble_eq_true rfl)) (KLs.cons (KL.lst (KA.cons (KE.tup (KA.cons KE.str (KA.cons KE.str KA.nil)) (Nat.le_of_ble_eq_true rfl)) (KA.cons (KE.tup (KA.cons KE.str (KA.cons KE.str KA.nil)) (Nat.le_of_ble_eq_true rfl)) KA.nil)) (Nat.le_of_ble_eq_true rfl)) (KLs.cons (KL.lst (KA.cons (KE.tup (KA.cons KE.str (KA.cons KE.str KA.nil)) (Nat.le_of_ble_eq_true rfl)) (KA.cons (KE.tup (KA.cons KE.str (KA.cons KE.str KA.nil)) (Nat.le_of_ble_eq_true rfl)) (KA.cons (KE.tup (KA.cons KE.str (KA.cons KE.str KA.nil)) (Nat.le_of_ble_eq_true rfl)) KA.nil))) (Nat.le_of_ble_eq_true rfl)) (KLs.cons (KL.lst (KA.cons (KE.tup (KA.cons KE.str (KA.cons KE.str KA.nil)) (Nat.le_of_ble_eq_true rfl)) KA.nil) (Nat.le_of_ble_eq_true rfl)) (KLs.cons (KL.lst (KA.cons (KE.tup (KA.cons KE.str (KA.cons KE.str KA.nil)) (Nat.le_of_ble_eq_true rfl)) (KA.cons (KE.tup (KA.cons KE.str (KA.cons KE.str KA.nil)) (Nat.le_of_ble_eq_true rfl)) (KA.cons (KE.tup (KA.cons KE.str (KA.cons KE.str KA.nil)) (Nat.le_of_ble_eq_true rfl)) KA.nil))) (Nat.le_of_ble_eq_true rfl)) (KLs.cons (KL.lst (KA.cons (KE.tup (KA.cons KE.str (KA.cons KE.str (KA.cons (KE.tup (KA.cons KE.str (KA.cons KE.int KA.nil)) (Nat.le_of_ble_eq_true rfl)) KA.nil))) (Nat.le_of_ble_eq_true rfl)) KA.nil) (Nat.le_of_ble_eq_true rfl)) (KLs.cons (KL.lst (KA.cons (KE.tup (KA.cons KE.str (KA.cons KE.str (KA.cons KE.str KA.nil))) (Nat.le_of_ble_eq_true rfl)) KA.nil) (Nat.le_of_ble_eq_true rfl)) (KLs.cons (KL.lst (KA.cons (KE.tup (KA.cons KE.str (KA.cons KE.str (KA.cons KE.str KA.nil))) (Nat.le_of_ble_eq_true rfl)) (KA.cons (KE.tup (KA.cons KE.str (KA.cons kl KA.nil)) (Nat.le_of_ble_eq_true rfl)) KA.nil)) (Nat.le_of_ble_eq_true rfl)) (KLs.cons (KL.lst (KA.cons (KE.tup (KA.cons KE.str KA.nil) (Nat.le_of_ble_eq_true rfl)) (KA.cons (KE.tup (KA.cons KE.str (KA.cons KE.str (KA.cons KE.str KA.nil))) (Nat.le_of_ble_eq_true rfl)) (KA.cons (KE.tup (KA.cons KE.str (KA.cons KE.str (KA.cons ka KA.nil))) (Nat.le_of_ble_eq_true rfl)) (KA.cons (KE.tup (KA.cons KE.str KA.nil) (Nat.le_of_ble_eq_true rfl)) KA.nil)))) (Nat.le_of_ble_eq_true rfl)) (KLs.cons (KL.lst (KA.cons (KE.tup (KA.cons KE.str (KA.cons KE.str KA.nil)) (Nat.le_of_ble_eq_true rfl)) KA.nil) (Nat.le_of_ble_eq_true rfl)) (KLs.cons (KL.lst (KA.cons (KE.tup (KA.cons KE.str (KA.cons KE.str (KA.cons (KE.tup (KA.cons KE.str (KA.cons KE.int KA.nil)) (Nat.le_of_ble_eq_true rfl)) KA.nil))) (Nat.le_of_ble_eq_true rfl)) KA.nil) (Nat.le_of_ble_eq_true rfl)) (KLs.cons (KL.lst (KA.cons (KE.tup (KA.cons KE.str (KA.cons KE.str (KA.cons ka KA.nil))) (Nat.le_of_ble_eq_true rfl)) KA.nil) (Nat.le_of_ble_eq_true rfl)) (KLs.cons (KL.lst (KA.cons (KE.tup (KA.cons KE.str (KA.cons kp (KA.cons (KE.tup (KA.cons KE.str (KA.cons KE.str KA.nil)) (Nat.le_of_ble_eq_true rfl)) KA.nil))) (Nat.le_of_ble_eq_true rfl)) (KA.cons (KE.tup (KA.cons KE.str (KA.cons KE.str (KA.cons ka KA.nil))) (Nat.le_of_ble_eq_true rfl)) KA.nil)) (Nat.le_of_ble_eq_true rfl)) (KLs.cons (KL.lst (KA.cons (KE.tup (KA.cons KE.str KA.nil) (Nat.le_of_ble_eq_true rfl)) (KA.cons (KE.tup (KA.cons KE.str (KA.cons KE.str (KA.cons (KE.tup (KA.cons KE.str (KA.cons KE.int KA.nil)) (Nat.le_of_ble_eq_true rfl)) KA.nil))) (Nat.le_of_ble_eq_true rfl)) (KA.cons (KE.tup (KA.cons KE.str (KA.cons KE.str (KA.cons (KE.tup (KA.cons KE.str (KA.cons KE.int KA.nil)) (Nat.le_of_ble_eq_true rfl)) KA.nil))) (Nat.le_of_ble_eq_true rfl)) (KA.cons (KE.tup (KA.cons KE.str KA.nil) (Nat.le_of_ble_eq_true rfl)) KA.nil)))) (Nat.le_of_ble_eq_true rfl)) (KLs.cons (KL.lst (KA.cons (KE.tup (KA.cons KE.str (KA.cons KE.str (KA.cons (KE.tup (KA.cons KE.str (KA.cons KE.str KA.nil)) (Nat.le_of_ble_eq_true rfl)) KA.nil))) (Nat.le_of_ble_eq_true rfl)) KA.nil) (Nat.le_of_ble_eq_true rfl)) KLs.nil))))))))))))))))))))
theorem piece_all {H : Hp} {Q : VK} {σ : L2.St} {pc : Nat} {t2 t3 tp : TE} (ka : KE K H σ t2 (eTr .inc)) (kl : KE K H σ t3 (eTr .less)) (kp : KE K H σ tp (.int ((pc : Int) + 2))) (k : ∀ p vs H', Same H H' → H' p = some (.lst vs) → Paired (LAt K H') vs ((pieces pc).map fun c => c.map eIn) → Q (.ref p) H') : tLst (pieceT K t2 t3 tp) σ H Q := by
  refine piece_key ka kl kp H _ (Same.refl _) fun vs H3 s3 hvs => ?_
  rw [pieceD_eq] at hvs
  have lv : vs.length = 20 := by rw [Paired.length hvs, List.length_map]; rfl
  refine ⟨by rw [lv]; exact Nat.le_of_lt (sizeLine_small (by decide)), fun p hp => ?_⟩
  have s4 := Same.new0 hp (o := .lst vs)
  exact k p vs _ (s3.trans s4) upd_same (Paired.mapP hvs fun _ _ r => r.sm s4)
/-- _law_piece: 0 _law_digit, 1 _law_pc, 2 _law_add, 3 _law_less, 4 _law_pieces -/
abbrev s_law_piece : Stmt := top 88
theorem sc_law_piece : FnScope ["_law_digit", "_law_pc", "_law_add", "_law_less", "_law_pieces"] ["_law_digit", "_law_pc"] (defScope s_law_piece) := ⟨rfl, rfl, rfl, by decide +kernel, rfl, by decide +kernel, by decide +kernel⟩
def spPiece (K : PySem.W.Frag) : L2.Sp := fun vs H Q _ => ∃ d : Int, ∃ pc : Nat, vs = [.int d, .int (pc : Int)] ∧ ∀ (c : List In) H' l xs, c ∈ pieces pc → Same H H' → H' l = some (.lst xs) → RpAll K H' xs (c.map eIn) → Q (.ref l) H'
theorem paired_get {α β : Type} {R : α → β → Prop} : ∀ {l : List α} {m : List β} {i : Nat}, Paired R l m → i < m.length → ∃ a b, l[i]? = some a ∧ m[i]? = some b ∧ R a b
  | _, _, _, .nil, h => absurd h (Nat.not_lt_zero _)
  | _, _, 0, .cons r _, _ => ⟨_, _, rfl, rfl, r⟩
  | _, _, i + 1, .cons _ t, h => by
    obtain ⟨a, b, h1, h2, h3⟩ := paired_get (i := i) t (Nat.lt_of_succ_lt_succ h)
    exact ⟨a, b, h1, h2, h3⟩
theorem ok_law_piece (T : Txt w K mg C) : Cal P w K mg base 1 "_law_piece" ["_law_digit", "_law_pc"] (spPiece K) := by
  refine T.d_law_piece.ok sc_law_piece (fun vs H Q E h => ?_) (fun f cdv A outer s H vs Q E hr h => ?_)
  · obtain ⟨_, _, rfl, _⟩ := h
    rfl
  · obtain ⟨dg, pc, rfl, kk⟩ := h
    refine ⟨_, (pss_cons (ps_set (i := 2) sc_law_piece.nd rfl (Or.inl rfl) (pe_tupN (pa_cons pe_str (pa_cons pe_str (pa_cons (pe_tupN (pa_cons pe_str (pa_cons pe_str pa_nil))) (pa_cons (pe_tupN (pa_cons pe_str (pa_cons pe_int pa_nil))) pa_nil))))))
        (pss_cons (ps_set (i := 3) sc_law_piece.nd rfl (Or.inl rfl) (pe_tupN (pa_cons pe_str (pa_cons pe_str (pa_cons (pe_tupN (pa_cons pe_str (pa_cons pe_str pa_nil))) (pa_cons (pe_tupN (pa_cons pe_str (pa_cons pe_int pa_nil))) pa_nil))))))
        (pss_cons (ps_set (i := 4) sc_law_piece.nd rfl (Or.inl rfl) (pe_lst (pa_cons (pe_lst (pa_cons (pe_tupN (pa_cons pe_str (pa_cons pe_str (pa_cons pe_str pa_nil)))) (pa_cons (pe_tupN (pa_cons pe_str (pa_cons pe_str (pa_cons (pv 2) pa_nil)))) pa_nil))) (pa_cons (pe_lst (pa_cons (pe_tupN (pa_cons pe_str (pa_cons pe_str (pa_cons (pe_tupN (pa_cons pe_str (pa_cons pe_int pa_nil))) pa_nil)))) pa_nil)) (pa_cons (pe_lst (pa_cons (pe_tupN (pa_cons pe_str (pa_cons pe_str (pa_cons (pe_tupN (pa_cons pe_str (pa_cons pe_int pa_nil))) pa_nil)))) pa_nil)) (pa_cons (pe_lst (pa_cons (pe_tupN (pa_cons pe_str (pa_cons pe_str (pa_cons pe_str pa_nil)))) pa_nil)) (pa_cons (pe_lst (pa_cons (pe_tupN (pa_cons pe_str (pa_cons pe_str pa_nil))) (pa_cons (pe_tupN (pa_cons pe_str (pa_cons pe_str (pa_cons (pe_tupN (pa_cons pe_str (pa_cons pe_int pa_nil))) pa_nil)))) (pa_cons (pe_tupN (pa_cons pe_str (pa_cons pe_str pa_nil))) pa_nil)))) (pa_cons (pe_lst (pa_cons (pe_tupN (pa_cons pe_str (pa_cons pe_str pa_nil))) (pa_cons (pe_tupN (pa_cons pe_str (pa_cons pe_str pa_nil))) pa_nil))) (pa_cons (pe_lst (pa_cons (pe_tupN (pa_cons pe_str (pa_cons pe_str pa_nil))) (pa_cons (pe_tupN (pa_cons pe_str (pa_cons pe_str pa_nil))) pa_nil))) (pa_cons (pe_lst (pa_cons (pe_tupN (pa_cons pe_str (pa_cons pe_str pa_nil))) (pa_cons (pe_tupN (pa_cons pe_str (pa_cons pe_str pa_nil))) (pa_cons (pe_tupN (pa_cons pe_str (pa_cons pe_str pa_nil))) pa_nil)))) (pa_cons (pe_lst (pa_cons (pe_tupN (pa_cons pe_str (pa_cons pe_str pa_nil))) pa_nil)) (pa_cons (pe_lst (pa_cons (pe_tupN (pa_cons pe_str (pa_cons pe_str pa_nil))) (pa_cons (pe_tupN (pa_cons pe_str (pa_cons pe_str pa_nil))) (pa_cons (pe_tupN (pa_cons pe_str (pa_cons pe_str pa_nil))) pa_nil)))) (pa_cons (pe_lst (pa_cons (pe_tupN (pa_cons pe_str (pa_cons pe_str (pa_cons (pe_tupN (pa_cons pe_str (pa_cons pe_int pa_nil))) pa_nil)))) pa_nil)) (pa_cons (pe_lst (pa_cons (pe_tupN (pa_cons pe_str (pa_cons pe_str (pa_cons pe_str pa_nil)))) pa_nil)) (pa_cons (pe_lst (pa_cons (pe_tupN (pa_cons pe_str (pa_cons pe_str (pa_cons pe_str pa_nil)))) (pa_cons (pe_tupN (pa_cons pe_str (pa_cons (pv 3) pa_nil))) pa_nil))) (pa_cons (pe_lst (pa_cons (pe_tupN (pa_cons pe_str pa_nil)) (pa_cons (pe_tupN (pa_cons pe_str (pa_cons pe_str (pa_cons pe_str pa_nil)))) (pa_cons (pe_tupN (pa_cons pe_str (pa_cons pe_str (pa_cons (pv 2) pa_nil)))) (pa_cons (pe_tupN (pa_cons pe_str pa_nil)) pa_nil))))) (pa_cons (pe_lst (pa_cons (pe_tupN (pa_cons pe_str (pa_cons pe_str pa_nil))) pa_nil)) (pa_cons (pe_lst (pa_cons (pe_tupN (pa_cons pe_str (pa_cons pe_str (pa_cons (pe_tupN (pa_cons pe_str (pa_cons pe_int pa_nil))) pa_nil)))) pa_nil)) (pa_cons (pe_lst (pa_cons (pe_tupN (pa_cons pe_str (pa_cons pe_str (pa_cons (pv 2) pa_nil)))) pa_nil)) (pa_cons (pe_lst (pa_cons (pe_tupN (pa_cons pe_str (pa_cons (pe_op op_add (pv 1) pe_int) (pa_cons (pe_tupN (pa_cons pe_str (pa_cons pe_str pa_nil))) pa_nil)))) (pa_cons (pe_tupN (pa_cons pe_str (pa_cons pe_str (pa_cons (pv 2) pa_nil)))) pa_nil))) (pa_cons (pe_lst (pa_cons (pe_tupN (pa_cons pe_str pa_nil)) (pa_cons (pe_tupN (pa_cons pe_str (pa_cons pe_str (pa_cons (pe_tupN (pa_cons pe_str (pa_cons pe_int pa_nil))) pa_nil)))) (pa_cons (pe_tupN (pa_cons pe_str (pa_cons pe_str (pa_cons (pe_tupN (pa_cons pe_str (pa_cons pe_int pa_nil))) pa_nil)))) (pa_cons (pe_tupN (pa_cons pe_str pa_nil)) pa_nil))))) (pa_cons (pe_lst (pa_cons (pe_tupN (pa_cons pe_str (pa_cons pe_str (pa_cons (pe_tupN (pa_cons pe_str (pa_cons pe_str pa_nil))) pa_nil)))) pa_nil)) pa_nil))))))))))))))))))))))
        (pss_one (ps_ret (pe_ix ix_list (pv 4) (pe_op op_mod (pe_callTy call_int1 (by rfl) T.int (by decide +kernel) (pa_cons (pv 0) pa_nil)) pe_int) (fun _ _ => rfl))))))), ?_⟩
    refine inc_key (K := K) (H0 := H) (σ := [some (.int dg), some (.int (pc : Int)), none, none, none]) H _ (Same.refl _) fun va H1 s1 hadd => ?_
    refine less_key (K := K) (H0 := H1) (σ := [some (.int dg), some (.int (pc : Int)), some va, none, none]) H1 _ (Same.refl _) fun vl H2 s2 hless => ?_
    have hadd := hadd.sm s2
    dsimp only [gName, tSeq, tAsg]
    refine piece_all (pc := pc) (K := K) (H := H2) (KE.var (i := 2) rfl hadd) (KE.var (i := 3) rfl hless) (KE.add (i := 1) rfl) fun p vs H3 s3 hp hvs => ?_
    refine ⟨_, rfl, _, rfl, .inl ⟨_, rfl, _, _, rfl, rfl, by show (0 : Int) < 20; decide, ?_⟩⟩
    have h0 : 0 ≤ dg % 20 := Int.emod_nonneg _ (by decide)
    have h1 : dg % 20 < 20 := Int.emod_lt_of_pos _ (by decide)
    obtain ⟨j, hj⟩ : ∃ j : Nat, dg % 20 = (j : Int) := ⟨(dg % 20).toNat, by omega⟩
    have hj2 : j < 20 := by omega
    obtain ⟨z, ds, hz, hds, l, xs, rfl, hl, hrs⟩ := paired_get (i := j) hvs (by rw [List.length_map]; exact hj2)
    rw [List.getElem?_map] at hds
    obtain ⟨c, hc, rfl⟩ := Option.map_eq_some_iff.mp hds
    exact ⟨p, vs, _, _, rfl, rfl, SqL.of hp, by rw [hj]; exact atI_nat hz, kk c _ l xs (List.mem_of_getElem? hc) ((s1.trans s2).trans s3) hl hrs⟩
end
end Ev

-- part EvW21
set_option maxHeartbeats 400000
set_option Elab.async false
set_option linter.all false
set_option maxRecDepth 100000
set_option maxHeartbeats 4000000
/-! The walks: the program that is drawn. -/
namespace Ev
open PySem L2
/-- code that is put together of pieces, of n instructions at most -/
inductive Bld (n : Nat) : List In → Prop
  | nil : Bld n []
  | app {c d : List In} (h : Bld n c) (hd : d ∈ pieces c.length) (hl : (c ++ d).length ≤ n) : Bld n (c ++ d)
def codeOf (c : List In) : List In := if c.length = 0 then [.get .a .x] else c
/-- the programs that are drawn for the sizes -/
def Drn : List Nat → Prog → Prop
  | [], [] => True
  | n :: ns, c :: p => (∃ b, Bld n b ∧ c = codeOf b) ∧ Drn ns p
  | _, _ => False
theorem Drn.snoc : ∀ {ns : List Nat} {p : Prog} {n : Nat} {b : List In}, Drn ns p → Bld n b → Drn (ns ++ [n]) (p ++ [codeOf b])
  | [], [], _, _, _, h => ⟨⟨_, h, rfl⟩, trivial⟩
  | [], _ :: _, _, _, h, _ => h.elim
  | _ :: _, [], _, _, h, _ => h.elim
  | _ :: _, _ :: _, _, _, ⟨h1, h2⟩, h => ⟨h1, Drn.snoc h2 h⟩
theorem Bld.len {n : Nat} {c : List In} (h : Bld n c) : c.length ≤ n := by
  cases h with
  | nil => exact Nat.zero_le _
  | app _ _ hl => exact hl
section
variable {P : Program} {w : World} {K : PySem.W.Frag} {mg : Str → Option Value} {base : Heap} {C : Addr}
/-- _law_program: 0 _law_script, 1 _law_sizes, 2 _law_found, 3 _law_k, 4 _law_d, 5 _law_code, 6 _law_j, 7 _law_piece_here -/
abbrev s_law_program : Stmt := top 89
theorem sc_law_program : FnScope ["_law_script", "_law_sizes", "_law_found", "_law_k", "_law_d", "_law_code", "_law_j", "_law_piece_here"] ["_law_script", "_law_sizes"] (defScope s_law_program) := ⟨rfl, rfl, rfl, by decide +kernel, rfl, by decide +kernel, by decide +kernel⟩
def spProg (K : PySem.W.Frag) : L2.Sp := fun vs H Q _ => ∃ a b, ∃ ns : List Int, ∃ sz : List Nat, vs = [.ref a, .ref b] ∧ SqL K H a (ns.map V.int) ∧ H b = some (.lst (sz.map fun n : Nat => V.int (n : Int))) ∧ sz.length ≤ 3 ∧ (∀ n ∈ sz, n ≤ 4) ∧ ∀ p H' v, Drn sz p → Same H H' → Rp K H' v (eProg p) → Q v H'
theorem ok_law_program (T : Txt w K mg C) : Cal P w K mg base 3 "_law_program" ["_law_script", "_law_sizes"] (spProg K) := by
  refine T.d_law_program.ok sc_law_program (fun vs H Q E h => ?_) (fun f cdv A outer s H vs Q E hr h => ?_)
  · obtain ⟨_, _, _, _, rfl, _⟩ := h
    rfl
  · obtain ⟨a, b, ns, sz, rfl, hq, hb, hsz, h4, k⟩ := h
    refine ⟨_, (pss_cons (ps_set (i := 2) sc_law_program.nd rfl (Or.inl rfl) (pe_lst pa_nil))
        (pss_cons (ps_for PassesOwn.never rfl (pi_range1 rfl T.range (pa_cons (pe_callB call_len_seq (by rfl) T.len PySem.boot_len (pa_cons (pv 1) pa_nil)) pa_nil)) (pg_name (i := 3) sc_law_program.nd rfl (Or.inl rfl))
          (pss_cons (ps_set (i := 4) sc_law_program.nd rfl (Or.inl rfl) (pe_own (ok_law_padded T) (hr.mono (by decide)) rfl (pa_cons (pe_own (ok_law_cell T) (hr.mono (by decide)) rfl (pa_cons (pv 0) (pa_cons (pv 3) pa_nil))) (pa_cons (pv 3) pa_nil))))
          (pss_cons (ps_set (i := 5) sc_law_program.nd rfl (Or.inl rfl) (pe_lst pa_nil))
          (pss_cons (ps_for PassesOwn.never rfl (pi_range1 rfl T.range (pa_cons pe_int pa_nil)) (pg_name (i := 6) sc_law_program.nd rfl (Or.inl rfl))
            (pss_cons (ps_set (i := 7) sc_law_program.nd rfl (Or.inl rfl) (pe_own (ok_law_piece T) (hr.mono (by decide)) rfl (pa_cons (pe_ix ix_LD (pv 4) (pv 6) (fun _ _ => rfl)) (pa_cons (pe_callB call_len_seq (by rfl) T.len PySem.boot_len (pa_cons (pv 5) pa_nil)) pa_nil))))
            (pss_one (ps_if (pt_cmpR op_le (pe_op op_add (pe_callB call_len_seq (by rfl) T.len PySem.boot_len (pa_cons (pv 5) pa_nil)) (pe_callB call_len_seq (by rfl) T.len PySem.boot_len (pa_cons (pv 7) pa_nil))) (pe_ix ix_list (pv 1) (pv 3) (fun _ _ => rfl)) (nomark _))
              (pss_one (ps_set (i := 5) sc_law_program.nd rfl (Or.inl rfl) (pe_op op_cat (pv 5) (pv 7))))
              pss_nil))))
          (pss_cons (ps_if (pt_cmpR op_eq (pe_callB call_len_seq (by rfl) T.len PySem.boot_len (pa_cons (pv 5) pa_nil)) pe_int (nomark _))
            (pss_one (ps_set (i := 5) sc_law_program.nd rfl (Or.inl rfl) (pe_lst (pa_cons (pe_tupN (pa_cons pe_str (pa_cons pe_str (pa_cons pe_str pa_nil)))) pa_nil))))
            pss_nil)
          (pss_one (ps_expr (pe_bm PySem.F.plainAttrs_list PySem.F.slot_list_append PySem.F.type_list_append mt_append (pv 2) (pa_cons (pe_callTy call_tuple_N (by rfl) T.tuple (by decide +kernel) (pa_cons (pv 5) pa_nil)) pa_nil)))))))))
        (pss_one (ps_ret (pe_tupN (pa_cons (pe_own0 (ok_law_things T) (hr.mono (by decide)) rfl) (pa_cons (pe_callTy call_tuple_N (by rfl) T.tuple (by decide +kernel) (pa_cons (pv 2) pa_nil)) pa_nil))))))), ?_⟩
    refine ⟨Nat.zero_le _, fun l hl => ?_⟩
    have s0 := Same.new0 hl (o := .lst [])
    refine ⟨_, rfl, b, _, rfl, .inl (SqL.of (s0 _ _ hb)), ?_⟩
    have el : (((sz.map fun n : Nat => V.int (n : Int)).length : Nat) : Int) = (sz.length : Int) := by rw [List.length_map]
    refine ⟨_, rfl, by rw [el]; omega, by rw [el]; omega, ?_⟩
    have en' : (((sz.map fun n : Nat => V.int (n : Int)).length : Nat) : Int).toNat = sz.length := by rw [el]; omega
    rw [en']
    have hx0 : upd H l (.lst []) l = some (.lst []) := upd_same
    generalize upd H l (.lst []) = H1 at s0 hx0
    refine for_range (lo := 0) (n := sz.length) (fun i σ H' => Same H H' ∧ ∃ (xs : List V) (p : Prog) (c1 c2 c3 c4 c5 : Option V), σ = [some (.ref a), some (.ref b), some (.ref l), c1, c2, c3, c4, c5] ∧ H' l = some (.lst xs) ∧ xs.length = i ∧ RpAll K H' xs (p.map eCode) ∧ Drn (sz.take i) p)
      ⟨s0, [], [], none, none, none, none, none, rfl, hx0, rfl, .nil, trivial⟩ ?_ ?_
    · rintro i σ H2 hi ⟨s1, xs, p, c1, c2, c3, c4, c5, rfl, hx, hxl, rx, dr⟩
      rw [show ((0 : Int) + (i : Int)) = (i : Int) by omega]
      obtain ⟨n, hn⟩ : ∃ n, sz[i]? = some n := ⟨_, List.getElem?_eq_getElem hi⟩
      have hn4 := h4 n (List.mem_of_getElem? hn)
      refine ⟨_, rfl, _, rfl, a, ns, i, rfl, s1.seq hq, fun z => ?_⟩
      refine ⟨_, rfl, z, i, rfl, fun ds H3 ld hd20 s2 hld hxd => ?_⟩
      refine ⟨Nat.zero_le _, fun lc hlc => ?_⟩
      have s3 := Same.new0 hlc (o := .lst [])
      have s13 := (s1.trans s2).trans s3
      have hx3 := s3 _ _ (s2 _ _ hx)
      have rx3 := (rx.sm s2).sm s3
      have hxd3 := s3 _ _ hxd
      have hc3 : upd H3 lc (.lst []) lc = some (.lst []) := upd_same
      generalize upd H3 lc (.lst []) = H4 at s3 s13 hx3 rx3 hxd3 hc3
      refine ⟨3, rfl, by decide, by decide, ?_⟩
      refine for_range (lo := 0) (n := 3) (fun j σ H' => Same H4 H' ∧ ∃ (lc : Addr) (ys : List V) (c : List In) (c5 c6 : Option V), σ = [some (.ref a), some (.ref b), some (.ref l), some (.int (i : Int)), some (.ref ld), some (.ref lc), c5, c6] ∧ H' lc = some (.lst ys) ∧ RpAll K H' ys (c.map eIn) ∧ Bld n c)
        ⟨Same.refl _, lc, [], [], _, _, rfl, hc3, .nil, .nil⟩ ?_ ?_
      · rintro j σ H5 hj ⟨s4, lc, ys, c, c5, c6, rfl, hc, ry, hbl⟩
        rw [show ((0 : Int) + (j : Int)) = (j : Int) by omega]
        have hjd : j < ds.length := by omega
        have hxd5 := s4 _ _ hxd3
        have hb5 := (s13.trans s4) _ _ hb
        have ly : ys.length = c.length := by rw [ry.length, List.length_map]
        refine ⟨_, rfl, _, rfl, ld, _, ds.map .int, _, _, rfl, rfl, SqL.of hxd5, RpAll.ofInt K _ ds, at_map (List.getElem?_eq_getElem hjd), fun u hu => ?_⟩
        cases hu.toInt
        refine ⟨_, rfl, lc, ys, rfl, .inl (SqL.of hc), ds[j], c.length, by rw [ly]; rfl, fun d H6 lp zs hd s5 hlp rz => ?_⟩
        have lz : zs.length = d.length := by rw [rz.length, List.length_map]
        have hc6 := s5 _ _ hc
        have hb6 := s5 _ _ hb5
        have eat : atI (sz.map fun n : Nat => V.int (n : Int)) (i : Int) = some (.int (n : Int)) := atI_nat (by rw [List.getElem?_map, hn]; rfl)
        refine ⟨_, rfl, lc, ys, rfl, .inl (SqL.of hc6), _, rfl, lp, zs, rfl, .inl (SqL.of hlp), _, _, rfl, rfl, _, rfl, _, rfl, b, _, _, _, rfl, rfl, SqL.of hb6, eat, _, _, rfl, rfl, _, rfl, ?_⟩
        by_cases hle : ((ys.length : Nat) : Int) + ((zs.length : Nat) : Int) ≤ (n : Int)
        · rw [decide_eq_true hle]
          refine iteT ?_
          refine ⟨_, rfl, _, rfl, lc, lp, ys, zs, rfl, rfl, hc6, hlp, Nat.le_of_lt (sizeLine_small (by omega)), fun q hq => ?_⟩
          refine ⟨(s4.trans s5).new hq, q, ys ++ zs, c ++ d, _, _, rfl, upd_same, ?_, .app hbl hd (by rw [List.length_append]; omega)⟩
          rw [List.map_append]
          exact ((ry.sm s5).app rz).tle (Tle.new hq)
        · rw [decide_eq_false hle]
          exact iteF ⟨s4.trans s5, lc, ys, c, _, _, rfl, hc6, ry.sm s5, hbl⟩
      · rintro σ H5 ⟨s4, lc, ys, c, c5, c6, rfl, hc, ry, hbl⟩
        have s14 := s13.trans s4
        have hx5 := s4 _ _ hx3
        have rx5 := rx3.sm s4
        have ly : ys.length = c.length := by rw [ry.length, List.length_map]
        refine ⟨_, rfl, lc, ys, rfl, .inl (SqL.of hc), rfl, _, rfl, ?_⟩
        have eb : decide (V.int ((ys.length : Nat) : Int) = V.int 0) = decide (c.length = 0) := decide_eq_decide.mpr ⟨fun q => by have := V.int.inj q; omega, fun q => by rw [ly, q]; rfl⟩
        rw [eb]
        by_cases h0 : c.length = 0
        · rw [decide_eq_true h0]
          refine iteT ?_
          refine ⟨_, .cons (.str _) (.cons (.str _) (.cons (.str _) .nil)), by show 3 < 1000; decide, fun v6 H6 s6 hv6 => ?_⟩
          refine ⟨by show 1 ≤ sizeLine; exact Nat.le_of_lt (sizeLine_small (by decide)), fun q hq => ?_⟩
          have sq := Same.new0 hq (o := .lst [v6])
          have s16 := (s14.trans s6).trans sq
          have hx6 := sq _ _ (s6 _ _ hx5)
          have rx6 := (rx5.sm s6).sm sq
          have hq6 : upd H6 q (.lst [v6]) q = some (.lst [v6]) := upd_same
          have rq6 : RpAll K (upd H6 q (.lst [v6])) [v6] (([.get .a .x] : List In).map eIn) := .cons (hv6.sm sq) .nil
          generalize upd H6 q (.lst [v6]) = H6' at sq s16 hx6 rx6 hq6 rq6
          refine ⟨_, rfl, .inl ⟨rfl, _, SqL.of hx6⟩, _, rfl, q, [v6], _, rfl, SqL.of hq6, rq6, fun v7 H7 s7 hv7 => ?_⟩
          have hx7 := s7 _ _ hx6
          refine ⟨l, xs, v7, rfl, rfl, hx7, sizeLine_small (by omega), ((s16).trans s7).wr hl, xs ++ [v7], p ++ [codeOf c], _, _, _, _, _, rfl, upd_same, by rw [List.length_append, hxl]; rfl, ?_, by rw [take_snoc hn]; exact dr.snoc hbl⟩
          rw [List.map_append]
          have ec : codeOf c = [.get .a .x] := if_pos h0
          rw [ec]
          exact ((rx6.sm s7).snoc hv7).tle (Tle.lst hx7)
        · rw [decide_eq_false h0]
          refine iteF ?_
          refine ⟨_, rfl, .inl ⟨rfl, _, SqL.of hx5⟩, _, rfl, lc, ys, _, rfl, SqL.of hc, ry, fun v7 H7 s7 hv7 => ?_⟩
          have hx7 := s7 _ _ hx5
          refine ⟨l, xs, v7, rfl, rfl, hx7, sizeLine_small (by omega), ((s14).trans s7).wr hl, xs ++ [v7], p ++ [codeOf c], _, _, _, _, _, rfl, upd_same, by rw [List.length_append, hxl]; rfl, ?_, by rw [take_snoc hn]; exact dr.snoc hbl⟩
          rw [List.map_append]
          have ec : codeOf c = c := if_neg h0
          rw [ec]
          exact ((rx5.sm s7).snoc hv7).tle (Tle.lst hx7)
    · rintro σ H2 ⟨s1, xs, p, c1, c2, c3, c4, c5, rfl, hx, hxl, rx, dr⟩
      rw [List.take_length] at dr
      refine ⟨_, _, .nil, ⟨rfl, rfl⟩, fun H3 v3 s3 hv3 => ?_⟩
      refine ⟨_, rfl, l, xs, _, rfl, SqL.of (s3 _ _ hx), rx.sm s3, fun v4 H4 s4 hv4 => ?_⟩
      exact ⟨_, .cons (hv3.sm s4) (.cons hv4 .nil), by show 2 < 1000; decide, fun v5 H5 s5 hv5 => k p _ _ dr (((s1.trans s3).trans s4).trans s5) hv5⟩
end
end Ev

-- part EvW22
set_option maxHeartbeats 400000
set_option Elab.async false
set_option linter.all false
set_option maxRecDepth 100000
set_option maxHeartbeats 4000000
/-! The walks: the program that is drawn is as the search wants it. -/
namespace Ev
open PySem L2
/-- code that is good from the place o on -/
def Good (o : Nat) (d : List In) : Prop := (∀ q k e, d[q]? = some (.go k e) → o + q < k ∧ k ≤ o + d.length) ∧ ∀ i ∈ d, ∀ e, i.tree = some e → TrOk e
theorem piece_good (o : Nat) : ∀ d ∈ pieces o, Good o d ∧ (d.length ≤ 2 → In.wait ∉ d) := by
  intro d hd
  simp only [pieces, List.mem_cons, List.not_mem_nil, or_false] at hd
  rcases hd with rfl | rfl | rfl | rfl | rfl | rfl | rfl | rfl | rfl | rfl | rfl | rfl | rfl | rfl | rfl | rfl | rfl | rfl | rfl | rfl
  all_goals
    refine ⟨⟨fun q k e h => ?_, fun i hi e he => ?_⟩, fun hl => ?_⟩
    · rcases q with _ | _ | _ | _ | q <;> simp at h <;> first | (cases h; done) | (obtain ⟨rfl, rfl⟩ := h; simp; try omega)
    · simp only [List.mem_cons, List.not_mem_nil, or_false] at hi
      rcases hi with rfl | rfl | rfl | rfl <;> simp [In.tree] at he <;> first | (cases he; done) | (subst he; first | trivial | (show Vok _; unfold Vok; omega))
    · simp at hl ⊢
theorem bld_good {n : Nat} {c : List In} (h : Bld n c) : Good 0 c := by
  induction h with
  | nil => exact ⟨fun q k e h => (nomatch h), fun i hi => (nomatch hi)⟩
  | app h hd hl ih =>
    rename_i c d
    obtain ⟨⟨g1, g2⟩, _⟩ := piece_good _ d hd
    refine ⟨fun q k e hq => ?_, fun i hi => (List.mem_append.mp hi).elim (ih.2 i) (g2 i)⟩
    rw [List.length_append]
    rcases Nat.lt_or_ge q c.length with z | z
    · rw [List.getElem?_append_left z] at hq
      have := ih.1 q k e hq
      omega
    · rw [List.getElem?_append_right z] at hq
      have := g1 _ k e hq
      omega
theorem bld_nowait {n : Nat} {c : List In} (h : Bld n c) (hn : n ≤ 2) : In.wait ∉ c := by
  induction h with
  | nil => exact fun q => nomatch q
  | app h hd hl ih =>
    rename_i c d
    rw [List.length_append] at hl
    exact fun q => (List.mem_append.mp q).elim ih ((piece_good _ d hd).2 (by omega))
theorem code_good {n : Nat} {b : List In} (h : Bld n b) : Good 0 (codeOf b) ∧ codeOf b ≠ [] ∧ (1 ≤ n → (codeOf b).length ≤ n) ∧ (n ≤ 2 → In.wait ∉ codeOf b) := by
  unfold codeOf
  split
  · refine ⟨⟨fun q k e h => ?_, fun i hi e he => ?_⟩, (fun q => nomatch q), (fun q => q), fun _ q => ?_⟩
    · rcases q with _ | q <;> simp at h
    · rw [List.mem_singleton] at hi
      subst hi
      cases he
    · simp at q
  · rename_i h0
    exact ⟨bld_good h, fun q => h0 (by rw [q]; rfl), fun _ => h.len, bld_nowait h⟩
theorem drn_get : ∀ {sz : List Nat} {p : Prog}, Drn sz p → p.length = sz.length ∧ ∀ (t : Nat) (c : List In), p[t]? = some c → ∃ n b, sz[t]? = some n ∧ Bld n b ∧ c = codeOf b
  | [], [], _ => ⟨rfl, fun t c h => nomatch h⟩
  | [], _ :: _, h => h.elim
  | _ :: _, [], h => h.elim
  | n :: sz, c :: p, ⟨⟨b, h1, h2⟩, h⟩ => by
    obtain ⟨e, g⟩ := drn_get h
    refine ⟨by rw [List.length_cons, List.length_cons, e], fun t c' ht => ?_⟩
    cases t with
    | zero =>
      cases ht
      exact ⟨n, b, rfl, h1, h2⟩
    | succ t => exact g t c' ht
theorem drn_ok {sz : List Nat} {p : Prog} (h : Drn sz p) : POk p := by
  obtain ⟨_, g⟩ := drn_get h
  refine ⟨fun t ht => ?_, fun t pc k e hi hpc => ?_, fun t pc e he => ?_⟩
  · obtain ⟨n, b, _, h1, h2⟩ := g t _ (List.getElem?_eq_getElem ht)
    rw [List.getD_eq_getElem?_getD, List.getElem?_eq_getElem ht]
    show (p[t]).length ≠ 0
    rw [h2]
    exact fun q => (code_good h1).2.1 (List.eq_nil_of_length_eq_zero q)
  · rcases Nat.lt_or_ge t p.length with ht | ht
    · obtain ⟨n, b, _, h1, h2⟩ := g t _ (List.getElem?_eq_getElem ht)
      unfold ins at hi
      rw [List.getD_eq_getElem?_getD, List.getElem?_eq_getElem ht] at hpc ⊢
      rw [List.getD_eq_getElem?_getD (l := p), List.getElem?_eq_getElem ht] at hi
      simp only [Option.getD_some] at hi hpc ⊢
      rw [h2] at hi hpc ⊢
      rw [List.getD_eq_getElem?_getD, List.getElem?_eq_getElem hpc] at hi
      have := (code_good h1).1.1 pc k e (by rw [List.getElem?_eq_getElem hpc]; exact congrArg some hi)
      omega
    · rw [List.getD_eq_getElem?_getD, List.getElem?_eq_none ht] at hpc
      exact absurd hpc (Nat.not_lt_zero _)
  · unfold ins at he
    rcases Nat.lt_or_ge t p.length with ht | ht
    · obtain ⟨n, b, _, h1, h2⟩ := g t _ (List.getElem?_eq_getElem ht)
      rw [List.getD_eq_getElem?_getD (l := p), List.getElem?_eq_getElem ht] at he
      simp only [Option.getD_some] at he
      rw [h2] at he
      rcases Nat.lt_or_ge pc (codeOf b).length with hp | hp
      · rw [List.getD_eq_getElem?_getD, List.getElem?_eq_getElem hp] at he
        exact (code_good h1).1.2 _ (List.getElem_mem hp) e he
      · rw [List.getD_eq_getElem?_getD, List.getElem?_eq_none hp] at he
        cases he
    · rw [List.getD_eq_getElem?_getD (l := p), List.getElem?_eq_none ht] at he
      cases he
def sizes4 : List (List Nat) := [[4, 2], [3, 3], [2, 4], [2, 2, 1]]
theorem drn_small {sz : List Nat} {p : Prog} (h : Drn sz p) (hs : sz ∈ sizes4) : Small p ∧ p.length < 1000 := by
  obtain ⟨e, g⟩ := drn_get h
  simp only [sizes4, List.mem_cons, List.not_mem_nil, or_false] at hs
  rcases hs with rfl | rfl | rfl | rfl
  · exact ⟨.inl e, by rw [e]; decide⟩
  · exact ⟨.inl e, by rw [e]; decide⟩
  · exact ⟨.inl e, by rw [e]; decide⟩
  · have e : p.length = 3 := e
    refine ⟨.inr ⟨e, fun t pc q => ?_, ?_⟩, by rw [e]; decide⟩
    · unfold ins at q
      rcases Nat.lt_or_ge t p.length with ht | ht
      · obtain ⟨n, b, hn, h1, h2⟩ := g t _ (List.getElem?_eq_getElem ht)
        rw [List.getD_eq_getElem?_getD (l := p), List.getElem?_eq_getElem ht] at q
        simp only [Option.getD_some] at q
        rw [h2] at q
        have hn2 : n ≤ 2 := by
          have := List.mem_of_getElem? hn
          simp at this
          omega
        rcases Nat.lt_or_ge pc (codeOf b).length with hp | hp
        · rw [List.getD_eq_getElem?_getD, List.getElem?_eq_getElem hp] at q
          exact (code_good h1).2.2.2 hn2 (q ▸ List.getElem_mem hp)
        · rw [List.getD_eq_getElem?_getD, List.getElem?_eq_none hp] at q
          cases q
      · rw [List.getD_eq_getElem?_getD (l := p), List.getElem?_eq_none ht] at q
        cases q
    · have len : ∀ t, t < 3 → ∀ n, ([2, 2, 1] : List Nat)[t]? = some n → 1 ≤ n → (p.getD t []).length ≤ n := fun t ht n hn h1n => by
        have ht : t < p.length := by omega
        obtain ⟨n', b, hn', h1, h2⟩ := g t _ (List.getElem?_eq_getElem ht)
        rw [hn] at hn'
        cases hn'
        rw [List.getD_eq_getElem?_getD, List.getElem?_eq_getElem ht]
        show (p[t]).length ≤ n
        rw [h2]
        exact (code_good h1).2.2.1 h1n
      have l0 := len 0 (by decide) 2 rfl (by decide)
      have l1 := len 1 (by decide) 2 rfl (by decide)
      have l2 := len 2 (by decide) 1 rfl (by decide)
      omega
end Ev

-- part EvW23
set_option maxHeartbeats 400000
set_option Elab.async false
set_option linter.all false
set_option maxRecDepth 100000
set_option maxHeartbeats 4000000
/-! The walks: the program that is drawn, told. -/
namespace Ev
open PySem L2
section
variable {P : Program} {w : World} {K : PySem.W.Frag} {mg : Str → Option Value} {base : Heap} {C : Addr}
def two (a b : Int) : TE := tLst (tCons (tC (.int a)) (tCons (tC (.int b)) tNil))
def sizesT : TA := tCons (tLst (tCons (tC (.int 4)) (tCons (tC (.int 2)) tNil))) (tCons (tLst (tCons (tC (.int 3)) (tCons (tC (.int 3)) tNil))) (tCons (tLst (tCons (tC (.int 2)) (tCons (tC (.int 4)) tNil))) (tCons (tLst (tCons (tC (.int 2)) (tCons (tC (.int 2)) (tCons (tC (.int 1)) tNil)))) tNil)))
theorem sizes_all {H : Hp} {Q : VK} {σ : L2.St} (k : ∀ p vs H', Same H H' → H' p = some (.lst vs) → Paired (LAt K H') vs (sizes4.map fun s => s.map dI) → Q (.ref p) H') : tLst sizesT σ H Q := by
  have key : KLs K H σ sizesT [[.int 4, .int 2], [.int 3, .int 3], [.int 2, .int 4], [.int 2, .int 2, .int 1]] := KLs.cons (KL.lst (KA.cons KE.int (KA.cons KE.int KA.nil)) (Nat.le_of_ble_eq_true rfl)) (KLs.cons (KL.lst (KA.cons KE.int (KA.cons KE.int KA.nil)) (Nat.le_of_ble_eq_true rfl)) (KLs.cons (KL.lst (KA.cons KE.int (KA.cons KE.int KA.nil)) (Nat.le_of_ble_eq_true rfl)) (KLs.cons (KL.lst (KA.cons KE.int (KA.cons KE.int (KA.cons KE.int KA.nil))) (Nat.le_of_ble_eq_true rfl)) KLs.nil)))
  refine key H _ (Same.refl _) fun vs H3 s3 hvs => ?_
  have lv : vs.length = 4 := Paired.length hvs
  refine ⟨by rw [lv]; exact Nat.le_of_lt (sizeLine_small (by decide)), fun p hp => ?_⟩
  have s4 := Same.new0 hp (o := .lst vs)
  exact k p vs _ (s3.trans s4) upd_same (Paired.mapP hvs fun _ _ r => r.sm s4)
theorem cons_op {r : R2} {te ty : TE} {ta : TA} {σ : L2.St} {H : Hp} {Q : List V → Hp → Prop} (h : te σ H fun x H1 => ty σ H1 fun y H2 => r x y H2 fun v H3 => ta σ H3 fun vs H4 => Q (v :: vs) H4) : tCons (tOp r te ty) ta σ H Q := h
/-- _law_drawn: 0 _law_script -/
abbrev s_law_drawn : Stmt := top 90
theorem sc_law_drawn : FnScope ["_law_script"] ["_law_script"] (defScope s_law_drawn) := ⟨rfl, rfl, rfl, by decide +kernel, rfl, by decide +kernel, by decide +kernel⟩
def spDrawn (K : PySem.W.Frag) : L2.Sp := fun vs H Q _ => ∃ a, ∃ ns : List Int, vs = [.ref a] ∧ SqL K H a (ns.map V.int) ∧ ∀ p H' v, POk p → Small p → p.length < 1000 → Same H H' → Rp K H' v (eProg p) → Q v H'
theorem ok_law_drawn (T : Txt w K mg C) : Cal P w K mg base 4 "_law_drawn" ["_law_script"] (spDrawn K) := by
  refine T.d_law_drawn.ok sc_law_drawn (fun vs H Q E h => ?_) (fun f cdv A outer s H vs Q E hr h => ?_)
  · obtain ⟨_, _, rfl, _⟩ := h
    rfl
  · obtain ⟨a, ns, rfl, hq, k⟩ := h
    refine ⟨_, (pss_one (ps_ret (pe_own (ok_law_program T) (hr.mono (by decide)) rfl (pa_cons (pv 0) (pa_cons (pe_ix ix_list (pe_lst (pa_cons (pe_lst (pa_cons pe_int (pa_cons pe_int pa_nil))) (pa_cons (pe_lst (pa_cons pe_int (pa_cons pe_int pa_nil))) (pa_cons (pe_lst (pa_cons pe_int (pa_cons pe_int pa_nil))) (pa_cons (pe_lst (pa_cons pe_int (pa_cons pe_int (pa_cons pe_int pa_nil)))) pa_nil))))) (pe_op op_mod (pe_callTy call_int1 (by rfl) T.int (by decide +kernel) (pa_cons (pe_own (ok_law_cell T) (hr.mono (by decide)) rfl (pa_cons (pv 0) (pa_cons pe_int pa_nil))) pa_nil)) pe_int) (fun _ _ => rfl)) pa_nil))))), ?_⟩
    refine ⟨_, rfl, ?_⟩
    refine cons_op ?_
    refine sizes_all (K := K) fun p vs H1 s1 hp hvs => ?_
    refine ⟨_, rfl, a, ns, 9, rfl, s1.seq hq, fun z => .inl ⟨_, rfl, _, _, rfl, rfl, by show (0 : Int) < 4; decide, ?_⟩⟩
    have h0 : 0 ≤ z % 4 := Int.emod_nonneg _ (by decide)
    have h1 : z % 4 < 4 := Int.emod_lt_of_pos _ (by decide)
    obtain ⟨j, hj⟩ : ∃ j : Nat, z % 4 = (j : Int) := ⟨(z % 4).toNat, by omega⟩
    have hj2 : j < 4 := by omega
    obtain ⟨x, ds, hz, hds, l, xs, rfl, hl, hrs⟩ := paired_get (i := j) hvs (by rw [List.length_map]; exact hj2)
    rw [List.getElem?_map] at hds
    obtain ⟨sz, hsz, rfl⟩ := Option.map_eq_some_iff.mp hds
    have hm : sz ∈ sizes4 := List.mem_of_getElem? hsz
    cases hrs.nats
    have h4 : sz.length ≤ 3 ∧ ∀ n ∈ sz, n ≤ 4 := by
      simp only [sizes4, List.mem_cons, List.not_mem_nil, or_false] at hm
      rcases hm with rfl | rfl | rfl | rfl <;> decide
    refine ⟨p, vs, _, _, rfl, rfl, SqL.of hp, by rw [hj]; exact atI_nat hz, ?_⟩
    exact ⟨a, l, ns, sz, rfl, s1.seq hq, hl, h4.1, h4.2, fun q H' v dr s2 hv => k q H' v (drn_ok dr) (drn_small dr hm).1 (drn_small dr hm).2 (s1.trans s2) hv⟩
end
end Ev

-- part EvW24
set_option maxHeartbeats 400000
set_option Elab.async false
set_option linter.all false
set_option maxRecDepth 100000
set_option maxHeartbeats 4000000
/-! The walks: all executions, as the law has them. -/
namespace Ev
open PySem L2
section
variable {P : Program} {w : World} {K : PySem.W.Frag} {mg : Str → Option Value} {base : Heap} {C : Addr}
/-- _law_complete: 0 _law_program_here, 1 _law_limit, 2 _law_entries, 3 _law_entry -/
abbrev s_law_complete : Stmt := top 92
theorem sc_law_complete : FnScope ["_law_program_here", "_law_limit", "_law_entries", "_law_entry"] ["_law_program_here", "_law_limit", "_law_entries"] (defScope s_law_complete) := ⟨rfl, rfl, rfl, by decide +kernel, rfl, by decide +kernel, by decide +kernel⟩
theorem ok_law_complete (T : Txt w K mg C) : Cal P w K mg base 10 "_law_complete" ["_law_program_here", "_law_limit", "_law_entries"] (spCO K) := by
  refine T.d_law_complete.ok sc_law_complete (fun vs H Q E h => ?_) (fun f cdv A outer s H vs Q E hr h => ?_)
  · obtain ⟨_, _, _, _, _, _, rfl, _⟩ := h
    rfl
  · obtain ⟨p, L, En, vp, le, xs, rfl, g1, hx, rx, hp, hlen, hE, k⟩ := h
    refine ⟨_, (pss_one (ps_ret (pe_lc (own := [("_law_entry", 3)]) (g := gName 3) rfl sc_law_complete.nd (pi_list (pv 2)) (blkOk_by (N := ["_law_program_here", "_law_limit", "_law_entries", "_law_entry"]) (sc := defScope s_law_complete) (own := [("_law_entry", 3)]) (by decide +kernel)) (fun _ _ _ _ _ => (pg_name (i := 3) sc_law_complete.nd rfl (Or.inl rfl))) (fun _ _ _ _ _ => (pts_one (PW.pt (pw_or (pt_cmpR op_eq (pe_callB (call_lenDK rfl) (by rfl) T.len PySem.boot_len (pa_cons (pe_ix (ix_DK rfl) (pv 3) pe_int (fun _ _ => rfl)) pa_nil)) (pv 1) (nomark _)) (pw_or1 (pt_cmpR op_eq (pe_callB (call_lenDK rfl) (by rfl) T.len PySem.boot_len (pa_cons (pe_own (ok_enabled T) (hr.mono (by decide)) rfl (pa_cons (pv 0) (pa_cons (pe_ix (ix_DK rfl) (pv 3) pe_int (fun _ _ => rfl)) pa_nil))) pa_nil)) pe_int (nomark _))))))) (fun _ _ _ _ _ => (pv 3))))), ?_⟩
    refine ⟨_, rfl, ?_⟩
    have hq : ∀ e ∈ En, (∃ e', e' ∈ En ∧ e'.S = e.S ∧ compl p L e' = true) ↔ compl p L e = true := fun e he => ⟨fun ⟨e', h1, h2, h3⟩ => by
      have q1 := (hE e he).1
      have q2 := (hE e' h1).1
      rw [h2, ← q1] at q2
      rw [← q2]
      exact h3, fun h => ⟨e, he, rfl, h⟩⟩
    refine lc_LD (keepF fun S => ∃ e', e' ∈ En ∧ e'.S = S ∧ compl p L e' = true) (SqL.of hx) rx (by rw [List.length_map]; omega) (fun x d H' Cn N hd r s1 c1 c2 => ⟨rfl, ?_⟩) fun l acc H' hl s1 e ra => ?_
    · obtain ⟨e, he, rfl⟩ := List.mem_map.mp hd
      have yes : ∀ {H2 : Hp}, Same H' H2 → compl p L e = true → Cn x H2 := fun s2 c => c1 _ _ _ (by rw [keep_ent, if_pos ((hq e he).mpr c)]) (r.sm s2) s2
      refine ⟨_, rfl, _, _, _, r, rfl, at0, fun u hu => ⟨_, _, rfl, hu, ?_⟩⟩
      refine ⟨_, rfl, rfl, _, rfl, ?_⟩
      rw [show decide (V.int ((e.S.map dI).length : Int) = V.int (L : Int)) = decide (e.S.length = L) from by rw [List.length_map]; exact decide_eq_decide.mpr ⟨fun q => by have := V.int.inj q; omega, fun q => by rw [q]⟩]
      by_cases c : e.S.length = L
      · rw [decide_eq_true c]
        refine iteT (iteT ?_)
        exact ⟨_, rfl, yes (Same.refl _) (by unfold compl; rw [decide_eq_true c]; rfl)⟩
      · rw [decide_eq_false c]
        refine iteF ?_
        refine ⟨_, rfl, _, rfl, _, _, _, r, rfl, atI_nat (j := 2) rfl, fun u hu => ?_⟩
        refine ⟨_, _, .cons (g1.sm s1) (.cons hu .nil), ⟨p, e.s, rfl, hp, (hE e he).2, rfl⟩, fun H2 v s2 hv => ?_⟩
        refine ⟨_, _, rfl, hv, rfl, _, rfl, ?_⟩
        rw [show decide (V.int ((((enabled p e.s).map dI).length : Nat) : Int) = V.int 0) = decide ((enabled p e.s).length = 0) from by rw [List.length_map]; exact decide_eq_decide.mpr ⟨fun q => by have := V.int.inj q; omega, fun q => by rw [q]; rfl⟩]
        by_cases c2' : (enabled p e.s).length = 0
        · rw [decide_eq_true c2']
          refine iteT ?_
          exact ⟨_, rfl, yes s2 (by unfold compl; rw [decide_eq_true c2', Bool.or_true])⟩
        · rw [decide_eq_false c2']
          refine iteF ?_
          exact c2 (by rw [keep_ent, if_neg fun z => by have := (hq e he).mp z; unfold compl at this; rw [decide_eq_false c, decide_eq_false c2'] at this; exact Bool.false_ne_true this]) _ s2
    · rw [keep_all hq] at ra
      exact k _ _ _ s1 hl e ra

/-- _law_all: 0 _law_program_here, 1 _law_limit, 2 _law_found, 3 _law_waiting, 4 _law_turn, 5 _law_entry, 6 _law_thread, 7 _law_made -/
abbrev s_law_all : Stmt := top 91
theorem sc_law_all : FnScope ["_law_program_here", "_law_limit", "_law_found", "_law_waiting", "_law_turn", "_law_entry", "_law_thread", "_law_made"] ["_law_program_here", "_law_limit"] (defScope s_law_all) := ⟨rfl, rfl, rfl, by decide +kernel, rfl, by decide +kernel, by decide +kernel⟩
def leE (a b : Ent) : Bool := dle (eEnt a) (eEnt b)
def spAll (K : PySem.W.Frag) : L2.Sp := fun vs H Q _ => ∃ p, ∃ L : Nat, RpAll K H vs [eProg p, dI L] ∧ p.length < 1000 ∧ POk p ∧ Small p ∧ L ≤ 8 ∧
  ∀ H' l xs, Same H H' → H l = none → H' l = some (.lst xs) → RpAll K H' xs (((dfs (kidsR p L) L (mk p [])).mergeSort leE).map eEnt) → Q (.ref l) H'
theorem sub_R (p : Prog) (L : Nat) (e k : Ent) (h : k ∈ kidsR p L e) : k ∈ kidsA p L e := List.mem_reverse.mp h
theorem kidsR_len (p : Prog) (L : Nat) (e : Ent) : (kidsR p L e).length ≤ p.length := by
  unfold kidsR
  rw [List.length_reverse]
  exact kidsA_len p L e
theorem ok_law_all (T : Txt w K mg C) : Cal P w K mg base 10 "_law_all" ["_law_program_here", "_law_limit"] (spAll K) := by
  refine T.d_law_all.ok sc_law_all (fun vs H Q E h => ?_) (fun f cdv A outer s H vs Q E hr h => ?_)
  · obtain ⟨_, _, hd, _⟩ := h
    exact hd.length
  · obtain ⟨p, L, hd, hp, po, sm, hL, k⟩ := h
    rcases hd with _ | ⟨g1, _ | ⟨g2, _ | _⟩⟩
    cases g2.toInt
    rename_i v1
    have gr := grow_R p L
    have hsub := sub_R p L
    have hall : ∀ {e}, e ∈ dfs (kidsR p L) L (mk p []) → _ := fun h => dfs_ok po gr hsub h
    have hcnt := dfs_len po sm hL gr hsub (kidsR_len p L)
    refine ⟨_, (pss_cons (ps_set (i := 2) sc_law_all.nd rfl (Or.inl rfl) (pe_lst pa_nil))
        (pss_cons (ps_set (i := 3) sc_law_all.nd rfl (Or.inl rfl) (pe_lst (pa_cons (pe_tupN (pa_cons (pe_tupN pa_nil) (pa_cons (pe_tupN pa_nil) (pa_cons (pe_own (ok_first_state T) (hr.mono (by decide)) rfl (pa_cons (pv 0) pa_nil)) pa_nil)))) pa_nil)))
        (pss_cons (ps_for PassesOwn.never rfl (pi_range1 rfl T.range (pa_cons pe_int pa_nil)) (pg_name (i := 4) sc_law_all.nd rfl (Or.inl rfl))
          (pss_one (ps_if (pt_cmpR op_gt (pe_callB call_len_seq (by rfl) T.len PySem.boot_len (pa_cons (pv 3) pa_nil)) pe_int (nomark _))
            (pss_cons (ps_set (i := 5) sc_law_all.nd rfl (Or.inl rfl) (pe_bm0 PySem.F.plainAttrs_list PySem.F.slot_list_pop PySem.F.type_list_pop mt_pop (pv 3)))
            (pss_cons (ps_expr (pe_bm PySem.F.plainAttrs_list PySem.F.slot_list_append PySem.F.type_list_append mt_append (pv 2) (pa_cons (pv 5) pa_nil)))
            (pss_one (ps_if (pt_cmpR op_lt (pe_callB call_lenD' (by rfl) T.len PySem.boot_len (pa_cons (pe_ix ix_D (pv 5) pe_int (fun _ _ => rfl)) pa_nil)) (pv 1) (nomark _))
              (pss_one (ps_for PassesOwn.never rfl (pi_tup (pe_own (ok_enabled T) (hr.mono (by decide)) rfl (pa_cons (pv 0) (pa_cons (pe_ix ix_D (pv 5) pe_int (fun _ _ => rfl)) pa_nil)))) (pg_name (i := 6) sc_law_all.nd rfl (Or.inl rfl))
                (pss_cons (ps_set (i := 7) sc_law_all.nd rfl (Or.inl rfl) (pe_own (ok_make_step T) (hr.mono (by decide)) rfl (pa_cons (pv 0) (pa_cons (pe_ix ix_D (pv 5) pe_int (fun _ _ => rfl)) (pa_cons (pv 6) pa_nil)))))
                (pss_one (ps_expr (pe_bm PySem.F.plainAttrs_list PySem.F.slot_list_append PySem.F.type_list_append mt_append (pv 3) (pa_cons (pe_tupN (pa_cons (pe_op op_catD (pe_ix ix_D (pv 5) pe_int (fun _ _ => rfl)) (pe_tupN (pa_cons (pv 6) pa_nil))) (pa_cons (pe_op op_catD (pe_ix ix_D (pv 5) pe_int (fun _ _ => rfl)) (pe_tupN (pa_cons (pe_ix ix_D (pv 7) pe_int (fun _ _ => rfl)) pa_nil))) (pa_cons (pe_ix ix_D (pv 7) pe_int (fun _ _ => rfl)) pa_nil)))) pa_nil)))))))
              pss_nil))))
            pss_nil)))
        (pss_one (ps_ret (pe_callB (call_sortD hr.units) (by rfl) T.sorted (by decide +kernel) (pa_cons (pv 2) pa_nil))))))), ?_⟩
    refine ⟨Nat.zero_le _, fun l hl => ?_⟩
    have s0 : Same H (upd H l (.lst [])) := Same.new0 hl
    have hx0 : upd H l (.lst []) l = some (.lst []) := upd_same
    generalize upd H l (.lst []) = G1 at s0 hx0
    refine ⟨_, .nil, by show 0 < 1000; decide, fun w1 G2 g1' r1 => ⟨_, .nil, by show 0 < 1000; decide, fun w2 G3 g2' r2 => ?_⟩⟩
    refine ⟨_, rfl, _, _, .cons (g1.sm ((s0.trans g1').trans g2')) .nil, ⟨p, rfl, hp, rfl⟩, fun G4 w3 g3' r3 => ?_⟩
    refine ⟨_, .cons ((r1.sm g2').sm g3') (.cons (r2.sm g3') (.cons r3 .nil)), by show 3 < 1000; decide, fun w4 G5 g4' r4 => ?_⟩
    refine ⟨by show 1 ≤ sizeLine; exact Nat.le_of_lt (sizeLine_small (by decide)), fun lw hlw => ?_⟩
    have s5 := (((s0.trans g1').trans g2').trans g3').trans g4'
    have s6 : Same H (upd G5 lw (.lst [w4])) := s5.new hlw
    have hlw0 : H lw = none := s5.free hlw
    have hx5 : G5 l = some (.lst []) := g4' _ _ (g3' _ _ (g2' _ _ (g1' _ _ hx0)))
    have hne : lw ≠ l := fun q => by subst q; rw [hx5] at hlw; cases hlw
    have r4 : Rp K G5 w4 (eEnt (mk p [])) := r4
    refine ⟨2500, rfl, by decide, by decide, ?_⟩
    refine for_range (lo := 0) (n := 2500) (fun m σ H' => Same H H' ∧ ∃ (F St : List Ent) (xs ys : List V) (c1 c2 c3 c4 : Option V), σ = [some v1, some (.int (L : Int)), some (.ref l), some (.ref lw), c1, c2, c3, c4] ∧ H' l = some (.lst xs) ∧ H' lw = some (.lst ys) ∧ RpAll K H' xs (F.map eEnt) ∧ RpAll K H' ys (St.reverse.map eEnt) ∧
        F ++ St.flatMap (dfs (kidsR p L) L) = dfs (kidsR p L) L (mk p []) ∧ (St = [] ∨ F.length = m))
      ⟨s6, [], [mk p []], [], [w4], none, none, none, none, rfl, by rw [upd_ne hne.symm]; exact hx5, upd_same, .nil, .cons (r4.tle (Tle.new hlw)) .nil, by simp, .inr rfl⟩ ?_ ?_
    · rintro m σ H1 hm ⟨s1, F, St, xs, ys, c1, c2, c3, c4, rfl, hx, hy, rx, ry, tot, hF⟩
      rw [show ((0 : Int) + (m : Int)) = (m : Int) by omega]
      refine ⟨_, rfl, lw, ys, rfl, .inl (SqL.of hy), _, _, rfl, rfl, _, rfl, ?_⟩
      have ely : ys.length = St.length := by rw [ry.length, List.length_map, List.length_reverse]
      cases St with
      | nil =>
        rw [show decide (((0 : Int)) < (ys.length : Int)) = false from by rw [ely]; rfl]
        exact iteF ⟨s1, F, [], xs, ys, _, _, _, _, rfl, hx, hy, rx, ry, tot, .inl rfl⟩
      | cons e St =>
        rw [show decide (((0 : Int)) < (ys.length : Int)) = true from by rw [ely]; exact decide_eq_true (by show (0 : Int) < ((St.length + 1 : Nat) : Int); omega)]
        refine iteT ?_
        have hFm : F.length = m := hF.elim (fun q => nomatch q) id
        have hein : e ∈ dfs (kidsR p L) L (mk p []) := by
          rw [← tot, List.flatMap_cons, dfs_eq gr]
          simp
        obtain ⟨hmk, hok, hlen, hwf⟩ := hall hein
        rw [List.reverse_cons, List.map_append] at ry
        obtain ⟨ve, hve, rve, ry'⟩ := RpAll.unsnoc ry
        refine ⟨_, rfl, .inl ⟨rfl, _, SqL.of hy⟩, lw, ys, ve, rfl, rfl, hy, hve, ?_⟩
        have s2 : Same H (upd H1 lw (.lst ys.dropLast)) := s1.wr hlw0
        have T2 : Tle K H1 (upd H1 lw (.lst ys.dropLast)) := Tle.lst hy
        have hx2 : upd H1 lw (.lst ys.dropLast) l = some (.lst xs) := by rw [upd_ne hne.symm]; exact hx
        have hy2 : upd H1 lw (.lst ys.dropLast) lw = some (.lst ys.dropLast) := upd_same
        have rx := rx.tle T2
        have ry := ry'.tle T2
        have rve := rve.tle T2
        generalize upd H1 lw (.lst ys.dropLast) = H2 at s2 hx2 hy2 rx ry rve
        have lx : xs.length = F.length := by rw [rx.length, List.length_map]
        refine ⟨_, rfl, .inl ⟨rfl, _, SqL.of hx2⟩, _, rfl, l, xs, _, rfl, rfl, hx2, sizeLine_small (by omega), ?_⟩
        have s3 : Same H (upd H2 l (.lst (xs ++ [ve]))) := s2.wr hl
        have T3 : Tle K H2 (upd H2 l (.lst (xs ++ [ve]))) := Tle.lst hx2
        have hx3 : upd H2 l (.lst (xs ++ [ve])) l = some (.lst (xs ++ [ve])) := upd_same
        have hy3 : upd H2 l (.lst (xs ++ [ve])) lw = some (.lst ys.dropLast) := by rw [upd_ne hne]; exact hy2
        have rx3 : RpAll K (upd H2 l (.lst (xs ++ [ve]))) (xs ++ [ve]) ((F ++ [e]).map eEnt) := by
          rw [List.map_append]
          exact (rx.snoc rve).tle T3
        have ry := ry.tle T3
        have rve := rve.tle T3
        generalize upd H2 l (.lst (xs ++ [ve])) = H3 at s3 hx3 hy3 rx3 ry rve
        refine ⟨_, rfl, _, _, _, rve, rfl, at0, fun u hu => ⟨_, _, rfl, hu, ?_⟩⟩
        refine ⟨_, rfl, _, _, rfl, rfl, _, rfl, ?_⟩
        rw [show decide (((e.S.map dI).length : Int) < (L : Int)) = decide (e.S.length < L) from by rw [List.length_map]; exact decide_eq_decide.mpr (by omega)]
        by_cases hLt : e.S.length < L
        · rw [decide_eq_true hLt]
          refine iteT ?_
          have hSl : St.length ≤ 600 := by
            refine Nat.le_trans ?_ hcnt
            rw [← tot, List.flatMap_cons, List.length_append, List.length_append]
            have : ∀ l : List Ent, l.length ≤ (l.flatMap (dfs (kidsR p L) L)).length := by
              intro l
              induction l with
              | nil => exact Nat.le_refl _
              | cons a l ih =>
                rw [List.flatMap_cons, dfs_eq gr a, List.length_append, List.length_cons, List.length_cons]
                omega
            have := this St
            omega
          have hSe : e.S.length ≤ 8 := by omega
          have hRe : e.R.length ≤ 8 := by
            rw [hmk]
            show (stepsOf p (first p) e.S).length ≤ 8
            rw [stepsOf_len]
            omega
          refine ⟨_, rfl, _, rfl, _, _, _, rve, rfl, atI_nat (j := 2) rfl, fun u hu => ?_⟩
          refine ⟨_, _, .cons (g1.sm s3) (.cons hu .nil), ⟨p, e.s, rfl, hp, hwf, rfl⟩, fun H4 v s4 hv => ?_⟩
          have s34 := s3.trans s4
          refine for_D (fun i σ H' => Same H H' ∧ Tle K H4 H' ∧ H' l = some (.lst (xs ++ [ve])) ∧ ∃ zs c3 c4, σ = [some v1, some (.int (L : Int)), some (.ref l), some (.ref lw), some (.int (m : Int)), some ve, c3, c4] ∧ H' lw = some (.lst zs) ∧ RpAll K H' zs ((St.reverse ++ ((enabled p e.s).take i).map (kid p e)).map eEnt))
            hv ⟨s34, Tle.refl, s4 _ _ hx3, _, _, _, rfl, s4 _ _ hy3, by rw [List.take_zero, List.map_nil, List.append_nil]; exact ry.sm s4⟩ (fun i σ H' q => q.2.1) ?_ ?_
          · rintro i x dd σ H5 em r ⟨s5, tl, hx5, zs, c3, c4, rfl, hz, rz⟩
            rw [List.getElem?_map] at em
            obtain ⟨t, ht, rfl⟩ := Option.map_eq_some_iff.mp em
            cases r.toInt
            have hen := (en_mem hwf).mp (List.mem_of_getElem? ht)
            have rve5 := (rve.sm s4).tle tl
            have lz : zs.length ≤ 2000 := by
              rw [rz.length, List.length_map, List.length_append, List.length_reverse, List.length_map]
              have := List.length_take_le' i (enabled p e.s)
              have := enabled_len p e.s
              omega
            refine ⟨_, rfl, _, rfl, _, _, _, rve5, rfl, atI_nat (j := 2) rfl, fun u hu => ⟨_, rfl, ?_⟩⟩
            refine ⟨_, _, .cons (g1.sm s5) (.cons hu (.cons (.int _) .nil)), ⟨p, e.s, t, rfl, hp, hwf, hen, rfl⟩, fun H6 v6 s6 hv6 => ?_⟩
            have rve6 := rve5.sm s6
            have hz6 := s6 _ _ hz
            refine ⟨_, rfl, .inl ⟨rfl, _, SqL.of hz6⟩, ?_⟩
            refine ⟨_, rfl, _, _, _, rve6, rfl, at0, fun u5 hu5 => ?_⟩
            refine ⟨_, rfl, _, .cons (.int _) .nil, by show 1 < 1000; decide, fun v7 H7 s7 hv7 => ?_⟩
            refine ⟨_, _, hu5.sm s7, hv7, by rw [List.length_map]; exact Nat.le_of_lt (sizeLine_small (by show e.S.length + 1 < _; omega)), fun v8 H8 s8 hv8 => ?_⟩
            have s78 := s7.trans s8
            refine ⟨_, rfl, _, _, _, rve6.sm s78, rfl, at1, fun u8 hu8 => ?_⟩
            refine ⟨_, rfl, _, _, _, hv6.sm s78, rfl, at1, fun u9 hu9 => ?_⟩
            refine ⟨_, .cons hu9 .nil, by show 1 < 1000; decide, fun v10 H10 s10 hv10 => ?_⟩
            refine ⟨_, _, hu8.sm s10, hv10, by rw [List.length_map]; exact Nat.le_of_lt (sizeLine_small (by show e.R.length + 1 < _; omega)), fun v11 H11 s11 hv11 => ?_⟩
            refine ⟨_, rfl, _, _, _, ((hv6.sm s78).sm s10).sm s11, rfl, at0, fun u12 hu12 => ?_⟩
            refine ⟨_, .cons ((hv8.sm s10).sm s11) (.cons hv11 (.cons hu12 .nil)), by show 3 < 1000; decide, fun v13 H13 s13 hv13 => ?_⟩
            have s6d := ((s78.trans s10).trans s11).trans s13
            have hz13 := s6d _ _ hz6
            refine ⟨lw, zs, _, rfl, rfl, hz13, sizeLine_small (by omega), ?_⟩
            refine ⟨((s5.trans s6).trans s6d).wr hlw0, (tl.trans (Tle.same (s6.trans s6d))).trans (Tle.lst hz13), by rw [upd_ne hne.symm]; exact (s6.trans s6d) _ _ hx5, _, _, _, rfl, upd_same, ?_⟩
            rw [take_snoc ht, List.map_append (f := kid p e), ← List.append_assoc, List.map_append (f := eEnt)]
            refine (((rz.sm s6).sm s6d).snoc ?_).tle (Tle.lst hz13)
            have ee : eEnt (kid p e t) = .tuple [.tuple (e.S.map dI ++ [dI t]), .tuple (e.R.map eSp ++ [eSp (stp p e.s t)]), eSt (nxt p e.s t)] := by
              unfold eEnt kid eSch eRow
              rw [List.map_append, List.map_append]
              rfl
            rw [ee]
            exact hv13
          · rintro σ H5 ⟨s5, tl, hx5, zs, c3, c4, rfl, hz, rz⟩
            rw [List.length_map, List.take_length] at rz
            have ek : kidsR p L e = ((enabled p e.s).map (kid p e)).reverse := by
              unfold kidsR kidsA
              rw [if_pos hLt]
            refine ⟨s5, F ++ [e], kidsR p L e ++ St, _, _, _, _, _, _, rfl, hx5, hz, (rx3.sm s4).tle tl, ?_, ?_, .inr (by rw [List.length_append, hFm]; rfl)⟩
            · rw [List.reverse_append, ek, List.reverse_reverse]
              exact rz
            · rw [← tot, List.flatMap_cons, dfs_eq gr e, List.flatMap_append]
              simp
        · rw [decide_eq_false hLt]
          have ek : kidsR p L e = [] := gr.fin e (by omega)
          refine iteF ⟨s3, F ++ [e], St, _, _, _, _, _, _, rfl, hx3, hy3, rx3, ry, ?_, .inr (by rw [List.length_append, hFm]; rfl)⟩
          rw [← tot, List.flatMap_cons, dfs_eq gr e, ek]
          simp
    · rintro σ H1 ⟨s1, F, St, xs, ys, c1, c2, c3, c4, rfl, hx, hy, rx, ry, tot, hF⟩
      have hF2 : F.length ≤ 600 := by
        refine Nat.le_trans ?_ hcnt
        rw [← tot, List.length_append]
        omega
      have hS : St = [] := hF.elim id fun q => by omega
      subst hS
      rw [List.flatMap_nil, List.append_nil] at tot
      subst tot
      refine ⟨_, rfl, l, xs, _, rfl, SqL.of hx, rx, .inr (.inl ?_), ?_, fun q ys H2 hq sm2 hys ry2 => ?_⟩
      · intro d hd e he
        obtain ⟨a, ha, rfl⟩ := List.mem_map.mp hd
        obtain ⟨b, hb, rfl⟩ := List.mem_map.mp he
        exact near_ent (hall ha).1 (hall hb).1
      · intro d hd
        obtain ⟨a, ha, rfl⟩ := List.mem_map.mp hd
        exact dp_ent a
      · rw [← List.map_mergeSort (r := leE) (s := dle) (f := eEnt) (fun _ _ _ _ => rfl)] at ry2
        exact k _ _ _ (s1.trans sm2) (s1.free hq) hys ry2
end
end Ev

-- part EvO2
set_option maxHeartbeats 400000
set_option Elab.async false
set_option linter.all false
set_option maxRecDepth 100000
set_option maxHeartbeats 4000000
/-! The law in plain words: both searches find the same first schedules. -/
namespace Ev
open PySem PySem.W L2
theorem leE_le {a b : Ent} (h : leE a b = true) : a.S ≤ b.S := by
  unfold leE dle eEnt at h
  rw [dataLt_tuple] at h
  cases e : PyData.eqv (eSch b.S) (eSch a.S) with
  | true =>
    rw [sch_eqv (show PyData.eqvAll (b.S.map dI) (a.S.map dI) = true from e)]
    exact List.le_refl _
  | false =>
    rw [dataLt_all_no (show alike (eSch b.S) (eSch a.S) = true from alike_sch b.S a.S) e] at h
    have q : dle (eSch a.S) (eSch b.S) = true := h
    rw [leS_eq] at q
    exact of_decide_eq_true q
theorem leE_tot : TotalLe leE := by
  have := sortLe_total (PyProof.Rows.listOrd PyProof.Rows.itemOrd) false fun e : Ent => keyToks (eEnt e)
  exact this
def allA (p : Prog) (L : Nat) : List (List Nat) := (((dfs (kidsR p L) L (mk p [])).mergeSort leE).filter (compl p L)).map (·.S)
theorem allA_le (p : Prog) (L : Nat) : (allA p L).Pairwise (· ≤ ·) := by
  unfold allA
  rw [List.pairwise_map]
  exact ((sort_pairwise leE_tot _).imp fun h => leE_le h).filter _
theorem compl_iff {p : Prog} {L : Nat} {S : List Nat} : compl p L (mk p S) = true ↔ full p L S := by
  unfold compl full
  rw [Bool.or_eq_true, decide_eq_true_eq, decide_eq_true_eq]
  exact or_congr Iff.rfl ⟨fun h => List.eq_nil_of_length_eq_zero h, fun h => by
    have h : enabled p (mk p S).s = [] := h
    rw [h]; rfl⟩
theorem mem_allA {p : Prog} {L : Nat} (po : POk p) {S : List Nat} : S ∈ allA p L ↔ okS p (first p) S ∧ S.length ≤ L ∧ full p L S := by
  unfold allA
  rw [List.mem_map]
  constructor
  · rintro ⟨e, he, rfl⟩
    obtain ⟨h1, h2⟩ := List.mem_filter.mp he
    obtain ⟨q1, q2, q3, _⟩ := dfs_ok po (grow_R p L) (sub_R p L) ((List.mergeSort_perm _ _).mem_iff.mp h1)
    rw [q1] at h2
    exact ⟨q2, q3, compl_iff.mp h2⟩
  · rintro ⟨h1, h2, h3⟩
    exact ⟨mk p S, List.mem_filter.mpr ⟨(List.mergeSort_perm _ _).mem_iff.mpr (mem_A po S [] h1 h2), compl_iff.mpr h3⟩, rfl⟩
theorem mem_allT {p : Prog} {L : Nat} (po : POk p) {S : List Nat} (h : S ∈ allT p L) : okS p (first p) S ∧ S.length ≤ L ∧ full p L S := by
  unfold allT at h
  obtain ⟨e, he, rfl⟩ := List.mem_map.mp h
  obtain ⟨h1, h2⟩ := List.mem_filter.mp he
  obtain ⟨q1, q2, q3, _⟩ := dfs_ok po (grow_T p L) (sub_T p L) h1
  rw [q1] at h2
  exact ⟨q2, q3, compl_iff.mp h2⟩
theorem same_firsts {p : Prog} {L : Nat} (po : POk p) {d d' : List (Ft × List Nat)} (h : Firsts (Told p) (allA p L) d) (h' : Firsts (Told p) (srt (allT p L)) d') : d.Perm d' := by
  refine firsts_same h h' (allA_le p L) (srt_le _) (fun S hS => (mem_allA po).mpr (mem_allT po (srt_mem.mp hS))) fun S hS f hf hn => ?_
  obtain ⟨ho, hl, hfu⟩ := (mem_allA po).mp hS
  have nu : ¬ Unpr p S := fun u => hn (srt_mem.mpr (by
    unfold allT
    exact List.mem_map.mpr ⟨mk p S, List.mem_filter.mpr ⟨mem_T po S [] ho hl u, compl_iff.mpr hfu⟩, rfl⟩))
  obtain ⟨S', h1, h2, h3, h4, h5⟩ := left_out po ho hl hfu hf nu
  exact ⟨S', (mem_allA po).mpr ⟨h1, h2, h3⟩, h4, h5⟩
end Ev

-- part EvO3
set_option maxHeartbeats 400000
set_option Elab.async false
set_option linter.all false
set_option maxRecDepth 100000
set_option maxHeartbeats 4000000
/-! The law's comparisons in plain words. -/
namespace Ev
open PySem PySem.W L2
theorem dle_tot : TotalLe dle := by
  have := sortLe_total (PyProof.Rows.listOrd PyProof.Rows.itemOrd) false fun e : D => keyToks e
  exact this
def kD (z : Ft × List Nat) : D := .str (ftK z.1)
theorem dle_str {a b : Str} (h1 : dle (.str a) (.str b) = true) (h2 : dle (.str b) (.str a) = true) : a = b := by
  unfold dle at h1 h2
  rw [dataLt_str] at h1 h2
  have e1 : ¬ b.cps.toList < a.cps.toList := by simpa using h1
  have e2 : ¬ a.cps.toList < b.cps.toList := by simpa using h2
  have e : a.cps.toList = b.cps.toList := List.le_antisymm e1 e2
  cases a
  cases b
  congr 1
  exact Array.toList_inj.mp e
theorem kinds_perm {d d' : List (Ft × List Nat)} (h : d.Perm d') : (d.map kD).mergeSort dle = (d'.map kD).mergeSort dle := by
  refine List.Perm.eq_of_pairwise (le := fun a b => dle a b = true) (fun a b ha hb h1 h2 => ?_) (sort_pairwise dle_tot _) (sort_pairwise dle_tot _) ?_
  · obtain ⟨z, _, rfl⟩ := List.mem_map.mp ((List.mergeSort_perm _ _).mem_iff.mp ha)
    obtain ⟨y, _, rfl⟩ := List.mem_map.mp ((List.mergeSort_perm _ _).mem_iff.mp hb)
    show PyData.str _ = .str _
    rw [dle_str h1 h2]
  · exact ((List.mergeSort_perm _ _).trans (h.map kD)).trans (List.mergeSort_perm _ _).symm
theorem sb_kinds (d : List (Ft × List Nat)) : Sb (d.map kD) := by
  refine .inr ⟨fun a ha b hb => ?_, .inr fun a ha => ?_⟩
  · obtain ⟨z, _, rfl⟩ := List.mem_map.mp ha
    obtain ⟨y, _, rfl⟩ := List.mem_map.mp hb
    rfl
  · obtain ⟨z, _, rfl⟩ := List.mem_map.mp ha
    exact ⟨nofun, nofun⟩
theorem lay_all : ∀ {ds : List D}, (∀ e ∈ ds, e.canLay0 = true) → PyData.canLayAll0 ds = true
  | [], _ => rfl
  | e :: ds, h => by
    show (e.canLay0 && PyData.canLayAll0 ds) = true
    rw [h e List.mem_cons_self, lay_all fun x hx => h x (List.mem_cons_of_mem _ hx)]
    rfl
theorem dep_all {n : Nat} : ∀ {ds : List D}, (∀ e ∈ ds, e.depth ≤ n) → PyData.depthAll ds ≤ n
  | [], _ => Nat.zero_le _
  | e :: ds, h => Nat.max_le.mpr ⟨h e List.mem_cons_self, dep_all fun x hx => h x (List.mem_cons_of_mem _ hx)⟩
theorem sh_list {ds : List D} (h : ∀ e ∈ ds, e.canLay0 = true ∧ e.depth ≤ 40) : SeqAt.shaped (.list ds) = true := by
  have h1 := lay_all fun e he => (h e he).1
  have h2 := dep_all fun e he => (h e he).2
  show (PyData.canLayAll0 ds && decide (PyData.depthAll ds + 1 ≤ 64)) = true
  rw [h1, decide_eq_true (by omega)]
  rfl
theorem sh_tup {ds : List D} (h : ∀ e ∈ ds, e.canLay0 = true ∧ e.depth ≤ 40) : SeqAt.shaped (.tuple ds) = true := sh_list h
theorem sh_srt {ds : List D} {le : D → D → Bool} (h : ∀ e ∈ ds, e.canLay0 = true ∧ e.depth ≤ 40) : SeqAt.shaped (.list (ds.mergeSort le)) = true := sh_list fun e he => h e ((List.mergeSort_perm _ _).mem_iff.mp he)
theorem lay_kind (F : Ft) : (PyData.str (ftK F)).canLay0 = true := by
  cases F <;> (simp only [ftK]; decide +kernel)
theorem lay_kinds {d : List (Ft × List Nat)} : ∀ e ∈ d.map kD, e.canLay0 = true ∧ e.depth ≤ 40 := fun e he => by
  obtain ⟨z, _, rfl⟩ := List.mem_map.mp he
  exact ⟨lay_kind z.1, Nat.zero_le _⟩
theorem sh_sch (S : List Nat) : SeqAt.shaped (eSch S) = true := sh_tup fun e he => by
  obtain ⟨z, _, rfl⟩ := List.mem_map.mp he
  exact ⟨rfl, Nat.zero_le _⟩
theorem eqv_of_sh {d : D} (h : SeqAt.shaped d = true) : PyData.eqv d d = true := SeqAt.eqv_refl d (SeqAt.canLay_of_shaped h)
theorem lay_thg (g : Thg) : (PyData.str g.s).canLay0 = true := by cases g <;> (simp only [Thg.s]; decide +kernel)
theorem lay_wd (g : Wd) : (PyData.str g.s).canLay0 = true := by cases g <;> (simp only [Wd.s]; decide +kernel)
theorem lay_rest (F : Ft) : ∀ e ∈ ftR F, e.canLay0 = true := by
  cases F with
  | fail t pc w => intro e he; simp only [ftR, List.mem_cons, List.not_mem_nil, or_false] at he; rcases he with rfl | rfl | rfl <;> first | rfl | exact lay_wd _
  | dead l =>
    intro e he
    have : e = eBl l := by simpa [ftR] using he
    subst this
    show PyData.canLayAll0 _ = true
    refine lay_all fun x hx => ?_
    obtain ⟨z, _, rfl⟩ := List.mem_map.mp hx
    show PyData.canLayAll0 [_, _] = true
    refine lay_all fun y hy => ?_
    simp only [List.mem_cons, List.not_mem_nil, or_false] at hy
    rcases hy with rfl | rfl
    · rfl
    · exact lay_thg _
  | race t pc o opc v => intro e he; simp only [ftR, List.mem_cons, List.not_mem_nil, or_false] at he; rcases he with rfl | rfl | rfl | rfl | rfl <;> first | rfl | exact lay_thg _
  | lost t pc => intro e he; simp only [ftR, List.mem_cons, List.not_mem_nil, or_false] at he; rcases he with rfl | rfl | rfl <;> first | rfl | decide +kernel
  | broken t pc o opc => intro e he; simp only [ftR, List.mem_cons, List.not_mem_nil, or_false] at he; rcases he with rfl | rfl | rfl | rfl <;> rfl
def keyD (z : Ft × List Nat) : D := eKey z.1
theorem dep_key (F : Ft) : (eKey F).depth ≤ 40 := by rw [← kf_eq]; exact kf_depth F
theorem lay_keys {d : List (Ft × List Nat)} : ∀ e ∈ d.map keyD, e.canLay0 = true ∧ e.depth ≤ 40 := fun e he => by
  obtain ⟨z, _, rfl⟩ := List.mem_map.mp he
  refine ⟨?_, dep_key z.1⟩
  show (true && ((PyData.tuple (ftR z.1)).canLay0 && true)) = true
  rw [show (PyData.tuple (ftR z.1)).canLay0 = true from lay_all (lay_rest z.1)]
  rfl
theorem sb_keysF (d : List (Ft × List Nat)) : Sb (d.map keyD) := .inl fun a ha b hb => by
  obtain ⟨z, _, rfl⟩ := List.mem_map.mp ha
  obtain ⟨y, _, rfl⟩ := List.mem_map.mp hb
  exact near_keys_ft _ _
theorem leK_tot : TotalLe leK := by
  have := sortLe_total (PyProof.Rows.listOrd PyProof.Rows.itemOrd) false fun z : Ft × List Nat => keyToks (kf (eFt z.1))
  exact this
theorem keys_sorted (d : List (Ft × List Nat)) : ((d.mergeSort leK).map keyD).mergeSort dle = (d.mergeSort leK).map keyD := by
  refine List.mergeSort_of_pairwise ?_
  rw [List.pairwise_map]
  refine (sort_pairwise leK_tot d).imp fun {a b} h => ?_
  have h : dle (kf (eFt a.1)) (kf (eFt b.1)) = true := h
  rw [kf_eq, kf_eq] at h
  exact h
end Ev

-- part EvW25
set_option maxHeartbeats 400000
set_option Elab.async false
set_option linter.all false
set_option maxRecDepth 100000
set_option maxHeartbeats 4000000
/-! The walks: the law. -/
namespace Ev
open PySem PySem.W L2
theorem peK {X : Cx} {K : PySem.W.Frag} {e : Expr} {te : PySem.W.Frag → TE} (h : X.K = K) (p : PE X e (te X.K)) : PE X e (te K) := h ▸ p
def kindF : D → Option D
  | .tuple (.tuple (k :: _) :: _) => some k
  | _ => none
theorem kindF_at (z : Ft × List Nat) : kindF (eFind z) = some (kD z) := by
  unfold eFind
  rw [eFt_eq]
  rfl
theorem kindF_all : ∀ l : List (Ft × List Nat), (l.map eFind).filterMap kindF = l.map kD
  | [] => rfl
  | z :: l => by rw [List.map_cons, List.filterMap_cons, kindF_at, kindF_all l]; rfl
theorem headF_kind (F : Ft) : headF (eFt F) = some (.str (ftK F)) := by rw [eFt_eq]; rfl
theorem headF_kinds : ∀ l : List (Ft × List Nat), ((l.map (fun z : Ft × List Nat => z.1)).map eFt).filterMap headF = l.map kD
  | [] => rfl
  | z :: l => by rw [List.map_cons, List.map_cons, List.filterMap_cons, headF_kind, headF_kinds l]; rfl
def keyF : D → Option D
  | .tuple (.tuple (.str k :: r) :: _) => some (.tuple [.int (kIx k), .tuple r])
  | _ => none
theorem keyF_at (z : Ft × List Nat) : keyF (eFind z) = some (keyD z) := by
  unfold keyD
  rw [← kf_eq]
  unfold eFind
  rw [eFt_eq]
  rfl
theorem keyF_all : ∀ l : List (Ft × List Nat), (l.map eFind).filterMap keyF = l.map keyD
  | [] => rfl
  | z :: l => by rw [List.map_cons, List.filterMap_cons, keyF_at, keyF_all l]; rfl
def kindsV : List V := [.str "failure", .str "deadlock", .str "race", .str "lost", .str "broken"]
theorem ix_kind (F : Ft) : kindsV[ftN F]? = some (.str (ftK F)) ∧ eqV (.str (ftK F)) (.str (ftK F)) = true ∧ ∀ (m : Nat) (z : V), m < ftN F → kindsV[m]? = some z → eqV z (.str (ftK F)) = false := by
  cases F <;> refine ⟨rfl, by simp only [ftK]; decide +kernel, fun m z h e => ?_⟩ <;> simp only [ftN] at h <;> rcases m with _ | _ | _ | _ | m <;> first | omega | (cases e; simp only [ftK]; decide +kernel)
theorem drop1 (F : Ft) : (List.drop (HT.sIx (PyData.str (ftK F) :: ftR F).length 0 (some 1)) (PyData.str (ftK F) :: ftR F)).take (HT.sIx (PyData.str (ftK F) :: ftR F).length (PyData.str (ftK F) :: ftR F).length none - HT.sIx (PyData.str (ftK F) :: ftR F).length 0 (some 1)) = ftR F := by
  rw [show (some (1 : Int)) = some ((1 : Nat) : Int) from rfl, HT.sIx_none, HT.sIx_nat, Nat.min_eq_left (by simp), List.length_cons, Nat.add_sub_cancel, List.drop_succ_cons, List.drop_zero, List.take_of_length_le (Nat.le_refl _)]
theorem uniq_of : ∀ {d : List (Ft × List Nat)}, (d.map (·.1)).Nodup → ∀ {F : Ft} {S T : List Nat}, (F, S) ∈ d → (F, T) ∈ d → S = T
  | [], _, _, _, _, h, _ => nomatch h
  | z :: d, nd, F, S, T, h1, h2 => by
    rw [List.map_cons, List.nodup_cons] at nd
    rcases List.mem_cons.mp h1 with e1 | h1
    · rcases List.mem_cons.mp h2 with e2 | h2
      · exact (Prod.mk.inj (e1.trans e2.symm)).2
      · exact absurd (show z.1 ∈ d.map (·.1) by rw [← e1]; exact List.mem_map_of_mem (f := (·.1)) h2) nd.1
    · rcases List.mem_cons.mp h2 with e2 | h2
      · exact absurd (show z.1 ∈ d.map (·.1) by rw [← e2]; exact List.mem_map_of_mem (f := (·.1)) h1) nd.1
      · exact uniq_of nd.2 h1 h2
section
variable {P : Program} {w : World} {K : PySem.W.Frag} {mg : Str → Option Value} {base : Heap} {C : Addr}
/-- law: 0 _law_script, 1 _law_program_here, 2 _law_limit, 3 _law_due, 4 _law_order, 5 _law_entry, 6 _law_fault, 7 _law_told, 8 _law_find, 9 _law_kinds, 10 _law_keys -/
abbrev s_law : Stmt := top 93
theorem sc_law : FnScope ["_law_script", "_law_program_here", "_law_limit", "_law_due", "_law_order", "_law_entry", "_law_fault", "_law_told", "_law_find", "_law_kinds", "_law_keys"] ["_law_script"] (defScope s_law) := ⟨rfl, rfl, rfl, by decide +kernel, rfl, by decide +kernel, by decide +kernel⟩
def spLaw (K : PySem.W.Frag) : L2.Sp := fun vs H Q _ => ∃ a, ∃ ns : List Int, vs = [.ref a] ∧ SqL K H a (ns.map V.int) ∧ ns.length ≤ 63 ∧ ∀ H', Q (.bl true) H'
theorem ok_law (T : Txt w K mg C) {f : Addr} {fd : FuncData} (F : Fun K "law" "law" s_law f fd) : FnOk P w K mg base CX0 15 f fd ["_law_script"] (spLaw K) := by
  refine F.ok sc_law (fun vs H Q E h => ?_) (fun cdv A outer s H vs Q E hr h => ?_)
  · obtain ⟨_, _, rfl, _⟩ := h
    rfl
  · obtain ⟨a, ns, rfl, hq, hn, k⟩ := h
    refine ⟨_, (pss_cons (ps_set (i := 1) sc_law.nd rfl (Or.inl rfl) (pe_own (ok_law_drawn T) (hr.mono (by decide)) rfl (pa_cons (pv 0) pa_nil)))
        (pss_cons (ps_set (i := 2) sc_law.nd rfl (Or.inl rfl) (pe_op op_add pe_int (pe_op op_mod (pe_callTy call_int1 (by rfl) T.int (by decide +kernel) (pa_cons (pe_own (ok_law_cell T) (hr.mono (by decide)) rfl (pa_cons (pv 0) (pa_cons pe_int pa_nil))) pa_nil)) pe_int)))
        (pss_cons (ps_set (i := 3) sc_law.nd rfl (Or.inl rfl) pe_dnewN)
        (pss_cons (ps_set (i := 4) sc_law.nd rfl (Or.inl rfl) (pe_lst pa_nil))
        (pss_cons (ps_for PassesOwn.never rfl (pi_list (pe_own (ok_law_complete T) (hr.mono (by decide)) rfl (pa_cons (pv 1) (pa_cons (pv 2) (pa_cons (pe_own (ok_law_all T) (hr.mono (by decide)) rfl (pa_cons (pv 1) (pa_cons (pv 2) pa_nil))) pa_nil))))) (pg_name (i := 5) sc_law.nd rfl (Or.inl rfl))
          (pss_one (ps_for PassesOwn.never rfl (pi_list (pe_own (ok_faults_of T) (hr.mono (by decide)) rfl (pa_cons (pv 1) (pa_cons (pe_ix ix_D (pv 5) pe_int (fun _ _ => rfl)) pa_nil)))) (pg_name (i := 6) sc_law.nd rfl (Or.inl rfl))
            (pss_one (ps_if (pt_cmpR (op_notInN hr.units) (pv 6) (pv 3) (by rfl))
              (pss_cons (ps_dputN hr.units (pv 3) (pv 6) (pe_ix ix_D (pv 5) pe_int (fun _ _ => rfl)) rfl)
              (pss_one (ps_expr (pe_bm PySem.F.plainAttrs_list PySem.F.slot_list_append PySem.F.type_list_append mt_append (pv 4) (pa_cons (pv 6) pa_nil)))))
              pss_nil)))))
        (pss_cons (ps_set (i := 7) sc_law.nd rfl (Or.inl rfl) (pe_own (ok_finds T) (hr.mono (by decide)) rfl (pa_cons (pv 1) (pa_cons (pv 2) (pa_cons pe_int pa_nil)))))
        (pss_cons (ps_if (pt_cmpR (op_neD hr.units) (pe_callB (call_sortD hr.units) (by rfl) T.sorted (by decide +kernel) (pa_cons (pe_lc (own := [("_law_find", 8)]) (g := gName 8) rfl sc_law.nd (pi_list (pv 7)) (blkOk_by (N := ["_law_script", "_law_program_here", "_law_limit", "_law_due", "_law_order", "_law_entry", "_law_fault", "_law_told", "_law_find", "_law_kinds", "_law_keys"]) (sc := defScope s_law) (own := [("_law_find", 8)]) (by decide +kernel)) (fun _ _ _ _ _ => (pg_name (i := 8) sc_law.nd rfl (Or.inl rfl))) (fun _ _ _ _ _ => pts_nil) (fun _ _ _ _ _ => (pe_ix (ix_DK rfl) (pe_ix (ix_DK rfl) (pv 8) pe_int (fun _ _ => rfl)) pe_int (fun _ _ => rfl)))) pa_nil)) (pe_callB (call_sortD hr.units) (by rfl) T.sorted (by decide +kernel) (pa_cons (pe_lc (own := [("_law_fault", 6)]) (g := gName 6) rfl sc_law.nd (pi_list (pv 4)) (blkOk_by (N := ["_law_script", "_law_program_here", "_law_limit", "_law_due", "_law_order", "_law_entry", "_law_fault", "_law_told", "_law_find", "_law_kinds", "_law_keys"]) (sc := defScope s_law) (own := [("_law_fault", 6)]) (by decide +kernel)) (fun _ _ _ _ _ => (pg_name (i := 6) sc_law.nd rfl (Or.inl rfl))) (fun _ _ _ _ _ => pts_nil) (fun _ _ _ _ _ => (pe_ix (ix_DK rfl) (pv 6) pe_int (fun _ _ => rfl)))) pa_nil)) (nomark _))
          (pss_one (ps_ret pe_bl))
          pss_nil)
        (pss_cons (ps_for PassesOwn.never rfl (pi_list (pv 7)) (pg_name (i := 8) sc_law.nd rfl (Or.inl rfl))
          (pss_one (ps_if (pt_cmpR (op_neD hr.units) (pe_dgetN hr.units (pv 3) (pe_ix ix_D (pv 8) pe_int (fun _ _ => rfl)) pe_non ⟨rfl, rfl, rfl, rfl⟩) (pe_ix ix_D (pv 8) pe_int (fun _ _ => rfl)) (nomark _))
            (pss_one (ps_ret pe_bl))
            pss_nil)))
        (pss_cons (ps_set (i := 9) sc_law.nd rfl (Or.inr rfl) (pe_lst (pa_cons pe_str (pa_cons pe_str (pa_cons pe_str (pa_cons pe_str (pa_cons pe_str pa_nil)))))))
        (pss_cons (ps_setLc (i := 10) (own := [("_law_find", 8)]) (g := gName 8) rfl sc_law.nd rfl rfl (sw_true rfl rfl rfl (by decide +kernel)) (pi_list (pv 7)) (blkOk_by (N := ["_law_script", "_law_program_here", "_law_limit", "_law_due", "_law_order", "_law_entry", "_law_fault", "_law_told", "_law_find", "_law_kinds", "_law_keys"]) (sc := defScope s_law) (own := [("_law_find", 8)]) (by decide +kernel)) (fun _ _ _ _ _ => (pg_name (i := 8) sc_law.nd rfl (Or.inl rfl))) (fun _ _ _ _ _ => pts_nil) (fun _ _ _ _ _ => (pe_tup (pa_cons (peK (te := fun K => tBM K "list" (rIndex K) (tVar 9) (tCons (tOp (rIxD K) (tOp (rIxD K) (tVar 8) (tC (.int 0))) (tC (.int 0))) tNil)) rfl (pe_bm PySem.F.plainAttrs_list PySem.F.slot_list_index PySem.F.type_list_index mt_index (pv 9) (pa_cons (pe_ix ix_D (pe_ix ix_D (pv 8) pe_int (fun _ _ => rfl)) pe_int (fun _ _ => rfl)) pa_nil))) (pa_cons (pe_slice (sl_DK rfl) (pe_ix (ix_DK rfl) (pv 8) pe_int (fun _ _ => rfl)) (po_some pe_int) po_none) pa_nil)))))
        (pss_one (ps_ret (pe_and (pe_cmpR (op_eqD hr.units) (pv 10) (pe_callB (call_sortD hr.units) (by rfl) T.sorted (by decide +kernel) (pa_cons (pv 10) pa_nil)) (nomark _)) (pe_one (pe_cmpR op_eq (pe_callB call_len_seq (by rfl) T.len PySem.boot_len (pa_cons (pv 7) pa_nil)) (pe_callB call_len_seq (by rfl) T.len PySem.boot_len (pa_cons (pv 4) pa_nil)) (nomark _)))))))))))))))), ?_⟩
    refine ⟨_, rfl, a, ns, rfl, hq, fun p H1 v1 po sm hp s1 hv1 => ?_⟩
    refine ⟨_, rfl, a, ns, 10, rfl, s1.seq hq, fun z => .inl ⟨_, rfl, _, _, rfl, rfl, by show (0 : Int) < 5; decide, _, _, rfl, rfl, ?_⟩⟩
    have z0 : 0 ≤ z % 5 := Int.emod_nonneg _ (by decide)
    have z1 : z % 5 < 5 := Int.emod_lt_of_pos _ (by decide)
    obtain ⟨L, hLe⟩ : ∃ L : Nat, 4 + z % 5 = (L : Int) := ⟨(4 + z % 5).toNat, by omega⟩
    have hL4 : 4 ≤ L := by omega
    have hL8 : L ≤ 8 := by omega
    try dsimp only [gName]
    rw [hLe]
    intro dd hdd
    have sd := Same.new0 hdd (o := DNo P w dd [])
    refine ⟨Nat.zero_le _, fun lo hlo => ?_⟩
    have hlo1 : upd H1 dd (DNo P w dd []) lo = none := hlo
    have hdl : dd ≠ lo := fun q => by rw [← q, upd_same] at hlo1; cases hlo1
    have s2 := (s1.trans sd).new hlo1 (o := .lst [])
    have hd2 : upd (upd H1 dd (DNo P w dd [])) lo (.lst []) dd = some (DNo P w dd []) := by rw [upd_ne hdl]; exact upd_same
    have ho2 : upd (upd H1 dd (DNo P w dd [])) lo (.lst []) lo = some (.lst []) := upd_same
    have hdd0 : H dd = none := s1.free hdd
    have hlo0 : H lo = none := (s1.trans sd).free hlo1
    have rv1 : Rp K (upd (upd H1 dd (DNo P w dd [])) lo (.lst [])) v1 (eProg p) := (hv1.sm sd).tle (Tle.new hlo1)
    refine ⟨_, rfl, _, rfl, _, rfl, _, rfl, ?_⟩
    refine ⟨p, L, .cons rv1 (.cons (.int _) .nil), hp, po, sm, hL8, fun H4 la xa s4 hla hxa ra => ?_⟩
    have hcnt := dfs_len po sm hL8 (grow_R p L) (sub_R p L) (kidsR_len p L)
    refine ⟨p, L, _, _, la, xa, rfl, rv1.sm s4, hxa, ra, hp, by rw [List.length_mergeSort]; omega, fun e he => ?_, fun H5 lc xc s5 hlc hxc rc => ?_⟩
    · have := dfs_ok po (grow_R p L) (sub_R p L) ((List.mergeSort_perm _ _).mem_iff.mp he)
      exact ⟨this.1, this.2.2.2⟩
    have s24 := s2.trans s4
    have s25 := s24.trans s5
    have hd5 := s5 _ _ (s4 _ _ hd2)
    have ho5 := s5 _ _ (s4 _ _ ho2)
    have rv5 := (rv1.sm s4).sm s5
    have hcd : lc ≠ dd := fun q => by
      have h := s4 _ _ hd2
      rw [← q, hlc] at h
      cases h
    have hcl : lc ≠ lo := fun q => by
      have h := s4 _ _ ho2
      rw [← q, hlc] at h
      cases h
    generalize hEn : (((dfs (kidsR p L) L (mk p [])).mergeSort leE).filter (compl p L)) = En at rc
    have hA : En.map (·.S) = allA p L := by rw [← hEn]; rfl
    have hEl : En.length ≤ 600 := by
      rw [← hEn]
      refine Nat.le_trans (List.length_filter_le _ _) ?_
      rw [List.length_mergeSort]
      exact hcnt
    have hEa : ∀ e ∈ En, okS p (first p) e.S ∧ e.S.length ≤ L := fun e he => by
      have := (mem_allA po (L := L) (S := e.S)).mp (by rw [← hA]; exact List.mem_map_of_mem he)
      exact ⟨this.1, this.2.1⟩
    refine for_LD (fun i σ H' => (SqL K H' lc xc ∧ Tle K H5 H') ∧ H' lc = some (.lst xc) ∧ Same H H' ∧ ∃ xs zs b c, ∃ d : List (Ft × List Nat), σ = [some (.ref a), some v1, some (.int (L : Int)), some (.ref dd), some (.ref lo), b, c, none, none, none, none] ∧ H' dd = some (DNo P w dd xs) ∧ H' lo = some (.lst zs) ∧ DF K H' (fun v S => Rp K H' v (eSch S)) xs d ∧ RpAll K H' zs ((d.map (fun z : Ft × List Nat => z.1)).map eFt) ∧ Firsts (Told p) ((En.take i).map (·.S)) d ∧ xs.length ≤ i * 4000)
      (SqL.of hxc) rc ⟨⟨SqL.of hxc, Tle.refl⟩, hxc, s25, [], [], none, none, [], rfl, hd5, ho5, .nil, .nil, Firsts.nil _, Nat.zero_le _⟩ (fun m σ H' q => q.1) ?_ ?_
    · rintro i x e σ H6 em rx ⟨⟨_, tl⟩, hxc6, s6, xs, zs, b, c, d, rfl, hd6, ho6, df, rz, fi, hl⟩
      rw [List.getElem?_map] at em
      obtain ⟨en, hen, rfl⟩ := Option.map_eq_some_iff.mp em
      have hi : i < En.length := (List.getElem?_eq_some_iff.mp hen).1
      obtain ⟨ho, hSl⟩ := hEa en (List.mem_of_getElem? hen)
      have rv6 := rv5.tle tl
      refine ⟨_, rfl, _, rfl, _, _, _, rx, rfl, at0, fun u hu => ?_⟩
      have hu : Rp K H6 u (eSch en.S) := hu
      refine ⟨p, en.S, .cons rv6 (.cons hu .nil), hp, po, ho, by omega, fun Fs H7 lf xf hF lF s7 hlf hxf rf => ?_⟩
      have hne2 : lf ≠ dd := fun q => by subst q; rw [hd6] at hlf; cases hlf
      have hne3 : lf ≠ lo := fun q => by subst q; rw [ho6] at hlf; cases hlf
      have s67 := s6.trans s7
      have rx7 := rx.sm s7
      have turn0 := fi.turn en.S
      refine for_LD (fun m σ H' => (SqL K H' lf xf ∧ Tle K H7 H') ∧ H' lf = some (.lst xf) ∧ H' lc = some (.lst xc) ∧ Same H H' ∧ ∃ xs zs c, ∃ d : List (Ft × List Nat), σ = [some (.ref a), some v1, some (.int (L : Int)), some (.ref dd), some (.ref lo), some x, c, none, none, none, none] ∧ H' dd = some (DNo P w dd xs) ∧ H' lo = some (.lst zs) ∧ DF K H' (fun v S => Rp K H' v (eSch S)) xs d ∧ RpAll K H' zs ((d.map (fun z : Ft × List Nat => z.1)).map eFt) ∧ Turn (Told p) ((En.take i).map (·.S)) en.S (Fs.take m) d ∧ xs.length ≤ i * 4000 + m)
        (SqL.of hxf) rf ⟨⟨SqL.of hxf, Tle.refl⟩, hxf, s7 _ _ hxc6, s67, xs, zs, _, d, rfl, s7 _ _ hd6, s7 _ _ ho6, df.mono (Tle.same s7) (fun _ _ q => q.sm s7), rz.sm s7, turn0, by omega⟩ (fun m σ H' q => q.1) ?_ ?_
      · rintro m y e σ H8 em ry8 ⟨⟨_, tl8⟩, hxf8, hxc8, s8, xs, zs, c, d, rfl, hd8, ho8, df, rz, tu, hl⟩
        rw [List.getElem?_map] at em
        obtain ⟨F, hF', rfl⟩ := Option.map_eq_some_iff.mp em
        have hm : m < Fs.length := (List.getElem?_eq_some_iff.mp hF').1
        have rx2 := ry8
        rw [eFt_eq] at rx2
        obtain ⟨bx, _, rfl, _, _⟩ := rx2.toTup
        have ek : nk (.tuple (.str (ftK F) :: ftR F)) = fk F := by rw [fk, eFt_eq]
        refine ⟨_, rfl, _, rfl, dd, bx, xs, _, rfl, rfl, df.key hd8 ry8, _, rfl, ?_⟩
        rw [ek]
        rcases df.find F with ⟨e1, e2⟩ | ⟨b', v', c', e1, e2, _⟩
        · rw [e1]
          refine iteT ?_
          refine ⟨_, rfl, _, _, _, rx7.tle tl8, rfl, at0, fun u hu => ⟨_, rfl, _, rfl, dd, bx, xs, _, rfl, rfl, df.key hd8 ry8, sizeLine_small (by omega), ?_⟩⟩
          rw [ek]
          have hlen := put_len xs (fk F) bx u
          have hu : Rp K H8 u (eSch en.S) := hu
          have T9 : Tle K H8 (upd H8 dd (DNo P w dd (putV xs (fk F) bx u))) := Tle.upd (by rw [hd8]; trivial)
          have s9 : Same H (upd H8 dd (DNo P w dd (putV xs (fk F) bx u))) := s8.wr hdd0
          have hd9 : upd H8 dd (DNo P w dd (putV xs (fk F) bx u)) dd = some (DNo P w dd (putV xs (fk F) bx u)) := upd_same
          have ho9 : upd H8 dd (DNo P w dd (putV xs (fk F) bx u)) lo = some (.lst zs) := by rw [upd_ne hdl.symm]; exact ho8
          have hxf9 : upd H8 dd (DNo P w dd (putV xs (fk F) bx u)) lf = some (.lst xf) := by rw [upd_ne hne2]; exact hxf8
          have hxc9 : upd H8 dd (DNo P w dd (putV xs (fk F) bx u)) lc = some (.lst xc) := by rw [upd_ne hcd]; exact hxc8
          have df9 := (df.snoc ry8 hu e2).mono (R' := fun v S => Rp K (upd H8 dd (DNo P w dd (putV xs (fk F) bx u))) v (eSch S)) T9 fun _ _ q => q.tle T9
          have lz : zs.length = xs.length := by rw [rz.length, List.length_map, List.length_map, df.length]
          have rz9 := (rz.snoc ry8).tle T9
          have tl9 := tl8.trans T9
          refine ⟨_, rfl, .inl ⟨rfl, _, SqL.of ho9⟩, _, rfl, lo, zs, _, rfl, rfl, ho9, sizeLine_small (by omega), ?_⟩
          have T10 : Tle K (upd H8 dd (DNo P w dd (putV xs (fk F) bx u))) (upd (upd H8 dd (DNo P w dd (putV xs (fk F) bx u))) lo (.lst (zs ++ [.ref bx]))) := Tle.lst ho9
          have hxf10 : upd (upd H8 dd (DNo P w dd (putV xs (fk F) bx u))) lo (.lst (zs ++ [.ref bx])) lf = some (.lst xf) := by rw [upd_ne hne3]; exact hxf9
          have hxc10 : upd (upd H8 dd (DNo P w dd (putV xs (fk F) bx u))) lo (.lst (zs ++ [.ref bx])) lc = some (.lst xc) := by rw [upd_ne hcl]; exact hxc9
          have hd10 : upd (upd H8 dd (DNo P w dd (putV xs (fk F) bx u))) lo (.lst (zs ++ [.ref bx])) dd = some (DNo P w dd (putV xs (fk F) bx u)) := by rw [upd_ne hdl]; exact hd9
          refine ⟨⟨SqL.of hxf10, tl9.trans T10⟩, hxf10, hxc10, s9.wr hlo0, putV xs (fk F) bx u, zs ++ [.ref bx], _, d ++ [(F, en.S)], rfl, hd10, upd_same, df9.mono T10 (fun _ _ q => q.tle T10), ?_, ?_, by omega⟩
          · rw [List.map_append, List.map_append]
            exact rz9.tle T10
          · rw [take_snoc hF']
            exact tu.new e2
        · rw [e1]
          refine iteF ⟨⟨SqL.of hxf8, tl8⟩, hxf8, hxc8, s8, xs, zs, _, d, rfl, hd8, ho8, df, rz, ?_, by omega⟩
          rw [take_snoc hF']
          exact tu.old (List.mem_map_of_mem (f := (·.1)) e2)
      · rintro σ H8 ⟨⟨_, tl8⟩, hxf8, hxc8, s8, xs, zs, c, d, rfl, hd8, ho8, df, rz, tu, hl⟩
        rw [List.length_map] at hl tu
        rw [List.take_length] at tu
        refine ⟨⟨SqL.of hxc8, (tl.trans (Tle.same s7)).trans tl8⟩, hxc8, s8, xs, zs, _, _, d, rfl, hd8, ho8, df, rz, ?_, by omega⟩
        rw [take_snoc hen, List.map_append]
        exact tu.done hF
    · rintro σ H6 ⟨⟨_, tl⟩, hxc6, s6, xs, zs, b, c, d, rfl, hd6, ho6, df, rz, fi, hl⟩
      rw [List.length_map, List.take_length] at fi
      rw [List.length_map] at hl
      rw [hA] at fi
      have rv6 := rv5.tle tl
      refine ⟨_, rfl, _, rfl, ?_⟩
      refine ⟨p, L, 3000, .cons rv6 (.cons (.int _) (.cons (.int _) .nil)), hp, po, sm, by omega, hL8, by decide, fun d' H7 lt yt fi' dl' s7 hlt hyt rt => ?_⟩
      have pm : d.Perm d' := same_firsts po fi fi'
      have s67 := s6.trans s7
      try dsimp only [gName]
      have hlm : (d'.mergeSort leK).length = d'.length := List.length_mergeSort _
      have hpl : d.length = d'.length := pm.length_eq
      have hdx : d.length = xs.length := df.length.symm
      have hd7 := s7 _ _ hd6
      have ho7 := s7 _ _ ho6
      have df7 := df.mono (R' := fun v S => Rp K H7 v (eSch S)) (Tle.same s7) fun _ _ q => q.sm s7
      have rz7 := rz.sm s7
      refine ⟨_, rfl, ?_⟩
      refine lc_LD kindF (SqL.of hyt) rt (by rw [List.length_map]; omega) (fun x e H' Cn N he r s3 c1 c2 => ⟨rfl, iteT (B := N H') ?_⟩) fun l8 x8 H8 hl8 s8 e8 r8 => ?_
      · obtain ⟨z, hz, rfl⟩ := List.mem_map.mp he
        refine ⟨_, rfl, _, _, _, r, rfl, at0, fun u hu => ?_⟩
        have hu : Rp K H' u (eFt z.1) := hu
        rw [eFt_eq] at hu
        exact ⟨_, _, _, hu, rfl, at0, fun v hv => c1 _ _ _ (kindF_at z) hv (Same.refl _)⟩
      rw [kindF_all] at r8
      refine ⟨l8, x8, _, rfl, SqL.of e8, r8, .inr (sb_kinds _), fun e he => (lay_kinds e he).2, fun l9 x9 H9 hl9 s9 e9 r9 => ?_⟩
      have s79 := s8.trans s9
      refine ⟨_, rfl, ?_⟩
      refine lc_LD headF (SqL.of (s79 _ _ ho7)) (rz7.sm s79) (by rw [List.length_map, List.length_map]; omega) (fun x e H' Cn N he r s3 c1 c2 => ⟨rfl, iteT (B := N H') ?_⟩) fun l10 x10 H10 hl10 s10 e10 r10 => ?_
      · obtain ⟨F, hF, rfl⟩ := List.mem_map.mp he
        rw [eFt_eq] at r
        exact ⟨_, rfl, _, _, _, r, rfl, at0, fun v hv => c1 _ _ _ (headF_kind F) hv (Same.refl _)⟩
      rw [headF_kinds] at r10
      refine ⟨l10, x10, _, rfl, SqL.of e10, r10, .inr (sb_kinds _), fun e he => (lay_kinds e he).2, fun l11 x11 H11 hl11 s11 e11 r11 => ?_⟩
      have s911 := s10.trans s11
      rw [kinds_perm (((List.mergeSort_perm d' leK).trans pm.symm))] at r9
      refine ⟨_, _, .lst (SqL.of (s911 _ _ e9)) (RpAll.dp _ _ (r9.sm s911)), .lst (SqL.of e11) (RpAll.dp _ _ r11), sh_srt lay_kinds, sh_srt lay_kinds, ?_⟩
      rw [eqv_of_sh (sh_srt lay_kinds)]
      refine ⟨_, rfl, iteF ?_⟩
      have s711 := s79.trans s911
      have hyt11 := s711 _ _ hyt
      have rt11 := rt.sm s711
      have hd11 := s711 _ _ hd7
      have ho11 := s711 _ _ ho7
      have df11 := df7.mono (R' := fun v S => Rp K H11 v (eSch S)) (Tle.same s711) fun _ _ q => q.sm s711
      have rz11 := rz7.sm s711
      have inD : ∀ z, z ∈ d'.mergeSort leK → z ∈ d := fun z hz => pm.symm.mem_iff.mp ((List.mergeSort_perm _ _).mem_iff.mp hz)
      refine ⟨_, rfl, ?_⟩
      refine for_LD (fun m σ H' => (SqL K H' lt yt ∧ Tle K H11 H') ∧ H' = H11 ∧ ∃ y, σ = [some (.ref a), some v1, some (.int (L : Int)), some (.ref dd), some (.ref lo), b, c, some (.ref lt), y, none, none])
        (SqL.of hyt11) rt11 ⟨⟨SqL.of hyt11, Tle.refl⟩, rfl, _, rfl⟩ (fun m σ H' q => q.1) ?_ ?_
      · rintro m x e σ H12 em rx ⟨_, rfl, y, rfl⟩
        rw [List.getElem?_map] at em
        obtain ⟨⟨F, S⟩, hz, rfl⟩ := Option.map_eq_some_iff.mp em
        have hzd := inD _ (List.mem_of_getElem? hz)
        refine ⟨_, rfl, dd, xs, rfl, hd11, _, rfl, _, _, _, rx, rfl, at0, fun u hu => ?_⟩
        have hu : Rp K H12 u (eFt F) := hu
        have hu2 := hu
        rw [eFt_eq] at hu2
        obtain ⟨bx, _, rfl, _, _⟩ := hu2.toTup
        have ek : nk (.tuple (.str (ftK F) :: ftR F)) = fk F := by rw [fk, eFt_eq]
        refine ⟨bx, xs, _, rfl, df11.key hd11 hu, ?_⟩
        rw [ek]
        rcases df11.find F with ⟨_, e2⟩ | ⟨b', v', S', e1, e2, e3⟩
        · exact absurd (List.mem_map_of_mem (f := (·.1)) hzd) e2
        rw [e1]
        have e4 : S' = S := uniq_of fi.nd e2 hzd
        subst e4
        refine ⟨_, rfl, _, _, _, rx, rfl, atI_nat (j := 1) rfl, fun u2 hu2 => ?_⟩
        refine ⟨_, _, Rp.dp _ _ e3, Rp.dp _ _ hu2, sh_sch _, sh_sch _, ?_⟩
        rw [eqv_of_sh (sh_sch _)]
        exact ⟨_, rfl, iteF ⟨⟨SqL.of hyt11, Tle.refl⟩, rfl, _, rfl⟩⟩
      · rintro σ H12 ⟨_, rfl, y, rfl⟩
        refine ⟨by show 5 ≤ sizeLine; exact Nat.le_of_lt (sizeLine_small (by decide)), fun lk hlk => ?_⟩
        have s12 : Same H12 (upd H12 lk (.lst kindsV)) := Same.new0 hlk
        have hk12 : upd H12 lk (.lst kindsV) lk = some (.lst kindsV) := upd_same
        refine ⟨_, rfl, ?_⟩
        refine lc_LD keyF (SqL.of (s12 _ _ hyt11)) (rt11.sm s12) (by rw [List.length_map]; omega) (fun x e H' Cn N he r s3 c1 c2 => ⟨rfl, iteT (B := N H') ?_⟩) fun l13 x13 H13 hl13 s13 e13 r13 => ?_
        · obtain ⟨⟨F, S⟩, hz, rfl⟩ := List.mem_map.mp he
          refine ⟨_, rfl, .inl ⟨rfl, _, SqL.of (s3 _ _ hk12)⟩, _, rfl, _, _, _, r, rfl, at0, fun u hu => ?_⟩
          have hu : Rp K H' u (eFt F) := hu
          rw [eFt_eq] at hu
          refine ⟨_, _, _, hu, rfl, at0, fun v hv => ?_⟩
          cases hv.toStr
          obtain ⟨k1, k2, k3⟩ := ix_kind F
          refine ⟨lk, kindsV, _, ftN F, _, rfl, rfl, SqL.of (s3 _ _ hk12), rfl, rfl, k1, k2, k3, ?_⟩
          refine ⟨_, rfl, _, _, _, r, rfl, at0, fun u2 hu2 => ?_⟩
          have hu2 : Rp K H' u2 (eFt F) := hu2
          rw [eFt_eq] at hu2
          refine ⟨1, rfl, _, hu2, fun v2 H2 s2 hv2 => ?_⟩
          rw [drop1] at hv2
          refine ⟨by show 2 ≤ sizeLine; exact Nat.le_of_lt (sizeLine_small (by decide)), fun q hq => ?_⟩
          exact c1 _ _ _ (keyF_at (F, S)) (Rp.newT hq (.cons (.int _) (.cons hv2 .nil))) (s2.trans (Same.new0 hq))
        rw [keyF_all] at r13
        have s1213 := s12.trans s13
        refine ⟨_, rfl, _, rfl, l13, x13, _, rfl, SqL.of e13, r13, .inr (sb_keysF _), fun e he => (lay_keys e he).2, fun l14 x14 H14 hl14 s14 e14 r14 => ?_⟩
        rw [keys_sorted] at r14
        refine ⟨_, _, .lst (SqL.of (s14 _ _ e13)) (RpAll.dp _ _ (r13.sm s14)), .lst (SqL.of e14) (RpAll.dp _ _ r14), sh_list lay_keys, sh_list lay_keys, ?_⟩
        rw [eqv_of_sh (sh_list lay_keys)]
        have s1214 := s1213.trans s14
        have hyt14 := s1214 _ _ hyt11
        have ho14 := s1214 _ _ ho11
        refine ⟨_, rfl, iteT ?_⟩
        refine ⟨_, rfl, _, _, rfl, .inl (SqL.of hyt14), _, rfl, _, _, rfl, .inl (SqL.of ho14), ?_⟩
        have ely : yt.length = d'.length := by rw [rt.length, List.length_map, hlm]
        have elz : zs.length = d'.length := by rw [rz.length, List.length_map, List.length_map, hpl]
        rw [ely, elz]
        refine ⟨rfl, ?_⟩
        have ed : decide (V.int ((d'.length : Nat) : Int) = V.int ((d'.length : Nat) : Int)) = true := decide_eq_true rfl
        show Q (V.bl (decide (V.int ((d'.length : Nat) : Int) = V.int ((d'.length : Nat) : Int)))) _
        rw [ed]
        exact k _
end
end Ev

-- part EvZ3
set_option maxHeartbeats 400000
set_option Elab.async false
set_option linter.all false
set_option maxRecDepth 100000
set_option maxHeartbeats 0
/-! The end. (Printed by wip/genhead.py.) -/
namespace Ev
open PySem PySem.Spec PyProof.Rows L2
theorem facts {P : Program} {w : World} {K : PySem.W.Frag} {h : Heap} {mg : Str → Option Value} {f : Addr} (X : K.In h) (G : h.Ns mainGlobals mg) (hfa : mg ("law" : Str) = some (.ref f)) (c : obX K = vaX w) :
    ∃ fd : FuncData, (∀ (s : Shared) (v : Value), BindsTo s fd ⟨[v], []⟩ [("_law_script", v)]) ∧ ∀ base : Heap, K.In base → base.Ns mainGlobals mg → FnOk P w K mg base CX0 15 f fd ["_law_script"] (spLaw K) := by
  have T := txt_mk X G c
  have cT : He.SaysT faL fnL tsL w K := congrArg (fun z : AlX => z.1) c
  have cD := cT.d
  obtain ⟨fd, F⟩ := cD.def_ 63 (d := dd "law" (top 93)) rfl
  have e := hfa.symm.trans (He.glo_ok X G (cD.fact 63 (f := .glo "law") rfl))
  cases e
  have F : FunD K "law" "law" (defArgs (top 93)) (defBody (top 93)) (defScope (top 93)) [] [] (He.ga K "law") fd := F
  have b := FunD.bindsA (ps := ["_law_script"]) F fun _ _ _ _ _ _ us hl => match us, hl with | [_], _ => rfl
  exact ⟨fd, fun s v => b s [v] rfl, fun base _ _ => ok_law T (fun_ofD F)⟩
end Ev
open PySem PySem.W PySem.Calls PyProof.Rows
set_option maxRecDepth 100000 in
set_option maxHeartbeats 0 in
theorem PySem.Challenge.cw_everyturn_k46_whole_finds_holds : PySem.Challenge.rw_everyturn_k46_whole_finds.Holds := by
  w_on; o_law
  refine HandSHeadRun.head_any (r := OpenLaw.row PySem.Challenge.rw_everyturn_k46_whole_finds) (q := view (OpenLaw.row PySem.Challenge.rw_everyturn_k46_whole_finds).prog [93]) (H := Ev.hkX) (ob := Ev.obS) (M := 5000) (loose := Ev.looseL) (d := HandSHeadRun.topDef (OpenLaw.row PySem.Challenge.rw_everyturn_k46_whole_finds).prog 93) (kwd := []) Ev.obS_eq
    (by kernel_rfl) (fun s => by kernel_rfl) Ev.runX (by kernel_rfl) (by kernel_rfl) (by kernel_rfl) (by rfl) (by first | assumption | decide +kernel) (by decide +kernel) ⟨rfl, rfl, rfl, rfl, rfl, by decide +kernel⟩ ?hw ?hc
  case hw => w_witness2
  case hc =>
    refine L2.walk_ofE (l := PySem.Challenge.rw_everyturn_k46_whole_finds) (n := 63) (k := 15) (x := "_law_script") (CX := L2.CX0) rfl (by decide) (by kernel_rfl) ⟨rfl, by decide, by decide⟩ ?F (fun _ _ _ _ z => z)
    intro w mg fa h Y G hmg0
    obtain ⟨K, KX, c⟩ := Y
    have hmg : mg ("law" : PySem.Str) = some (.ref fa) := by
      have e : (HandSHeadRun.topDef (OpenLaw.row PySem.Challenge.rw_everyturn_k46_whole_finds).prog 93).name = ("law" : PySem.Str) := by kernel_rfl
      rw [← e]
      exact hmg0
    obtain ⟨fd, hb, hF⟩ := Ev.facts (P := (PySem.Challenge.rw_everyturn_k46_whole_finds).prog) (w := w) KX G hmg c
    exact ⟨K, fd, Ev.spLaw K, KX, hb, fun H a ns hl _ hS => ⟨a, ns, rfl, hS, hl, fun _ => rfl⟩, hF⟩
#print axioms PySem.Challenge.cw_everyturn_k46_whole_finds_holds
