import PyProof.Rows.All
import HandS.ForMost
import HandS.ForExc
import HandS.TupAny
import HandS.Deep
import HandS.ExcCtx
import HandS.IsInst
import HandS.SortInts
import HandS.WideBits
import KE.GoesMore
import HandS.Conv
import HandS.More
import KE.KDictDisplayH
import HandS.Small
import KE.KDictCopyH
import HandS.SetFor
import KE.SortCalls
import KE.DatumOrd
import KE.KDictPairs
import HandS.TupSets
import HandS.TupLe
import HandS.HotCalls
import HandS.ExcIs
import PyProof.FactsAll.list_3
import HandS.TupMul
import HandS.Flow
import HandS.Style
import HandS.Rev
import KE.KDictList
import HandS.Text
import PySem.Challenge.RW_needstones_k01_nets_known
set_option Elab.async false
set_option linter.all false
set_option maxRecDepth 100000
set_option maxHeartbeats 8000000
/-! DLA: data trees, the frozen part of a heap, the world of a running def, readings of expressions as plain functions. -/
namespace DL
open PySem L2

/-! ### what may be read stays -/
def Plain : HO → Prop
  | .frz _ _ => False
  | _ => True
structure Sub (F F' : Hp) : Prop where
  rd : ∀ a u, Plain u → Rd F a u → Rd F' a u
  dom : ∀ a, F a ≠ none → F' a ≠ none
  tp : ∀ a vs, F a = some (.tup vs) → F' a = some (.tup vs)
theorem Sub.refl (F : Hp) : Sub F F := ⟨fun _ _ _ h => h, fun _ h => h, fun _ _ h => h⟩
theorem Sub.trans {F G I : Hp} (a : Sub F G) (b : Sub G I) : Sub F I := ⟨fun x u p h => b.rd x u p (a.rd x u p h), fun x h => b.dom x (a.dom x h), fun x vs h => b.tp x vs (a.tp x vs h)⟩
theorem Sub.of {F G : Hp} (h : ∀ a o, F a = some o → G a = some o) : Sub F G where
  rd := fun a u _ r => by
    rcases r with r | ⟨o, r⟩
    · exact .inl (h _ _ r)
    · exact .inr ⟨o, h _ _ r⟩
  dom := fun a n => by
    cases e : F a with
    | none => exact absurd e n
    | some o => rw [h _ _ e]; exact fun z => nomatch z
  tp := fun a vs e => h _ _ e
theorem Sub.none {F G : Hp} (s : Sub F G) {a : Addr} (h : G a = Option.none) : F a = Option.none := by
  cases e : F a with
  | none => rfl
  | some o => exact absurd h (s.dom a (by rw [e]; exact fun z => nomatch z))
theorem Sub.sqL {F G : Hp} {K : PySem.W.Frag} {a : Addr} {xs : List V} (s : Sub F G) (h : SqL K F a xs) : SqL K G a xs := by
  rcases h with h | h
  · exact .inl (s.rd _ _ trivial h)
  · exact .inr h
theorem Sub.sqT {F G : Hp} {K : PySem.W.Frag} {a : Addr} {xs : List V} (s : Sub F G) (h : SqT K F a xs) : SqT K G a xs := by
  rcases h with h | h
  · exact .inl (s.rd _ _ trivial h)
  · exact .inr h
theorem rd_dom {F : Hp} {a : Addr} {u : HO} (h : Rd F a u) : F a ≠ none := by
  rcases h with h | ⟨o, h⟩ <;> rw [h] <;> exact fun z => nomatch z

/-! ### data in the frozen part -/
def keyD : Key → PyData
  | .inl i => .int i
  | .inr x => .str x
def tkeyD (k : List Key) : PyData := .tuple (k.map keyD)
mutual
inductive RD (K : PySem.W.Frag) (F : Hp) : V → PyData → Prop
  | non : RD K F .non .none
  | bl (b : Bool) : RD K F (.bl b) (.bool b)
  | int (i : Int) : RD K F (.int i) (.int i)
  | str (x : Str) : RD K F (.str x) (.str x)
  | lst {a : Addr} {vs : List V} {ds : List PyData} : Rd F a (.lst vs) → RDs K F vs ds → RD K F (.ref a) (.list ds)
  | scr {a : Addr} {ns : List Int} : SqL K F a (ns.map V.int) → RD K F (.ref a) (.dict [(.none, .list (ns.map .int))])
  | adr (a : Addr) : RD K F (.ref a) (.dict [(.none, .int (a : Nat))])
  | tup {a : Addr} {vs : List V} {ds : List PyData} : F a = some (.tup vs) → RDs K F vs ds → RD K F (.ref a) (.tuple ds)
  | dK {a : Addr} {kvs : List (Key × V)} {ds : List PyData} : kvs ≠ [] → Rd F a (.dK kvs) → RDs K F (kvs.map (·.2)) ds → RD K F (.ref a) (.dict ((kvs.map fun p => keyD p.1).zip ds))
  | dT {a : Addr} {kvs : List (List Key × V)} {ds : List PyData} : Rd F a (.dT kvs) → RDs K F (kvs.map (·.2)) ds → RD K F (.ref a) (.dict ((kvs.map fun p => tkeyD p.1).zip ds))
inductive RDs (K : PySem.W.Frag) (F : Hp) : List V → List PyData → Prop
  | nil : RDs K F [] []
  | cons {v : V} {d : PyData} {vs : List V} {ds : List PyData} : RD K F v d → RDs K F vs ds → RDs K F (v :: vs) (d :: ds)
end
mutual
theorem RD.mono {K : PySem.W.Frag} {F G : Hp} (s : Sub F G) : ∀ {v : V} {d : PyData}, RD K F v d → RD K G v d
  | _, _, .non => .non
  | _, _, .bl b => .bl b
  | _, _, .int i => .int i
  | _, _, .str x => .str x
  | _, _, .lst h r => .lst (s.rd _ _ trivial h) (RDs.mono s r)
  | _, _, .scr h => .scr (s.sqL h)
  | _, _, .adr a => .adr a
  | _, _, .tup h r => .tup (s.tp _ _ h) (RDs.mono s r)
  | _, _, .dK n h r => .dK n (s.rd _ _ trivial h) (RDs.mono s r)
  | _, _, .dT h r => .dT (s.rd _ _ trivial h) (RDs.mono s r)
theorem RDs.mono {K : PySem.W.Frag} {F G : Hp} (s : Sub F G) : ∀ {vs : List V} {ds : List PyData}, RDs K F vs ds → RDs K G vs ds
  | _, _, .nil => .nil
  | _, _, .cons a b => .cons (RD.mono s a) (RDs.mono s b)
end
section
variable {K : PySem.W.Frag} {F G : Hp} {vs ws : List V} {ds es : List PyData}
theorem RDs.length : ∀ {vs : List V} {ds : List PyData}, RDs K F vs ds → vs.length = ds.length
  | _, _, .nil => rfl
  | _, _, .cons _ t => by simp [RDs.length t]
theorem RDs.get : ∀ {vs : List V} {ds : List PyData} {i : Nat} {v : V}, RDs K F vs ds → vs[i]? = some v → ∃ d, ds[i]? = some d ∧ RD K F v d
  | _, _, _, _, .nil, e => by simp at e
  | _, _, 0, _, .cons r _, e => by simp at e; subst e; exact ⟨_, rfl, r⟩
  | _, _, i + 1, v, .cons _ t, e => by
    obtain ⟨d, h1, h2⟩ := RDs.get (i := i) (v := v) t (by simpa using e)
    exact ⟨d, by simpa using h1, h2⟩
theorem RDs.get' : ∀ {vs : List V} {ds : List PyData} {i : Nat} {d : PyData}, RDs K F vs ds → ds[i]? = some d → ∃ v, vs[i]? = some v ∧ RD K F v d
  | _, _, _, _, .nil, e => by simp at e
  | _, _, 0, _, .cons r _, e => by simp at e; subst e; exact ⟨_, rfl, r⟩
  | _, _, i + 1, v, .cons _ t, e => by
    obtain ⟨d, h1, h2⟩ := RDs.get' (i := i) (d := v) t (by simpa using e)
    exact ⟨d, by simpa using h1, h2⟩
theorem RDs.append : ∀ {vs ws : List V} {ds es : List PyData}, RDs K F vs ds → RDs K F ws es → RDs K F (vs ++ ws) (ds ++ es)
  | _, _, _, _, .nil, s => s
  | _, _, _, _, .cons a b, s => .cons a (RDs.append b s)
theorem RDs.set {x : V} {d : PyData} (r : RD K F x d) : ∀ {vs : List V} {ds : List PyData} (i : Nat), RDs K F vs ds → RDs K F (vs.set i x) (ds.set i d)
  | _, _, _, .nil => .nil
  | _, _, 0, .cons _ t => .cons r t
  | _, _, i + 1, .cons q t => .cons q (RDs.set r i t)
theorem RDs.take : ∀ {vs : List V} {ds : List PyData} (n : Nat), RDs K F vs ds → RDs K F (vs.take n) (ds.take n)
  | _, _, 0, _ => .nil
  | _, _, _ + 1, .nil => .nil
  | _, _, n + 1, .cons r t => .cons r (RDs.take n t)
theorem RDs.drop : ∀ {vs : List V} {ds : List PyData} (n : Nat), RDs K F vs ds → RDs K F (vs.drop n) (ds.drop n)
  | _, _, 0, r => r
  | _, _, _ + 1, .nil => .nil
  | _, _, n + 1, .cons _ t => RDs.drop n t
theorem RDs.one {v : V} {d : PyData} (r : RD K F v d) : RDs K F [v] [d] := .cons r .nil
theorem RDs.reverse : ∀ {vs : List V} {ds : List PyData}, RDs K F vs ds → RDs K F vs.reverse ds.reverse
  | _, _, .nil => .nil
  | _, _, .cons a b => by
    rw [List.reverse_cons, List.reverse_cons]
    exact (RDs.reverse b).append (.one a)
end

/-- what stands in an object that a def has for itself -/
inductive Cont (K : PySem.W.Frag) (F : Hp) : HO → PyData → Prop
  | lst {vs : List V} {ds : List PyData} : RDs K F vs ds → Cont K F (.lst vs) (.list ds)
  | dK {kvs : List (Key × V)} {ds : List PyData} : kvs ≠ [] → RDs K F (kvs.map (·.2)) ds → Cont K F (.dK kvs) (.dict ((kvs.map fun p => keyD p.1).zip ds))
  | dT {kvs : List (List Key × V)} {ds : List PyData} : RDs K F (kvs.map (·.2)) ds → Cont K F (.dT kvs) (.dict ((kvs.map fun p => tkeyD p.1).zip ds))
theorem Cont.mono {K : PySem.W.Frag} {F G : Hp} {u : HO} {d : PyData} (s : Sub F G) (h : Cont K F u d) : Cont K G u d := by
  cases h with
  | lst r => exact .lst (r.mono s)
  | dK n r => exact .dK n (r.mono s)
  | dT r => exact .dT (r.mono s)
theorem Cont.plain {K : PySem.W.Frag} {F : Hp} {u : HO} {d : PyData} (h : Cont K F u d) : Plain u := by
  cases h <;> trivial
theorem Cont.mut {K : PySem.W.Frag} {F : Hp} {u : HO} {d : PyData} (h : Cont K F u d) : Mut (some u) := by
  cases h <;> trivial
/-- frozen: it is data -/
theorem Cont.rd {K : PySem.W.Frag} {F G : Hp} {u : HO} {d : PyData} {a : Addr} (h : Cont K F u d) (s : Sub F G) (r : Rd G a u) : RD K G (.ref a) d := by
  cases h with
  | lst q => exact .lst r (q.mono s)
  | dK n q => exact .dK n r (q.mono s)
  | dT q => exact .dT r (q.mono s)

/-! ### slots -/
structure Exc where
  cls : Str
  pay : Option PyData
/-- what a name holds: nothing; data that nobody changes; a list or dict of this def's own (b: handed in to be changed); such a one while it is walked; an exception -/
inductive Cell where
  | emp
  | frz (d : PyData)
  | own (b : Bool) (d : PyData)
  | lck (d : PyData)
  | exc (x : Exc)
abbrev Cs := List Cell
/-- what an exception's value is (told by the program's facts) -/
abbrev XR := Hp → V → Exc → Prop
def CellR (K : PySem.W.Frag) (H F : Hp) (x : Option V) : Cell → Prop
  | .emp => True
  | .frz d => ∃ v, x = some v ∧ RD K F v d
  | .own _ d => ∃ a u, x = some (.ref a) ∧ H a = some u ∧ F a = none ∧ Cont K F u d
  | .lck d => ∃ a u, x = some (.ref a) ∧ H a = some u ∧ F a = none ∧ Cont K F u d
  | .exc _ => False
def Cell.mine : Cell → Bool
  | .own _ _ => true
  | .lck _ => true
  | _ => false
/-- the entry: the heap, its frozen part, what was handed in to be changed, the slots that stay -/
structure Ent where
  H₀ : Hp
  F₀ : Hp
  P : Addr → Prop
  pin : Nat → Option V
  lk : Nat → Option PyData
/-- it may come to be frozen: nothing, or a tuple -/
def NewA (H : Hp) (a : Addr) : Prop := H a = none ∨ ∃ vs, H a = some (.tup vs)
theorem NewA.no {H : Hp} {a : Addr} {u : HO} (n : NewA H a) (h : H a = some u) (m : Mut (some u)) : False := by
  rcases n with n | ⟨vs, n⟩ <;> rw [h] at n <;> cases n
  exact m
structure Wl (K : PySem.W.Frag) (e : Ent) (σ : St) (H F : Hp) (env : Cs) : Prop where
  len : σ.length = env.length
  sub : Sub F H
  cell : ∀ (i : Nat) (c : Cell) (x : Option V), env[i]? = some c → σ[i]? = some x → CellR K H F x c
  apart : ∀ (i j : Nat) (c c' : Cell) (a : Addr), i ≠ j → env[i]? = some c → env[j]? = some c' → c.mine = true → c'.mine = true → σ[i]? = some (some (.ref a)) → σ[j]? = some (some (.ref a)) → False
  keep : ∀ a o, e.H₀ a = some o → ¬ e.P a → H a = some o
  new : ∀ a, F a ≠ none → e.F₀ a ≠ none ∨ NewA e.H₀ a ∨ e.P a
  mine : ∀ (i : Nat) (b : Bool) (d : PyData) (a : Addr), env[i]? = some (.own b d) → σ[i]? = some (some (.ref a)) → e.H₀ a = none ∨ e.P a
  pin : ∀ (i : Nat) (c : Cell), env[i]? = some c → ((∃ d, c = .own true d) ∨ ∃ d, c = .lck d) → ∃ v, e.pin i = some v ∧ σ[i]? = some (some v)
  lk : ∀ (i : Nat) (d : PyData), e.lk i = some d → env[i]? = some (.lck d)
  lk2 : ∀ (i : Nat) (d : PyData), env[i]? = some (.lck d) → e.lk i = some d

/-- the heap grows by new objects -/
structure Grow (H F H' F' : Hp) : Prop where
  ex : ∀ a o, H a = some o → H' a = some o
  fz : Sub F F'
  sub : Sub F' H'
  new : ∀ a, F' a ≠ none → F a ≠ none ∨ NewA H a
theorem Grow.refl {H F : Hp} (s : Sub F H) : Grow H F H F := ⟨fun _ _ h => h, .refl _, s, fun _ h => .inl h⟩
theorem upd_sub {F : Hp} {p : Addr} {o : HO} (n : F p = none) : Sub F (upd F p o) := .of fun a u h => by
  rw [upd_ne (ne_of_none h n)]; exact h
end DL

/-! DLB: expressions as functions of the slots. -/
namespace DL
open PySem L2

inductive Res (α : Type) where
  | ok (a : α) (env : Cs)
  | ex (x : Exc) (env : Cs)
  | no
abbrev CE := Cs → Res Cell
abbrev CT := Cs → Res Bool
def Res.bind {α β : Type} (r : Res α) (k : α → Cs → Res β) : Res β := match r with
  | .ok a env => k a env
  | .ex x env => .ex x env
  | .no => .no

/-- a value that an expression gives: frozen, or new and nobody else's -/
def RC (K : PySem.W.Frag) (e : Ent) (σ : St) (H F : Hp) (env : Cs) (v : V) : Cell → Prop
  | .frz d => RD K F v d
  | .own _ d => ∃ p u, v = .ref p ∧ H p = some u ∧ F p = none ∧ Cont K F u d ∧ (e.H₀ p = none ∨ e.P p) ∧ ∀ (i : Nat) (c : Cell), env[i]? = some c → c.mine = true → σ[i]? ≠ some (some (.ref p))
  | _ => False
/-- what is told of an exception: by the program's facts -/
abbrev XP := Exc → Value → Option Addr → Hp → Prop
def Post (K : PySem.W.Frag) (xp : XP) (W : WX) (e : Ent) (σ : St) (F : Hp) (Q : VK) : Res Cell → Prop
  | .ok c env => ∀ v H' F', Wl K e σ H' F' env → Sub F F' → RC K e σ H' F' env v c → Q v H'
  | .ex x env => ∀ H' F' cls d, Wl K e σ H' F' env → Sub F F' → xp x cls d H' → W cls d σ H'
  | .no => False
def PostT (K : PySem.W.Frag) (xp : XP) (W : WX) (e : Ent) (σ : St) (F : Hp) (Q : Bool → Hp → Prop) : Res Bool → Prop
  | .ok b env => ∀ H' F', Wl K e σ H' F' env → Sub F F' → Q b H'
  | .ex x env => ∀ H' F' cls d, Wl K e σ H' F' env → Sub F F' → xp x cls d H' → W cls d σ H'
  | .no => False
def DE (X : Cx) (xp : XP) (W : WX) (ex : Expr) (c : CE) (t : TE) : Prop :=
  PE X ex t ∧ ∀ e σ H F env Q, Wl X.K e σ H F env → Post X.K xp W e σ F Q (c env) → t σ H Q
def DT (X : Cx) (xp : XP) (W : WX) (ex : Expr) (c : CT) (t : TT) : Prop :=
  PT X ex t ∧ ∀ e σ H F env Q, Wl X.K e σ H F env → PostT X.K xp W e σ F Q (c env) → t σ H Q

section
variable {K : PySem.W.Frag} {e : Ent} {σ : St} {H F H' F' : Hp} {env : Cs} {v : V} {d : PyData}
theorem Wl.newA (w : Wl K e σ H F env) {a : Addr} (p : ¬ e.P a) (y : NewA H a) : NewA e.H₀ a := by
  cases z : e.H₀ a with
  | none => exact .inl z
  | some o =>
    have q := w.keep a o z p
    rcases y with y | ⟨vs, y⟩
    · rw [q] at y; cases y
    · rw [q] at y; cases y; exact .inr ⟨vs, z⟩
theorem Wl.grow (w : Wl K e σ H F env) (g : Grow H F H' F') : Wl K e σ H' F' env where
  len := w.len
  sub := g.sub
  cell := fun i c x hc hx => by
    have q := w.cell i c x hc hx
    cases c with
    | emp => trivial
    | frz d => obtain ⟨v, e1, r⟩ := q; exact ⟨v, e1, r.mono g.fz⟩
    | own b d =>
      obtain ⟨a, u, e1, h1, n1, k1⟩ := q
      refine ⟨a, u, e1, g.ex _ _ h1, ?_, k1.mono g.fz⟩
      cases z : F' a with
      | none => rfl
      | some o => rcases g.new a (by rw [z]; exact fun y => nomatch y) with y | y
                  · exact absurd n1 y
                  · exact (y.no h1 k1.mut).elim
    | lck d =>
      obtain ⟨a, u, e1, h1, n1, k1⟩ := q
      refine ⟨a, u, e1, g.ex _ _ h1, ?_, k1.mono g.fz⟩
      cases z : F' a with
      | none => rfl
      | some o => rcases g.new a (by rw [z]; exact fun y => nomatch y) with y | y
                  · exact absurd n1 y
                  · exact (y.no h1 k1.mut).elim
    | exc x => exact q.elim
  apart := w.apart
  keep := fun a o h n => g.ex _ _ (w.keep a o h n)
  new := fun a h => by
    rcases g.new a h with y | y
    · exact w.new a y
    · by_cases p : e.P a
      · exact .inr (.inr p)
      · exact .inr (.inl (w.newA p y))
  mine := w.mine
  pin := w.pin
  lk := w.lk
  lk2 := w.lk2
theorem Wl.fresh (w : Wl K e σ H F env) {p : Addr} (h : H p = none) : F p = none := w.sub.none h
/-- a new object, kept apart -/
theorem Wl.grow_new (w : Wl K e σ H F env) {p : Addr} {o : HO} (h : H p = none) : Grow H F (upd H p o) F where
  ex := fun a u q => by rw [upd_ne (ne_of_none q h)]; exact q
  fz := .refl _
  sub := w.sub.trans (upd_sub h)
  new := fun a q => .inl q
/-- .. frozen at once -/
theorem Wl.grow_frz (w : Wl K e σ H F env) {p : Addr} {o : HO} (h : H p = none) : Grow H F (upd H p o) (upd F p o) where
  ex := fun a u q => by rw [upd_ne (ne_of_none q h)]; exact q
  fz := upd_sub (w.fresh h)
  sub := by
    refine ⟨fun a u pl r => ?_, fun a n => ?_, fun a vs r => ?_⟩
    · by_cases z : a = p
      · subst z
        rcases r with r | ⟨x, r⟩
        · rw [upd_same] at r; exact .inl (by rw [upd_same]; exact r)
        · rw [upd_same] at r; exact .inr ⟨x, by rw [upd_same]; exact r⟩
      · have r' : Rd F a u := by
          rcases r with r | ⟨x, r⟩
          · rw [upd_ne z] at r; exact .inl r
          · rw [upd_ne z] at r; exact .inr ⟨x, r⟩
        rcases w.sub.rd _ _ pl r' with q | ⟨x, q⟩
        · exact .inl (by rw [upd_ne z]; exact q)
        · exact .inr ⟨x, by rw [upd_ne z]; exact q⟩
    · by_cases z : a = p
      · subst z; rw [upd_same]; exact fun y => nomatch y
      · rw [upd_ne z] at n ⊢; exact w.sub.dom _ n
    · by_cases z : a = p
      · subst z; rw [upd_same] at r ⊢; exact r
      · rw [upd_ne z] at r ⊢; exact w.sub.tp _ _ r
  new := fun a q => by
    by_cases z : a = p
    · subst z; exact .inr (.inl h)
    · rw [upd_ne z] at q; exact .inl q
/-- the object at p, which F does not have, is frozen -/
theorem sub_freeze {p : Addr} {u : HO} (s : Sub F H) (h : H p = some u) : Sub (upd F p u) H := by
  refine ⟨fun a x pl r => ?_, fun a n => ?_, fun a vs r => ?_⟩
  · by_cases z : a = p
    · subst z
      rcases r with r | ⟨o, r⟩
      · rw [upd_same] at r; exact .inl (h.trans r)
      · rw [upd_same] at r; exact .inr ⟨o, h.trans r⟩
    · refine s.rd _ _ pl ?_
      rcases r with r | ⟨o, r⟩
      · rw [upd_ne z] at r; exact .inl r
      · rw [upd_ne z] at r; exact .inr ⟨o, r⟩
  · by_cases z : a = p
    · subst z; rw [h]; exact fun y => nomatch y
    · rw [upd_ne z] at n; exact s.dom _ n
  · by_cases z : a = p
    · subst z; rw [upd_same] at r; exact h.trans r
    · rw [upd_ne z] at r; exact s.tp _ _ r
theorem Wl.freeze {p : Addr} {u : HO} (w : Wl K e σ H F env) (h : H p = some u) (n : F p = none) (m : e.H₀ p = none ∨ e.P p)
    (no : ∀ (i : Nat) (c : Cell), env[i]? = some c → c.mine = true → σ[i]? ≠ some (some (.ref p))) : Wl K e σ H (upd F p u) env where
  len := w.len
  sub := sub_freeze w.sub h
  cell := fun i c x hc hx => by
    have q := w.cell i c x hc hx
    cases c with
    | emp => trivial
    | frz d => obtain ⟨v, e1, r⟩ := q; exact ⟨v, e1, r.mono (upd_sub n)⟩
    | own b d =>
      obtain ⟨a, u', e1, h1, n1, k1⟩ := q
      have ne : a ≠ p := fun z => no i _ hc rfl (by rw [hx, e1, z])
      exact ⟨a, u', e1, h1, by rw [upd_ne ne]; exact n1, k1.mono (upd_sub n)⟩
    | lck d =>
      obtain ⟨a, u', e1, h1, n1, k1⟩ := q
      have ne : a ≠ p := fun z => no i _ hc rfl (by rw [hx, e1, z])
      exact ⟨a, u', e1, h1, by rw [upd_ne ne]; exact n1, k1.mono (upd_sub n)⟩
    | exc x => exact q.elim
  apart := w.apart
  keep := w.keep
  new := fun a q => by
    by_cases z : a = p
    · subst z
      rcases m with m | m
      · exact .inr (.inl (.inl m))
      · exact .inr (.inr m)
    · rw [upd_ne z] at q; exact w.new a q
  mine := w.mine
  pin := w.pin
  lk := w.lk
  lk2 := w.lk2
end

/-- what is given, as data that nobody changes -/
def Cell.val : Cell → Option PyData
  | .frz d => some d
  | .own _ d => some d
  | _ => none
/-- freeze what is given -/
theorem RC.freeze {K : PySem.W.Frag} {e : Ent} {σ : St} {H F : Hp} {env : Cs} {v : V} {c : Cell} (w : Wl K e σ H F env) (h : RC K e σ H F env v c) :
    ∃ F' d, c.val = some d ∧ Wl K e σ H F' env ∧ Sub F F' ∧ RD K F' v d := by
  cases c with
  | frz d => exact ⟨F, d, rfl, w, .refl _, h⟩
  | own b d =>
    obtain ⟨p, u, rfl, h1, n1, k1, m, no⟩ := h
    exact ⟨upd F p u, d, rfl, w.freeze h1 n1 m no, upd_sub n1, k1.rd (upd_sub n1) (.inl upd_same)⟩
  | emp => exact h.elim
  | lck d => exact h.elim
  | exc x => exact h.elim

/-! ### operands: a name whose value is looked at last, or any expression -/
inductive Opd where
  | nm (i : Nat)
  | ex (c : CE)
inductive Lt where
  | now (d : PyData)
  | late (i : Nat)
def Cell.read : Cell → Option PyData
  | .frz d => some d
  | .own _ d => some d
  | .lck d => some d
  | _ => none
def Opd.ev : Opd → Cs → Res Lt
  | .nm i, env => match (env.getD i .emp).read with
    | some _ => .ok (.late i) env
    | none => .no
  | .ex c, env => (c env).bind fun c env1 => match c.val with
    | some d => .ok (.now d) env1
    | none => .no
def Lt.get (env : Cs) : Lt → Option PyData
  | .now d => some d
  | .late i => (env.getD i .emp).read
def LtR (K : PySem.W.Frag) (F : Hp) (σ : St) (v : V) : Lt → Prop
  | .now d => RD K F v d
  | .late i => σ[i]? = some (some v)
theorem LtR.mono {K : PySem.W.Frag} {F F' : Hp} {σ : St} {v : V} {l : Lt} (s : Sub F F') (h : LtR K F σ v l) : LtR K F' σ v l := by
  cases l with
  | now d => exact RD.mono s h
  | late i => exact h
/-- data at its top: a list or dict may be the def's own -/
inductive RB (K : PySem.W.Frag) (H F : Hp) : V → PyData → Prop
  | fz {v : V} {d : PyData} : RD K F v d → RB K H F v d
  | own {a : Addr} {u : HO} {d : PyData} : H a = some u → F a = none → Cont K F u d → RB K H F (.ref a) d
theorem RB.of {K : PySem.W.Frag} {e : Ent} {σ : St} {H F : Hp} {env : Cs} {v : V} {l : Lt} {d : PyData} (w : Wl K e σ H F env) (h : LtR K F σ v l) (g : l.get env = some d) : RB K H F v d := by
  cases l with
  | now d' => cases g; exact .fz h
  | late i =>
    have g' : (env.getD i .emp).read = some d := g
    have h' : σ[i]? = some (some v) := h
    cases q : env[i]? with
    | none => rw [List.getD_eq_getElem?_getD, q] at g'; cases g'
    | some c =>
      rw [List.getD_eq_getElem?_getD, q] at g'
      have r := w.cell i c _ q h'
      cases c with
      | emp => cases g'
      | frz d' => cases g'; obtain ⟨v', e1, r⟩ := r; cases e1; exact .fz r
      | own b d' => cases g'; obtain ⟨a, u, e1, h1, n1, k1⟩ := r; cases e1; exact .own h1 n1 k1
      | lck d' => cases g'; obtain ⟨a, u, e1, h1, n1, k1⟩ := r; cases e1; exact .own h1 n1 k1
      | exc x => exact r.elim
/-- read in the whole heap -/
theorem RB.rd {K : PySem.W.Frag} {H F : Hp} {v : V} {d : PyData} (s : Sub F H) (h : RB K H F v d) : RD K H v d := by
  cases h with
  | fz r => exact r.mono s
  | own h1 n1 k1 => exact k1.rd s (.inl h1)
theorem RB.lst {K : PySem.W.Frag} {H F : Hp} {v : V} {ds : List PyData} (s : Sub F H) (h : RB K H F v (.list ds)) : ∃ a vs, v = .ref a ∧ Rd H a (.lst vs) ∧ RDs K F vs ds := by
  cases h with
  | fz r => cases r with | lst h r => exact ⟨_, _, rfl, s.rd _ _ trivial h, r⟩
  | own h1 n1 k1 => cases k1 with | lst r => exact ⟨_, _, rfl, .inl h1, r⟩
theorem RB.tup {K : PySem.W.Frag} {H F : Hp} {v : V} {ds : List PyData} (s : Sub F H) (h : RB K H F v (.tuple ds)) : ∃ a vs, v = .ref a ∧ SqT K H a vs ∧ RDs K F vs ds := by
  cases h with
  | fz r => cases r with | tup h r => exact ⟨_, _, rfl, .inl (.inl (s.tp _ _ h)), r⟩
  | own h1 n1 k1 => cases k1
theorem RB.int {K : PySem.W.Frag} {H F : Hp} {v : V} {i : Int} (h : RB K H F v (.int i)) : v = .int i := by
  cases h with
  | fz r => cases r; rfl
  | own h1 n1 k1 => cases k1
theorem RB.bool {K : PySem.W.Frag} {H F : Hp} {v : V} {i : Bool} (h : RB K H F v (.bool i)) : v = .bl i := by
  cases h with
  | fz r => cases r; rfl
  | own h1 n1 k1 => cases k1
theorem RB.str {K : PySem.W.Frag} {H F : Hp} {v : V} {i : Str} (h : RB K H F v (.str i)) : v = .str i := by
  cases h with
  | fz r => cases r; rfl
  | own h1 n1 k1 => cases k1
theorem RB.none {K : PySem.W.Frag} {H F : Hp} {v : V} (h : RB K H F v .none) : v = .non := by
  cases h with
  | fz r => cases r; rfl
  | own h1 n1 k1 => cases k1

def DO (X : Cx) (xp : XP) (W : WX) (ex : Expr) : Opd → TE → Prop
  | .nm i, t => PE X ex t ∧ t = tVar i
  | .ex c, t => PE X ex t ∧ ∀ e σ H F env Q, Wl X.K e σ H F env → Post X.K xp W e σ F Q (c env) → t σ H Q
theorem DO.pe {X : Cx} {xp : XP} {W : WX} {ex : Expr} {o : Opd} {t : TE} (h : DO X xp W ex o t) : PE X ex t := by
  cases o <;> exact h.1
theorem Wl.read {K : PySem.W.Frag} {e : Ent} {σ : St} {H F : Hp} {env : Cs} {i : Nat} {d : PyData} (w : Wl K e σ H F env) (g : (env.getD i .emp).read = some d) : ∃ v, σ[i]? = some (some v) := by
  cases q : env[i]? with
  | none => rw [List.getD_eq_getElem?_getD, q] at g; cases g
  | some c =>
    rw [List.getD_eq_getElem?_getD, q] at g
    have hl : i < σ.length := by
      rw [w.len]; exact (List.getElem?_eq_some_iff.mp q).1
    have hs : σ[i]? = some σ[i] := List.getElem?_eq_getElem hl
    have r := w.cell i c _ q hs
    cases c with
    | emp => cases g
    | frz d' => obtain ⟨v', e1, r⟩ := r; exact ⟨v', by rw [hs, e1]⟩
    | own b d' => obtain ⟨a, u, e1, _⟩ := r; exact ⟨_, by rw [hs, e1]⟩
    | lck d' => obtain ⟨a, u, e1, _⟩ := r; exact ⟨_, by rw [hs, e1]⟩
    | exc x => exact r.elim
/-- run an operand; what follows is shown from its end -/
theorem DO.run {X : Cx} {xp : XP} {W : WX} {ex : Expr} {o : Opd} {t : TE} (h : DO X xp W ex o t) {e : Ent} {σ : St} {H F : Hp} {env : Cs} {Q : VK}
    (w : Wl X.K e σ H F env)
    (hx : ∀ x env1 H' F' cls d, o.ev env = .ex x env1 → Wl X.K e σ H' F' env1 → Sub F F' → xp x cls d H' → W cls d σ H')
    (hn : o.ev env ≠ .no)
    (hq : ∀ l env1 v H1 F1, o.ev env = .ok l env1 → Wl X.K e σ H1 F1 env1 → Sub F F1 → LtR X.K F1 σ v l → Q v H1) : t σ H Q := by
  cases o with
  | nm i =>
    cases g : (env.getD i .emp).read with
    | none => exact (hn (by show (match (env.getD i .emp).read with | some _ => Res.ok (Lt.late i) env | none => Res.no) = _; rw [g])).elim
    | some d =>
      obtain ⟨v, hv⟩ := w.read g
      rw [h.2]
      exact ⟨v, hv, hq (.late i) env v H F (by show (match (env.getD i .emp).read with | some _ => Res.ok (Lt.late i) env | none => Res.no) = _; rw [g]) w (.refl _) hv⟩
  | ex c =>
    refine h.2 e σ H F env Q w ?_
    cases q : c env with
    | ok c1 env1 =>
      intro v H' F' w' s r
      obtain ⟨F2, d, e1, w2, s2, r2⟩ := r.freeze w'
      refine hq (.now d) env1 v H' F2 ?_ w2 (s.trans s2) r2
      show (c env).bind _ = _
      rw [q]
      show (match c1.val with | some d => Res.ok (Lt.now d) env1 | none => Res.no) = _
      rw [e1]
    | ex x env1 =>
      intro H' F' cls d w' s r
      exact hx x env1 H' F' cls d (by show (c env).bind _ = _; rw [q]; rfl) w' s r
    | no => exact (hn (by show (c env).bind _ = _; rw [q]; rfl)).elim

/-! ### operations on values -/
inductive OR where
  | val (c : Cell)
  | no
def RN (K : PySem.W.Frag) (H H' F' : Hp) (v : V) : Cell → Prop
  | .frz d => RD K F' v d
  | .own _ d => ∃ p u, v = .ref p ∧ H p = none ∧ H' p = some u ∧ F' p = none ∧ Cont K F' u d
  | _ => False
def OPost (K : PySem.W.Frag) (H F : Hp) (Q : VK) : OR → Prop
  | .val c => ∀ v H' F', Grow H F H' F' → RN K H H' F' v c → Q v H'
  | .no => False
def OR.fin (env : Cs) : OR → Res Cell
  | .val c => .ok c env
  | .no => .no
theorem RN.rc {K : PySem.W.Frag} {e : Ent} {σ : St} {H F H' F' : Hp} {env : Cs} {v : V} {c : Cell} (w : Wl K e σ H F env) (g : Grow H F H' F') (h : RN K H H' F' v c) : RC K e σ H' F' env v c := by
  cases c with
  | frz d => exact h
  | own b d =>
    obtain ⟨p, u, rfl, h0, h1, n1, k1⟩ := h
    refine ⟨p, u, rfl, h1, n1, k1, ?_, fun i c hc hm z => ?_⟩
    · by_cases q : e.P p
      · exact .inr q
      · refine .inl ?_
        cases z : e.H₀ p with
        | none => rfl
        | some o => rw [w.keep p o z q] at h0; cases h0
    · have r := w.cell i c _ hc z
      cases c with
      | own b d => obtain ⟨a, u, e1, h2, _⟩ := r; cases e1; rw [h2] at h0; cases h0
      | lck d => obtain ⟨a, u, e1, h2, _⟩ := r; cases e1; rw [h2] at h0; cases h0
      | emp => cases hm
      | frz d => cases hm
      | exc x => cases hm
  | emp => exact h.elim
  | lck d => exact h.elim
  | exc x => exact h.elim
/-- an operation's end, from the world where it is done -/
theorem OPost.of {K : PySem.W.Frag} {xp : XP} {W : WX} {e : Ent} {σ : St} {H F F0 : Hp} {env : Cs} {Q : VK} {r : OR} (w : Wl K e σ H F env) (s : Sub F0 F) (h : Post K xp W e σ F0 Q (r.fin env)) : OPost K H F Q r := by
  cases r with
  | val c => exact fun v H' F' g q => h v H' F' (w.grow g) (s.trans g.fz) (q.rc w g)
  | no => exact h

abbrev Op2 := PyData → PyData → OR
def Op2Ok (K : PySem.W.Frag) (r : R2) (k : Op2) : Prop := ∀ x y dx dy H F Q, Sub F H → RB K H F x dx → RB K H F y dy → OPost K H F Q (k dx dy) → r x y H Q
def cOp2 (k : Op2) (a b : Opd) : CE := fun env => (a.ev env).bind fun la env1 => (b.ev env1).bind fun lb env2 =>
  match la.get env2, lb.get env2 with
  | some x, some y => (k x y).fin env2
  | _, _ => .no
theorem tOp_run {X : Cx} {xp : XP} {W : WX} {a b : Expr} {oa ob : Opd} {ta tb : TE} {r : R2} {k : Op2} (ha : DO X xp W a oa ta) (hb : DO X xp W b ob tb) (hr : Op2Ok X.K r k)
    {e : Ent} {σ : St} {H F : Hp} {env : Cs} {Q : VK} (w : Wl X.K e σ H F env) (h : Post X.K xp W e σ F Q (cOp2 k oa ob env)) : tOp r ta tb σ H Q := by
  refine ha.run w (fun x env1 H' F' cls d q w' s y => ?_) (fun q => ?_) fun la env1 v H1 F1 q w1 s1 l1 => hb.run w1 (fun x env2 H' F' cls d q2 w' s y => ?_) (fun q2 => ?_) fun lb env2 u H2 F2 q2 w2 s2 l2 => ?_
  · unfold cOp2 at h; rw [q] at h; exact h H' F' cls d w' s y
  · unfold cOp2 at h; rw [q] at h; exact h
  · unfold cOp2 at h; rw [q] at h; simp only [Res.bind] at h; rw [q2] at h; exact h H' F' cls d w' (s1.trans s) y
  · unfold cOp2 at h; rw [q] at h; simp only [Res.bind] at h; rw [q2] at h; exact h
  · unfold cOp2 at h; rw [q] at h; simp only [Res.bind] at h; rw [q2] at h; simp only at h
    cases g1 : la.get env2 with
    | none => rw [g1] at h; exact h.elim
    | some x =>
      cases g2 : lb.get env2 with
      | none => rw [g1, g2] at h; exact h.elim
      | some y =>
        rw [g1, g2] at h
        exact hr v u x y H2 F2 Q w2.sub (.of w2 (l1.mono s2) g1) (.of w2 l2 g2) (.of w2 (s1.trans s2) h)
theorem de_bin {X : Cx} {xp : XP} {W : WX} {a b : Expr} {oa ob : Opd} {ta tb : TE} {op : Operator} {pos : Pos} {r : R2} {k : Op2} (ho : OpR X (binaryOp op) r) (hr : Op2Ok X.K r k) (ha : DO X xp W a oa ta) (hb : DO X xp W b ob tb) :
    DE X xp W (.BinOp a op b pos) (cOp2 k oa ob) (tOp r ta tb) := ⟨pe_op ho ha.pe hb.pe, fun _ _ _ _ _ _ w h => tOp_run ha hb hr w h⟩
theorem de_cmp {X : Cx} {xp : XP} {W : WX} {a b : Expr} {oa ob : Opd} {ta tb : TE} {op : CmpOp} {pos : Pos} {r : R2} {k : Op2} (ho : OpR X (compareOp op) r) (hr : Op2Ok X.K r k) (hm : behindInMarks op b = false) (ha : DO X xp W a oa ta) (hb : DO X xp W b ob tb) :
    DE X xp W (.Compare a [op] [b] pos) (cOp2 k oa ob) (tOp r ta tb) := ⟨pe_cmpR ho ha.pe hb.pe hm, fun _ _ _ _ _ _ w h => tOp_run ha hb hr w h⟩
theorem de_ix {X : Cx} {xp : XP} {W : WX} {a b : Expr} {oa ob : Opd} {ta tb : TE} {pos : Pos} {r : R2} {k : Op2} (ho : IxR X r) (hr : Op2Ok X.K r k) (hs : PlainIx b) (ha : DO X xp W a oa ta) (hb : DO X xp W b ob tb) :
    DE X xp W (.Subscript a b pos) (cOp2 k oa ob) (tOp r ta tb) := ⟨pe_ix ho ha.pe hb.pe hs, fun _ _ _ _ _ _ w h => tOp_run ha hb hr w h⟩

/-! ### tests -/
def toT (c : CE) : CT := fun env => (c env).bind fun c env' => match c with
  | .frz (.bool b) => .ok b env'
  | _ => .no
theorem toT_run {K : PySem.W.Frag} {xp : XP} {W : WX} {e : Ent} {σ : St} {F : Hp} {Q : Bool → Hp → Prop} {r : Res Cell}
    (h : PostT K xp W e σ F Q (r.bind fun c env' => match c with | .frz (.bool b) => .ok b env' | _ => .no)) : Post K xp W e σ F (fun x H' => ∃ k, x = .bl k ∧ Q k H') r := by
  cases r with
  | no => exact h
  | ex x env => exact h
  | ok c env =>
    intro v H' F' w s r
    cases c with
    | frz d =>
      cases d with
      | bool b => cases r; exact ⟨b, rfl, h H' F' w s⟩
      | none => exact h.elim
      | int i => exact h.elim
      | str x => exact h.elim
      | list x => exact h.elim
      | tuple x => exact h.elim
      | dict x => exact h.elim
    | own b d => exact h.elim
    | emp => exact h.elim
    | lck d => exact h.elim
    | exc x => exact h.elim
theorem dt_cmp {X : Cx} {xp : XP} {W : WX} {a b : Expr} {oa ob : Opd} {ta tb : TE} {op : CmpOp} {pos : Pos} {r : R2} {k : Op2} (ho : OpR X (compareOp op) r) (hr : Op2Ok X.K r k) (hm : behindInMarks op b = false) (ha : DO X xp W a oa ta) (hb : DO X xp W b ob tb) :
    DT X xp W (.Compare a [op] [b] pos) (toT (cOp2 k oa ob)) (tTest (tOp r ta tb)) := ⟨pt_cmpR ho ha.pe hb.pe hm, fun _ _ _ _ _ _ w h => tOp_run ha hb hr w (toT_run h)⟩
theorem dt_val {X : Cx} {xp : XP} {W : WX} {a : Expr} {c : CE} {t : TE} (h : DE X xp W a c t) (he : ∀ whole, isTrue a X.env whole = (do let v ← whole; standAt a.pos; holding [v] (truthy v)) := by intro _; rfl) : DT X xp W a (toT c) (tB t) := by
  obtain ⟨p, q⟩ := h
  exact ⟨pt_val p he, fun _ _ _ _ _ _ w h => q _ _ _ _ _ _ w (toT_run h)⟩
def cNotT (c : CT) : CT := fun env => (c env).bind fun b env' => .ok (!b) env'
theorem dt_not {X : Cx} {xp : XP} {W : WX} {a : Expr} {c : CT} {t : TT} {pos : Pos} (h : DT X xp W a c t) : DT X xp W (.UnaryOp .Not a pos) (cNotT c) (tNot t) := by
  obtain ⟨p, q⟩ := h
  refine ⟨pt_not p, fun e σ H F env Q w h => q e σ H F env _ w ?_⟩
  unfold cNotT at h
  cases g : c env with
  | no => rw [g] at h; exact h
  | ex x env => rw [g] at h; exact h
  | ok b env => rw [g] at h; exact fun H' F' w s => h H' F' w s
end DL

/-! DLC: names, constants, and, or, chains, displays, calls of built-ins and of defs. -/
namespace DL
open PySem L2

section
variable {K : PySem.W.Frag} {e : Ent} {σ : St} {H F : Hp} {env : Cs}
theorem getD_of {i : Nat} {c : Cell} (h : env[i]? = some c) : env.getD i .emp = c := by rw [List.getD_eq_getElem?_getD, h]; rfl
theorem of_getD {i : Nat} {c : Cell} (h : env.getD i .emp = c) (n : c ≠ .emp) : env[i]? = some c := by
  rw [List.getD_eq_getElem?_getD] at h
  cases q : env[i]? with
  | none => rw [q] at h; exact (n h.symm).elim
  | some c' => rw [q] at h; cases h; rfl
theorem Wl.slot (w : Wl K e σ H F env) {i : Nat} {c : Cell} (h : env[i]? = some c) : ∃ x, σ[i]? = some x := by
  have hl : i < σ.length := by rw [w.len]; exact (List.getElem?_eq_some_iff.mp h).1
  exact ⟨_, List.getElem?_eq_getElem hl⟩
/-- one slot's word is turned -/
theorem Wl.lkn (w : Wl K e σ H F env) {i : Nat} (h : ∀ d, env[i]? ≠ some (.lck d)) : e.lk i = none := by
  cases q : e.lk i with
  | none => rfl
  | some d => exact (h d (w.lk i d q)).elim
theorem Wl.turn (w : Wl K e σ H F env) {i : Nat} {c : Cell} (hm : c.mine = false) (hc : ∀ x, σ[i]? = some x → CellR K H F x c) (hp : ∀ d, c ≠ .lck d) (hk : e.lk i = none) : Wl K e σ H F (env.set i c) where
  len := by rw [List.length_set]; exact w.len
  sub := w.sub
  cell := fun j c' x h hx => by
    by_cases z : i = j
    · subst z
      have hl : i < env.length := by rw [← w.len]; exact (List.getElem?_eq_some_iff.mp hx).1
      rw [List.getElem?_set_self hl] at h; cases h; exact hc x hx
    · rw [List.getElem?_set_ne z] at h; exact w.cell j c' x h hx
  apart := fun j k c1 c2 a n h1 h2 m1 m2 x1 x2 => by
    by_cases z : i = j
    · subst z
      have hl : i < env.length := by rw [← w.len]; exact (List.getElem?_eq_some_iff.mp x1).1
      rw [List.getElem?_set_self hl] at h1; cases h1; rw [hm] at m1; cases m1
    · by_cases y : i = k
      · subst y
        have hl : i < env.length := by rw [← w.len]; exact (List.getElem?_eq_some_iff.mp x2).1
        rw [List.getElem?_set_self hl] at h2; cases h2; rw [hm] at m2; cases m2
      · rw [List.getElem?_set_ne z] at h1; rw [List.getElem?_set_ne y] at h2
        exact w.apart j k c1 c2 a n h1 h2 m1 m2 x1 x2
  keep := w.keep
  new := w.new
  mine := fun j b d a h hx => by
    by_cases z : i = j
    · subst z
      have hl : i < env.length := by rw [← w.len]; exact (List.getElem?_eq_some_iff.mp hx).1
      rw [List.getElem?_set_self hl] at h; cases h; cases hm
    · rw [List.getElem?_set_ne z] at h; exact w.mine j b d a h hx
  pin := fun j c' h hc' => by
    by_cases z : i = j
    · subst z
      by_cases hl : i < env.length
      · rw [List.getElem?_set_self hl] at h; cases h
        rcases hc' with ⟨d, rfl⟩ | ⟨d, rfl⟩
        · cases hm
        · exact (hp d rfl).elim
      · rw [List.getElem?_eq_none (by simpa using hl)] at h; cases h
    · rw [List.getElem?_set_ne z] at h; exact w.pin j c' h hc'
  lk := fun j d h => by
    have q := w.lk j d h
    by_cases z : i = j
    · subst z; rw [hk] at h; cases h
    · rw [List.getElem?_set_ne z]; exact q
  lk2 := fun j d h => by
    by_cases z : i = j
    · subst z
      have hl : i < env.length := by simpa using (List.getElem?_eq_some_iff.mp h).1
      rw [List.getElem?_set_self hl] at h; cases h; exact (hp d rfl).elim
    · rw [List.getElem?_set_ne z] at h; exact w.lk2 j d h
/-- a def's own thing is given away: frozen, with its slot -/
theorem Wl.giveF (w : Wl K e σ H F env) {i : Nat} {b : Bool} {d : PyData} (h : env[i]? = some (.own b d)) :
    ∃ F' a u, σ[i]? = some (some (.ref a)) ∧ F' = upd F a u ∧ H a = some u ∧ F a = none ∧ Cont K F u d ∧ Wl K e σ H F' (env.set i (.frz d)) ∧ Sub F F' := by
  obtain ⟨x, hx⟩ := w.slot h
  obtain ⟨a, u, rfl, h1, n1, k1⟩ := w.cell i _ _ h hx
  have m := w.mine i b d a h hx
  have w1 : Wl K e σ H F (env.set i .emp) := w.turn rfl (fun _ _ => trivial) (fun _ z => nomatch z) (w.lkn fun _ z => by rw [h] at z; cases z)
  have w2 : Wl K e σ H (upd F a u) (env.set i .emp) := w1.freeze h1 n1 m (fun j c hc hm z => by
    by_cases y : i = j
    · subst y
      have hl : i < env.length := (List.getElem?_eq_some_iff.mp h).1
      rw [List.getElem?_set_self hl] at hc; cases hc; cases hm
    · rw [List.getElem?_set_ne y] at hc
      exact w.apart i j _ c a y h hc rfl hm hx z)
  have w3 : Wl K e σ H (upd F a u) ((env.set i .emp).set i (.frz d)) := w2.turn rfl (fun x hx' => by
    rw [hx] at hx'; cases hx'
    exact ⟨_, rfl, k1.rd (upd_sub n1) (.inl upd_same)⟩) (fun _ z => nomatch z) (w.lkn fun _ z => by rw [h] at z; cases z)
  rw [List.set_set] at w3
  exact ⟨_, a, u, hx, rfl, h1, n1, k1, w3, upd_sub n1⟩
theorem Wl.give (w : Wl K e σ H F env) {i : Nat} {b : Bool} {d : PyData} (h : env[i]? = some (.own b d)) :
    ∃ F' v, σ[i]? = some (some v) ∧ Wl K e σ H F' (env.set i (.frz d)) ∧ Sub F F' ∧ RD K F' v d := by
  obtain ⟨F', a, u, hx, rfl, h1, n1, k1, w3, s⟩ := w.giveF h
  exact ⟨_, _, hx, w3, s, k1.rd s (.inl upd_same)⟩
end

/-! ### names and constants -/
def cVar (i : Nat) : CE := fun env => match env.getD i .emp with
  | .frz d => .ok (.frz d) env
  | .own false d => .ok (.frz d) (env.set i (.frz d))
  | _ => .no
def cK (d : PyData) : CE := fun env => .ok (.frz d) env
section
variable {X : Cx} {xp : XP} {W : WX}
theorem de_var {ex : Expr} {i : Nat} (h : PE X ex (tVar i)) : DE X xp W ex (cVar i) (tVar i) := by
  refine ⟨h, fun e σ H F env Q w p => ?_⟩
  unfold cVar at p
  cases g : env.getD i .emp with
  | emp => rw [g] at p; exact p.elim
  | lck d => rw [g] at p; exact p.elim
  | exc x => rw [g] at p; exact p.elim
  | frz d =>
    rw [g] at p
    have hc := of_getD g (fun z => nomatch z)
    obtain ⟨x, hx⟩ := w.slot hc
    obtain ⟨v, rfl, r⟩ := w.cell i _ _ hc hx
    exact ⟨v, hx, p v H F w (.refl _) r⟩
  | own b d =>
    rw [g] at p
    cases b with
    | true => exact p.elim
    | false =>
      obtain ⟨F', v, hx, w', s, r⟩ := w.give (of_getD g (fun z => nomatch z))
      exact ⟨v, hx, p v H F' w' s r⟩
theorem do_nm {ex : Expr} {i : Nat} (h : PE X ex (tVar i)) : DO X xp W ex (.nm i) (tVar i) := ⟨h, rfl⟩
theorem de_k {ex : Expr} {v : V} {d : PyData} (h : PE X ex (tC v)) (r : ∀ F, RD X.K F v d) : DE X xp W ex (cK d) (tC v) :=
  ⟨h, fun e σ H F env Q w p => p v H F w (.refl _) (r F)⟩
theorem de_int {i : Int} {j : Nat} {pos : Pos} : DE X xp W (.Constant (.int i) j pos) (cK (.int i)) (tC (.int i)) := de_k pe_int fun _ => .int i
theorem de_str {x : Str} {j : Nat} {pos : Pos} : DE X xp W (.Constant (.str x) j pos) (cK (.str x)) (tC (.str x)) := de_k pe_str fun _ => .str x
theorem de_bool {b : Bool} {j : Nat} {pos : Pos} : DE X xp W (.Constant (.bool b) j pos) (cK (.bool b)) (tC (.bl b)) := de_k pe_bl fun _ => .bl b
theorem de_none {j : Nat} {pos : Pos} : DE X xp W (.Constant .none j pos) (cK .none) (tC .non) := de_k pe_non fun _ => .non
/-- an expression as an operand -/
theorem DE.opd {ex : Expr} {c : CE} {t : TE} (h : DE X xp W ex c t) : DO X xp W ex (.ex c) t := h

/-! ### and, or, if -/
def cAndT (c d : CT) : CT := fun env => (c env).bind fun b env' => match b with | true => d env' | false => .ok false env'
def cOrT (c d : CT) : CT := fun env => (c env).bind fun b env' => match b with | true => .ok true env' | false => d env'
def DW (X : Cx) (xp : XP) (W : WX) (ex : Expr) (c : CT) (t : TT) : Prop :=
  PW X ex t ∧ ∀ e σ H F env Q, Wl X.K e σ H F env → PostT X.K xp W e σ F Q (c env) → t σ H Q
theorem DW.dt {ex : Expr} {c : CT} {t : TT} (h : DW X xp W ex c t) : DT X xp W ex c t := ⟨h.1.pt, h.2⟩
theorem PostT.subs {K : PySem.W.Frag} {e : Ent} {σ : St} {F F1 : Hp} {Q : Bool → Hp → Prop} {r : Res Bool} (s : Sub F F1) (h : PostT K xp W e σ F Q r) : PostT K xp W e σ F1 Q r := by
  cases r with
  | no => exact h
  | ex x env => exact fun H' F' cls d w s' => h H' F' cls d w (s.trans s')
  | ok b env => exact fun H' F' w s' => h H' F' w (s.trans s')
theorem Post.subs {K : PySem.W.Frag} {e : Ent} {σ : St} {F F1 : Hp} {Q : VK} {r : Res Cell} (s : Sub F F1) (h : Post K xp W e σ F Q r) : Post K xp W e σ F1 Q r := by
  cases r with
  | no => exact h
  | ex x env => exact fun H' F' cls d w s' => h H' F' cls d w (s.trans s')
  | ok b env => exact fun v H' F' w s' => h v H' F' w (s.trans s')
theorem dw_and1 {a : Expr} {c : CT} {t : TT} {pos : Pos} (h : DT X xp W a c t) : DW X xp W (.BoolOp .And [a] pos) c t := ⟨pw_and1 h.1, h.2⟩
theorem dw_or1 {a : Expr} {c : CT} {t : TT} {pos : Pos} (h : DT X xp W a c t) : DW X xp W (.BoolOp .Or [a] pos) c t := ⟨pw_or1 h.1, h.2⟩
theorem dw_and {a b : Expr} {rest : List Expr} {c d : CT} {t u : TT} {pos : Pos} (ha : DT X xp W a c t) (hb : DW X xp W (.BoolOp .And (b :: rest) pos) d u) : DW X xp W (.BoolOp .And (a :: b :: rest) pos) (cAndT c d) (tAnd t u) := by
  obtain ⟨p, q⟩ := ha
  obtain ⟨p2, q2⟩ := hb
  refine ⟨pw_and p p2, fun e σ H F env Q w h => q e σ H F env _ w ?_⟩
  unfold cAndT at h
  cases g : c env with
  | no => rw [g] at h; exact h
  | ex x env => rw [g] at h; exact h
  | ok b env1 =>
    rw [g] at h
    intro H' F' w' s
    cases b with
    | true => exact q2 e σ H' F' env1 Q w' (PostT.subs s h)
    | false => exact h H' F' w' s
theorem dw_or {a b : Expr} {rest : List Expr} {c d : CT} {t u : TT} {pos : Pos} (ha : DT X xp W a c t) (hb : DW X xp W (.BoolOp .Or (b :: rest) pos) d u) : DW X xp W (.BoolOp .Or (a :: b :: rest) pos) (cOrT c d) (tOr t u) := by
  obtain ⟨p, q⟩ := ha
  obtain ⟨p2, q2⟩ := hb
  refine ⟨pw_or p p2, fun e σ H F env Q w h => q e σ H F env _ w ?_⟩
  unfold cOrT at h
  cases g : c env with
  | no => rw [g] at h; exact h
  | ex x env => rw [g] at h; exact h
  | ok b env1 =>
    rw [g] at h
    intro H' F' w' s
    cases b with
    | false => exact q2 e σ H' F' env1 Q w' (PostT.subs s h)
    | true => exact h H' F' w' s
/-- .. as values: all but the last are truths -/
def cAnd (c d : CE) : CE := fun env => (toT c env).bind fun b env' => match b with | true => d env' | false => .ok (.frz (.bool false)) env'
def cOr (c d : CE) : CE := fun env => (toT c env).bind fun b env' => match b with | true => .ok (.frz (.bool true)) env' | false => d env'
def cNot (c : CE) : CE := fun env => (toT c env).bind fun b env' => .ok (.frz (.bool !b)) env'
theorem toT_k {K : PySem.W.Frag} {e : Ent} {σ : St} {F : Hp} {Q : VK} {Q' : Bool → Hp → Prop} {c : CE} {env : Cs} {k : Bool → Cs → Res Cell}
    (h : Post K xp W e σ F Q ((toT c env).bind k)) (hk : ∀ b env1, Post K xp W e σ F Q (k b env1) → PostT K xp W e σ F Q' (.ok b env1)) :
    Post K xp W e σ F (fun x H' => ∃ b, x = .bl b ∧ Q' b H') (c env) := by
  refine toT_run (Q := Q') ?_
  change PostT K xp W e σ F Q' (toT c env)
  cases g : toT c env with
  | no => rw [g] at h; exact h
  | ex x env1 => rw [g] at h; exact h
  | ok b env1 => rw [g] at h; exact hk b env1 h
theorem de_and {a b : Expr} {rest : List Expr} {c d : CE} {t u : TE} {pos : Pos} (ha : DE X xp W a c t) (hb : DE X xp W (.BoolOp .And (b :: rest) pos) d u) : DE X xp W (.BoolOp .And (a :: b :: rest) pos) (cAnd c d) (tAndV t u) := by
  obtain ⟨p, q⟩ := ha
  obtain ⟨p2, q2⟩ := hb
  refine ⟨pe_and p p2, fun e σ H F env Q w h => q e σ H F env _ w ?_⟩
  refine toT_k (Q' := fun b H1 => if b = true then u σ H1 Q else Q (.bl false) H1) h fun b env1 h' => ?_
  intro H' F' w' s
  cases b with
  | true => exact iteT (q2 e σ H' F' env1 Q w' (Post.subs s h'))
  | false => exact iteF (h' (.bl false) H' F' w' s (.bl false))
theorem de_or {a b : Expr} {rest : List Expr} {c d : CE} {t u : TE} {pos : Pos} (ha : DE X xp W a c t) (hb : DE X xp W (.BoolOp .Or (b :: rest) pos) d u) : DE X xp W (.BoolOp .Or (a :: b :: rest) pos) (cOr c d) (tOrV t u) := by
  obtain ⟨p, q⟩ := ha
  obtain ⟨p2, q2⟩ := hb
  refine ⟨pe_or p p2, fun e σ H F env Q w h => q e σ H F env _ w ?_⟩
  refine toT_k (Q' := fun b H1 => if b = true then Q (.bl true) H1 else u σ H1 Q) h fun b env1 h' => ?_
  intro H' F' w' s
  cases b with
  | false => exact iteF (q2 e σ H' F' env1 Q w' (Post.subs s h'))
  | true => exact iteT (h' (.bl true) H' F' w' s (.bl true))
theorem de_and1 {a : Expr} {c : CE} {t : TE} {pos : Pos} (h : DE X xp W a c t) : DE X xp W (.BoolOp .And [a] pos) c t := ⟨pe_one h.1, h.2⟩
theorem de_or1 {a : Expr} {c : CE} {t : TE} {pos : Pos} (h : DE X xp W a c t) : DE X xp W (.BoolOp .Or [a] pos) c t := ⟨pe_one h.1, h.2⟩
theorem de_not {a : Expr} {c : CE} {t : TE} {pos : Pos} (ha : DE X xp W a c t) : DE X xp W (.UnaryOp .Not a pos) (cNot c) (tNotV t) := by
  obtain ⟨p, q⟩ := ha
  refine ⟨pe_not p, fun e σ H F env Q w h => q e σ H F env _ w ?_⟩
  exact toT_k (Q' := fun b H1 => Q (.bl (!b)) H1) h fun b env1 h' H' F' w' s => h' (.bl (!b)) H' F' w' s (.bl (!b))
def cIf (c : CT) (a b : CE) : CE := fun env => (c env).bind fun t env' => match t with | true => a env' | false => b env'
theorem de_if {g a b : Expr} {c : CT} {ca cb : CE} {t : TT} {t1 t2 : TE} {pos : Pos} (hg : DT X xp W g c t) (ha : DE X xp W a ca t1) (hb : DE X xp W b cb t2) : DE X xp W (.IfExp g a b pos) (cIf c ca cb) (tIf t t1 t2) := by
  obtain ⟨p, q⟩ := hg
  obtain ⟨p1, q1⟩ := ha
  obtain ⟨p2, q2⟩ := hb
  refine ⟨pe_ifExp p p1 p2, fun e σ H F env Q w h => q e σ H F env _ w ?_⟩
  unfold cIf at h
  cases g : c env with
  | no => rw [g] at h; exact h
  | ex x env => rw [g] at h; exact h
  | ok b env1 =>
    rw [g] at h
    intro H' F' w' s
    cases b with
    | true => exact iteT (q1 e σ H' F' env1 Q w' (Post.subs s h))
    | false => exact iteF (q2 e σ H' F' env1 Q w' (Post.subs s h))

/-! ### a < b < c -/
def cChain (k k' : Op2) (a b c : Opd) : CE := fun env => (a.ev env).bind fun la env1 => (b.ev env1).bind fun lb env2 =>
  match la.get env2, lb.get env2 with
  | some x, some y => match k x y with
    | .val (.frz (.bool true)) => (c.ev env2).bind fun lc env3 => match lb.get env3, lc.get env3 with
      | some y, some z => (k' y z).fin env3
      | _, _ => .no
    | .val (.frz (.bool false)) => .ok (.frz (.bool false)) env2
    | _ => .no
  | _, _ => .no
theorem tChain_run {a b c : Expr} {oa ob oc : Opd} {ta tb tc : TE} {r r' : R2} {k k' : Op2} (ha : DO X xp W a oa ta) (hb : DO X xp W b ob tb) (hc : DO X xp W c oc tc) (hr : Op2Ok X.K r k) (hr' : Op2Ok X.K r' k')
    {e : Ent} {σ : St} {H F : Hp} {env : Cs} {Q : VK} (w : Wl X.K e σ H F env) (h : Post X.K xp W e σ F Q (cChain k k' oa ob oc env)) : tChain r r' ta tb tc σ H Q := by
  refine ha.run w (fun x env1 H' F' cls d q w' s y => ?_) (fun q => ?_) fun la env1 v H1 F1 q w1 s1 l1 => hb.run w1 (fun x env2 H' F' cls d q2 w' s y => ?_) (fun q2 => ?_) fun lb env2 u H2 F2 q2 w2 s2 l2 => ?_
  · unfold cChain at h; rw [q] at h; exact h H' F' cls d w' s y
  · unfold cChain at h; rw [q] at h; exact h
  · unfold cChain at h; rw [q] at h; simp only [Res.bind] at h; rw [q2] at h; exact h H' F' cls d w' (s1.trans s) y
  · unfold cChain at h; rw [q] at h; simp only [Res.bind] at h; rw [q2] at h; exact h
  · unfold cChain at h; rw [q] at h; simp only [Res.bind] at h; rw [q2] at h; simp only at h
    cases g1 : la.get env2 with
    | none => rw [g1] at h; exact h.elim
    | some x =>
      cases g2 : lb.get env2 with
      | none => rw [g1, g2] at h; exact h.elim
      | some y =>
        rw [g1, g2] at h
        dsimp only at h
        refine hr v u x y H2 F2 _ w2.sub (.of w2 (l1.mono s2) g1) (.of w2 l2 g2) ?_
        cases g3 : k x y with
        | no => rw [g3] at h; exact h.elim
        | val cc =>
          rw [g3] at h
          cases cc with
          | emp => exact h.elim
          | own b d => exact h.elim
          | lck d => exact h.elim
          | exc x => exact h.elim
          | frz d =>
            cases d with
            | none => exact h.elim
            | int i => exact h.elim
            | str x => exact h.elim
            | list x => exact h.elim
            | tuple x => exact h.elim
            | dict x => exact h.elim
            | bool b =>
              intro v3 H3 F3 g r
              cases r
              have w3 := w2.grow g
              have s13 : Sub F F3 := (s1.trans s2).trans g.fz
              cases b with
              | false => exact ⟨false, rfl, iteF (h _ H3 F3 w3 s13 (.bl false))⟩
              | true =>
                refine ⟨true, rfl, iteT ?_⟩
                refine hc.run w3 (fun x env4 H' F' cls d q4 w' s y => ?_) (fun q4 => ?_) fun lc env4 z H4 F4 q4 w4 s4 l4 => ?_
                · rw [q4] at h; exact h H' F' cls d w' (s13.trans s) y
                · rw [q4] at h; exact h
                · rw [q4] at h; simp only [Res.bind] at h
                  cases g5 : lb.get env4 with
                  | none => rw [g5] at h; exact h.elim
                  | some y' =>
                    cases g6 : lc.get env4 with
                    | none => rw [g5, g6] at h; exact h.elim
                    | some z' =>
                      rw [g5, g6] at h
                      exact hr' u z y' z' H4 F4 Q w4.sub (.of w4 ((l2.mono g.fz).mono s4) g5) (.of w4 l4 g6) (.of w4 (s13.trans s4) h)
theorem de_chain {a b c : Expr} {oa ob oc : Opd} {ta tb tc : TE} {op op' : CmpOp} {pos : Pos} {r r' : R2} {k k' : Op2} (ho : OpR X (compareOp op) r) (ho' : OpR X (compareOp op') r') (hr : Op2Ok X.K r k) (hr' : Op2Ok X.K r' k')
    (ha : DO X xp W a oa ta) (hb : DO X xp W b ob tb) (hc : DO X xp W c oc tc) (hm : lastMarks [op, op'] [b, c] = false := by with_unfolding_all rfl) : DE X xp W (.Compare a [op, op'] [b, c] pos) (cChain k k' oa ob oc) (tChain r r' ta tb tc) :=
  ⟨pe_chain ho ho' ha.pe hb.pe hc.pe hm, fun _ _ _ _ _ _ w h => tChain_run ha hb hc hr hr' w h⟩
theorem dt_chain {a b c : Expr} {oa ob oc : Opd} {ta tb tc : TE} {op op' : CmpOp} {pos : Pos} {r r' : R2} {k k' : Op2} (ho : OpR X (compareOp op) r) (ho' : OpR X (compareOp op') r') (hr : Op2Ok X.K r k) (hr' : Op2Ok X.K r' k')
    (ha : DO X xp W a oa ta) (hb : DO X xp W b ob tb) (hc : DO X xp W c oc tc) (hm : lastMarks [op, op'] [b, c] = false := by with_unfolding_all rfl) : DT X xp W (.Compare a [op, op'] [b, c] pos) (toT (cChain k k' oa ob oc)) (tTest (tChain r r' ta tb tc)) :=
  ⟨pt_chain ho ho' ha.pe hb.pe hc.pe hm, fun _ _ _ _ _ _ w h => tChain_run ha hb hc hr hr' w (toT_run h)⟩

/-! ### argument lists -/
def evs : List Opd → Cs → Res (List Lt)
  | [], env => .ok [] env
  | o :: os, env => (o.ev env).bind fun l env1 => (evs os env1).bind fun ls env2 => .ok (l :: ls) env2
inductive LtRs (K : PySem.W.Frag) (F : Hp) (σ : St) : List V → List Lt → Prop
  | nil : LtRs K F σ [] []
  | cons {v : V} {l : Lt} {vs : List V} {ls : List Lt} : LtR K F σ v l → LtRs K F σ vs ls → LtRs K F σ (v :: vs) (l :: ls)
def PostA (K : PySem.W.Frag) (xp : XP) (W : WX) (e : Ent) (σ : St) (F : Hp) (Q : List V → Hp → Prop) : Res (List Lt) → Prop
  | .ok ls env => ∀ vs H' F', Wl K e σ H' F' env → Sub F F' → LtRs K F' σ vs ls → Q vs H'
  | .ex x env => ∀ H' F' cls d, Wl K e σ H' F' env → Sub F F' → xp x cls d H' → W cls d σ H'
  | .no => False
def DA (X : Cx) (xp : XP) (W : WX) (es : List Expr) (os : List Opd) (t : TA) : Prop :=
  PA X es t ∧ ∀ e σ H F env Q, Wl X.K e σ H F env → PostA X.K xp W e σ F Q (evs os env) → t σ H Q
theorem da_nil : DA X xp W [] [] tNil := ⟨pa_nil, fun e σ H F env Q w h => h [] H F w (.refl _) .nil⟩
theorem da_cons {ex : Expr} {es : List Expr} {o : Opd} {os : List Opd} {te : TE} {t : TA} (h : DO X xp W ex o te) (hr : DA X xp W es os t) (hs : starEach (ex :: es) X.env = (false, eval ex X.env) :: starEach es X.env := by rfl) :
    DA X xp W (ex :: es) (o :: os) (tCons te t) := by
  refine ⟨pa_cons h.pe hr.1 hs, fun e σ H F env Q w p => ?_⟩
  refine h.run w (fun x env1 H' F' cls d q w' s y => ?_) (fun q => ?_) fun l env1 v H1 F1 q w1 s1 l1 => hr.2 e σ H1 F1 env1 _ w1 ?_
  · unfold evs at p; rw [q] at p; exact p H' F' cls d w' s y
  · unfold evs at p; rw [q] at p; exact p
  · unfold evs at p; rw [q] at p; simp only [Res.bind] at p
    cases g : evs os env1 with
    | no => rw [g] at p; exact p
    | ex x env2 => rw [g] at p; exact fun H' F' cls d w' s => p H' F' cls d w' (s1.trans s)
    | ok ls env2 => rw [g] at p; exact fun vs H' F' w' s r => p (v :: vs) H' F' w' (s1.trans s) (.cons (l1.mono s) r)
/-- all of it as data -/
def gets (env : Cs) : List Lt → Option (List PyData)
  | [] => some []
  | l :: ls => match l.get env, gets env ls with
    | some d, some ds => some (d :: ds)
    | _, _ => none
inductive RBs (K : PySem.W.Frag) (H F : Hp) : List V → List PyData → Prop
  | nil : RBs K H F [] []
  | cons {v : V} {d : PyData} {vs : List V} {ds : List PyData} : RB K H F v d → RBs K H F vs ds → RBs K H F (v :: vs) (d :: ds)
theorem RBs.of {K : PySem.W.Frag} {e : Ent} {σ : St} {H F : Hp} {env : Cs} (w : Wl K e σ H F env) : ∀ {vs : List V} {ls : List Lt} {ds : List PyData}, LtRs K F σ vs ls → gets env ls = some ds → RBs K H F vs ds
  | _, _, _, .nil, g => by cases g; exact .nil
  | _, _, _, .cons (l := l) (ls := ls) a b, g => by
    unfold gets at g
    cases g1 : l.get env with
    | none => rw [g1] at g; cases g
    | some d =>
      cases g2 : gets env ls with
      | none => rw [g1, g2] at g; cases g
      | some ds' => rw [g1, g2] at g; cases g; exact .cons (.of w a g1) (RBs.of w b g2)
/-- none of it a name -/
def nows : List Lt → Option (List PyData)
  | [] => some []
  | .now d :: ls => match nows ls with
    | some ds => some (d :: ds)
    | none => none
  | .late _ :: _ => none
theorem RDs.of_nows {K : PySem.W.Frag} {σ : St} {F : Hp} : ∀ {vs : List V} {ls : List Lt} {ds : List PyData}, LtRs K F σ vs ls → nows ls = some ds → RDs K F vs ds
  | _, _, _, .nil, g => by cases g; exact .nil
  | _, _, _, .cons (l := .now d) (ls := ls) a b, g => by
    unfold nows at g
    cases g2 : nows ls with
    | none => rw [g2] at g; cases g
    | some ds' => rw [g2] at g; cases g; exact .cons a (RDs.of_nows b g2)
  | _, _, _, .cons (l := .late i) (ls := ls) a b, g => by cases g

/-! ### displays -/
def cTup (os : List Opd) : CE := fun env => (evs os env).bind fun ls env1 => match nows ls with
  | some ds => .ok (.frz (.tuple ds)) env1
  | none => .no
def cLst (os : List Opd) : CE := fun env => (evs os env).bind fun ls env1 => match nows ls with
  | some ds => .ok (.own false (.list ds)) env1
  | none => .no
theorem evs_len : ∀ {os : List Opd} {env env1 : Cs} {ls : List Lt}, evs os env = .ok ls env1 → ls.length = os.length
  | [], env, env1, ls, h => by cases h; rfl
  | o :: os, env, env1, ls, h => by
    unfold evs at h
    cases g : o.ev env with
    | no => rw [g] at h; cases h
    | ex x env2 => rw [g] at h; cases h
    | ok l env2 =>
      rw [g] at h; simp only [Res.bind] at h
      cases g2 : evs os env2 with
      | no => rw [g2] at h; cases h
      | ex x env2 => rw [g2] at h; cases h
      | ok ls' env3 => rw [g2] at h; cases h; rw [List.length_cons, List.length_cons, evs_len g2]
theorem nows_len : ∀ {ls : List Lt} {ds : List PyData}, nows ls = some ds → ds.length = ls.length
  | [], ds, h => by cases h; rfl
  | .now d :: ls, ds, h => by
    unfold nows at h
    cases g : nows ls with
    | none => rw [g] at h; cases h
    | some ds' => rw [g] at h; cases h; rw [List.length_cons, List.length_cons, nows_len g]
  | .late i :: ls, ds, h => by cases h
theorem de_tup {es : List Expr} {os : List Opd} {t : TA} {k : Nat} {pos : Pos} (h : DA X xp W es os t) (hz : os.length ≤ sizeLine := by decide) : DE X xp W (.Tuple es k pos) (cTup os) (tTup t) := by
  refine ⟨pe_tup h.1, fun e σ H F env Q w p => h.2 e σ H F env _ w ?_⟩
  unfold cTup at p
  cases g : evs os env with
  | no => rw [g] at p; exact p
  | ex x env1 => rw [g] at p; exact p
  | ok ls env1 =>
    rw [g] at p; simp only [Res.bind] at p
    intro vs H' F' w' s r
    cases g2 : nows ls with
    | none => rw [g2] at p; exact p.elim
    | some ds =>
      rw [g2] at p
      have rr := RDs.of_nows r g2
      refine ⟨by rw [rr.length, nows_len g2, evs_len g]; exact hz, fun q hq => p _ _ _ (w'.grow (w'.grow_frz hq)) (s.trans (upd_sub (w'.fresh hq))) ?_⟩
      exact .tup upd_same (rr.mono (upd_sub (w'.fresh hq)))
theorem de_lst {es : List Expr} {os : List Opd} {t : TA} {pos : Pos} (h : DA X xp W es os t) (hz : os.length ≤ sizeLine := by decide) : DE X xp W (.List es pos) (cLst os) (tLst t) := by
  refine ⟨pe_lst h.1, fun e σ H F env Q w p => h.2 e σ H F env _ w ?_⟩
  unfold cLst at p
  cases g : evs os env with
  | no => rw [g] at p; exact p
  | ex x env1 => rw [g] at p; exact p
  | ok ls env1 =>
    rw [g] at p; simp only [Res.bind] at p
    intro vs H' F' w' s r
    cases g2 : nows ls with
    | none => rw [g2] at p; exact p.elim
    | some ds =>
      rw [g2] at p
      have rr := RDs.of_nows r g2
      refine ⟨by rw [rr.length, nows_len g2, evs_len g]; exact hz, fun q hq => p _ _ _ (w'.grow (w'.grow_new hq)) s ?_⟩
      exact RN.rc (c := .own false (.list ds)) w' (w'.grow_new hq) ⟨q, _, rfl, hq, upd_same, w'.fresh hq, .lst rr⟩

/-! ### built-ins by values -/
abbrev OpN := List PyData → OR
def OpNOk (K : PySem.W.Frag) (r : List V → Hp → VK → Prop) (k : OpN) : Prop := ∀ xs ds H F Q, Sub F H → RBs K H F xs ds → OPost K H F Q (k ds) → r xs H Q
def cOpN (k : OpN) (os : List Opd) : CE := fun env => (evs os env).bind fun ls env1 => match gets env1 ls with
  | some ds => (k ds).fin env1
  | none => .no
theorem tCB_run {es : List Expr} {os : List Opd} {t : TA} {r : List V → Hp → VK → Prop} {k : OpN} (ha : DA X xp W es os t) (hr : OpNOk X.K r k)
    {e : Ent} {σ : St} {H F : Hp} {env : Cs} {Q : VK} (w : Wl X.K e σ H F env) (p : Post X.K xp W e σ F Q (cOpN k os env)) : tCB r t σ H Q := by
  refine ha.2 e σ H F env _ w ?_
  unfold cOpN at p
  cases g : evs os env with
  | no => rw [g] at p; exact p
  | ex x env1 => rw [g] at p; exact p
  | ok ls env1 =>
    rw [g] at p; simp only [Res.bind] at p
    intro vs H' F' w' s q
    cases g2 : gets env1 ls with
    | none => rw [g2] at p; exact p.elim
    | some ds => rw [g2] at p; exact hr vs ds H' F' Q w'.sub (.of w' q g2) (.of w' s p)
section
variable {x : Str} {p pos : Pos} {id T : String} {ex : Expr} {es : List Expr} {os : List Opd} {t : TA} {r : List V → Hp → VK → Prop} {k : OpN}
theorem de_callB (hc : CallR X (.builtin id) r) (hr : OpNOk X.K r k) (hg : Gl X x) (hm : X.mg x = none) (hv : bootBuiltins x = some (.builtin id)) (ha : DA X xp W (ex :: es) os t) (hn : x ≠ "__name__" := by decide) (hdb : (x == ("__debug__" : Str)) = false := by decide)
    (he : starEach (ex :: es) X.env = (false, eval ex X.env) :: starEach es X.env := by rfl) (hpl : (backTo pos (starEach es X.env)).any (·.1) = false := by rfl) : DE X xp W (.Call (.Name x p) (ex :: es) [] pos) (cOpN k os) (tCB r t) :=
  ⟨pe_callB hc hg hm hv ha.1 hn hdb he hpl, fun _ _ _ _ _ _ w q => tCB_run ha hr w q⟩
theorem de_callTy (hc : CallR X (.type T) r) (hr : OpNOk X.K r k) (hg : Gl X x) (hm : X.mg x = none) (hv : bootBuiltins x = some (.type T)) (ha : DA X xp W (ex :: es) os t) (hn : x ≠ "__name__" := by decide) (hdb : (x == ("__debug__" : Str)) = false := by decide)
    (he : starEach (ex :: es) X.env = (false, eval ex X.env) :: starEach es X.env := by rfl) (hpl : (backTo pos (starEach es X.env)).any (·.1) = false := by rfl) : DE X xp W (.Call (.Name x p) (ex :: es) [] pos) (cOpN k os) (tCB r t) :=
  ⟨pe_callTy hc hg hm hv ha.1 hn hdb he hpl, fun _ _ _ _ _ _ w q => tCB_run ha hr w q⟩
end
end
end DL

/-! DLD: calls of defs by their meanings. -/
namespace DL
open PySem L2

/-! ### data without lists and dicts in it: it stands in nobody's way -/
mutual
def noList : PyData → Bool
  | .list _ => false
  | .dict _ => false
  | .tuple ds => noLists ds
  | _ => true
def noLists : List PyData → Bool
  | [] => true
  | d :: ds => noList d && noLists ds
end
def lowC : Cell → Bool
  | .frz d => noList d
  | .own _ (.list ds) => noLists ds
  | .own _ (.dict kvs) => noLists (kvs.map (·.2))
  | _ => false
/-- F without the addresses of S -/
noncomputable def cut (F : Hp) (S : Addr → Prop) : Hp := fun a => by
  classical
  exact if S a then none else F a
theorem cut_in {F : Hp} {S : Addr → Prop} {a : Addr} (h : S a) : cut F S a = none := by unfold cut; simp [h]
theorem cut_out {F : Hp} {S : Addr → Prop} {a : Addr} (h : ¬ S a) : cut F S a = F a := by unfold cut; simp [h]
mutual
theorem RD.cut {K : PySem.W.Frag} {F H : Hp} {S : Addr → Prop} (s : Sub F H) (hS : ∀ a, S a → ∀ vs, ¬ Rd H a (.tup vs)) : ∀ {d : PyData} {v : V}, noList d = true → RD K F v d → RD K (cut F S) v d
  | .none, _, _, .non => .non
  | .bool _, _, _, .bl b => .bl b
  | .int _, _, _, .int i => .int i
  | .str _, _, _, .str x => .str x
  | .tuple ds, _, h, .tup (a := a) (vs := vs) q r => by
    refine .tup ?_ (RDs.cut s hS (by unfold noList at h; exact h) r)
    have n : ¬ S a := fun z => hS a z vs (.inl (s.tp _ _ q))
    rw [cut_out n]; exact q
  | .list _, _, h, _ => by unfold noList at h; cases h
  | .dict _, _, h, _ => by unfold noList at h; cases h
theorem RDs.cut {K : PySem.W.Frag} {F H : Hp} {S : Addr → Prop} (s : Sub F H) (hS : ∀ a, S a → ∀ vs, ¬ Rd H a (.tup vs)) : ∀ {ds : List PyData} {vs : List V}, noLists ds = true → RDs K F vs ds → RDs K (DL.cut F S) vs ds
  | [], _, _, .nil => .nil
  | d :: ds, _, h, .cons a b => by
    unfold noLists at h
    rw [Bool.and_eq_true] at h
    exact .cons (RD.cut s hS h.1 a) (RDs.cut s hS h.2 b)
end

/-! ### what a def means: nothing handed in is changed -/
inductive FR where
  | ok (c : Cell)
  | ex (x : Exc)
  | no
abbrev Fn := List PyData → FR
def FPost (K : PySem.W.Frag) (xp : XP) (H F : Hp) (Q : VK) (E : XK) : FR → Prop
  | .ok c => ∀ v H' F', Grow H F H' F' → RN K H H' F' v c → Q v H'
  | .ex x => ∀ H' F' cls d, Grow H F H' F' → xp x cls d H' → E cls d H'
  | .no => False
/-- its promise -/
def spB (K : PySem.W.Frag) (xp : XP) (n : Nat) (m : Fn) : Sp := fun vs H Q E => vs.length = n ∧ ∃ F ds, Sub F H ∧ RDs K F vs ds ∧ FPost K xp H F Q E (m ds)
/-- the first thing handed in, a list or dict of the caller's own, is changed -/
inductive FI where
  | ok (c : Cell) (d : PyData)
  | no
abbrev Fm := PyData → List PyData → FI
structure Step (a : Addr) (H F H' F' : Hp) : Prop where
  ex : ∀ b o, b ≠ a → H b = some o → H' b = some o
  fz : Sub F F'
  sub : Sub F' H'
  new : ∀ b, F' b ≠ none → F b ≠ none ∨ NewA H b
def IPost (K : PySem.W.Frag) (a : Addr) (H F : Hp) (Q : VK) : FI → Prop
  | .ok c d => ∀ v H' F' u, Step a H F H' F' → H' a = some u → Cont K F' u d → RN K H H' F' v c → Q v H'
  | .no => False
def spI (K : PySem.W.Frag) (n : Nat) (m : Fm) : Sp := fun vs H Q _ => vs.length = n ∧ ∃ F a u d vr ds, vs = .ref a :: vr ∧ H a = some u ∧ F a = none ∧ Cont K F u d ∧ Sub F H ∧ RDs K F vr ds ∧ IPost K a H F Q (m d ds)

/-! ### calls -/
/-- is one of these names the def's own? -/
def anyMine (env : Cs) : List Lt → Bool
  | [] => false
  | .late i :: ls => (env.getD i .emp).mine || anyMine env ls
  | .now _ :: ls => anyMine env ls
def cCall (m : Fn) (os : List Opd) : CE := fun env => (evs os env).bind fun ls env1 => match gets env1 ls with
  | some ds => match m ds with
    | .ok c => match anyMine env1 ls && !lowC c with
      | true => .no
      | false => .ok c env1
    | .ex x => .ex x env1
    | .no => .no
  | none => .no
def lent (σ : St) (env : Cs) (ls : List Lt) (a : Addr) : Prop := ∃ i c, Lt.late i ∈ ls ∧ env[i]? = some c ∧ c.mine = true ∧ σ[i]? = some (some (.ref a))
theorem mine_cont {K : PySem.W.Frag} {e : Ent} {σ : St} {H F : Hp} {env : Cs} (w : Wl K e σ H F env) {i : Nat} {c : Cell} {a : Addr} (h : env[i]? = some c) (m : c.mine = true) (hx : σ[i]? = some (some (.ref a))) :
    ∃ u d, H a = some u ∧ F a = none ∧ Cont K F u d := by
  have q := w.cell i c _ h hx
  cases c with
  | own b d => obtain ⟨a', u, e1, h1, n1, k1⟩ := q; cases e1; exact ⟨u, d, h1, n1, k1⟩
  | lck d => obtain ⟨a', u, e1, h1, n1, k1⟩ := q; cases e1; exact ⟨u, d, h1, n1, k1⟩
  | emp => cases m
  | frz d => cases m
  | exc x => cases m
theorem lent_cont {K : PySem.W.Frag} {e : Ent} {σ : St} {H F : Hp} {env : Cs} {ls : List Lt} {a : Addr} (w : Wl K e σ H F env) (h : lent σ env ls a) : ∃ u d, H a = some u ∧ F a = none ∧ Cont K F u d :=
  let ⟨_, _, _, h1, m, hx⟩ := h; mine_cont w h1 m hx
/-- the frozen part, with what is lent -/
noncomputable def lend (F H : Hp) (S : Addr → Prop) : Hp := fun a => by
  classical
  exact if S a then H a else F a
theorem lend_in {F H : Hp} {S : Addr → Prop} {a : Addr} (h : S a) : lend F H S a = H a := by unfold lend; simp [h]
theorem lend_out {F H : Hp} {S : Addr → Prop} {a : Addr} (h : ¬ S a) : lend F H S a = F a := by unfold lend; simp [h]
theorem lend_sub1 {F H : Hp} {S : Addr → Prop} (hS : ∀ a, S a → F a = none) : Sub F (lend F H S) := .of fun a o h => by
  have n : ¬ S a := fun z => by rw [hS a z] at h; cases h
  rw [lend_out n]; exact h
theorem rd_congr {F G : Hp} {a : Addr} {u : HO} (e : F a = G a) (h : Rd F a u) : Rd G a u := by
  rcases h with h | ⟨o, h⟩
  · exact .inl (e ▸ h)
  · exact .inr ⟨o, e ▸ h⟩
theorem lend_sub2 {F H : Hp} {S : Addr → Prop} (s : Sub F H) : Sub (lend F H S) H := by
  refine ⟨fun a u pl r => ?_, fun a n => ?_, fun a vs r => ?_⟩
  · by_cases z : S a
    · exact rd_congr (lend_in z) r
    · exact s.rd _ _ pl (rd_congr (lend_out z) r)
  · by_cases z : S a
    · rw [lend_in z] at n; exact n
    · rw [lend_out z] at n; exact s.dom _ n
  · by_cases z : S a
    · rw [lend_in z] at r; exact r
    · rw [lend_out z] at r; exact s.tp _ _ r
theorem LtR.lend {K : PySem.W.Frag} {e : Ent} {σ : St} {H F : Hp} {env : Cs} {S : Addr → Prop} {v : V} {l : Lt} {d : PyData} (w : Wl K e σ H F env) (hS : ∀ a, S a → F a = none) (hl : ∀ i c a, l = .late i → env[i]? = some c → c.mine = true → σ[i]? = some (some (.ref a)) → S a)
    (h : LtR K F σ v l) (g : l.get env = some d) : RD K (DL.lend F H S) v d := by
  cases l with
  | now d' => exact (RD.mono (lend_sub1 hS) (by cases g; exact h))
  | late i =>
    have h' : σ[i]? = some (some v) := h
    have g' : (env.getD i .emp).read = some d := g
    cases q : env.getD i .emp with
    | emp => rw [q] at g'; cases g'
    | exc x => rw [q] at g'; cases g'
    | own b d' =>
      have hc := of_getD q (fun z => nomatch z)
      rw [q] at g'; cases g'
      obtain ⟨a, u, e1, h1, n1, k1⟩ := w.cell i _ _ hc h'
      cases e1
      exact k1.rd (lend_sub1 hS) (.inl (by rw [lend_in (hl i _ a rfl hc rfl h')]; exact h1))
    | lck d' =>
      have hc := of_getD q (fun z => nomatch z)
      rw [q] at g'; cases g'
      obtain ⟨a, u, e1, h1, n1, k1⟩ := w.cell i _ _ hc h'
      cases e1
      exact k1.rd (lend_sub1 hS) (.inl (by rw [lend_in (hl i _ a rfl hc rfl h')]; exact h1))
    | frz d' =>
      have hc := of_getD q (fun z => nomatch z)
      rw [q] at g'; cases g'
      obtain ⟨v', e1, r'⟩ := w.cell i _ _ hc h'
      cases e1
      exact r'.mono (lend_sub1 hS)
theorem LtRs.lend {K : PySem.W.Frag} {e : Ent} {σ : St} {H F : Hp} {env : Cs} {S : Addr → Prop} (w : Wl K e σ H F env) (hS : ∀ a, S a → F a = none) :
    ∀ {vs : List V} {ls : List Lt} {ds : List PyData}, LtRs K F σ vs ls → gets env ls = some ds → (∀ i c a, Lt.late i ∈ ls → env[i]? = some c → c.mine = true → σ[i]? = some (some (.ref a)) → S a) → RDs K (DL.lend F H S) vs ds
  | _, _, _, .nil, g, _ => by cases g; exact .nil
  | _, _, _, .cons (l := l) (ls := ls) a b, g, hl => by
    unfold gets at g
    cases g1 : l.get env with
    | none => rw [g1] at g; cases g
    | some d =>
      cases g2 : gets env ls with
      | none => rw [g1, g2] at g; cases g
      | some ds' =>
        rw [g1, g2] at g; cases g
        exact .cons (LtR.lend w hS (fun i c a e1 h1 m hx => hl i c a (by rw [e1]; exact List.mem_cons_self) h1 m hx) a g1) (LtRs.lend w hS b g2 (fun i c a e1 h1 m hx => hl i c a (List.mem_cons_of_mem _ e1) h1 m hx))
theorem anyMine_of {σ : St} {env : Cs} : ∀ {ls : List Lt} {a : Addr}, lent σ env ls a → anyMine env ls = true
  | [], a, ⟨_, _, h, _⟩ => by cases h
  | .now d :: ls, a, ⟨i, c, h, h1, m, hx⟩ => by
    unfold anyMine
    refine anyMine_of (a := a) ⟨i, c, ?_, h1, m, hx⟩
    cases h with
    | tail _ h => exact h
  | .late j :: ls, a, ⟨i, c, h, h1, m, hx⟩ => by
    unfold anyMine
    cases h with
    | head => rw [getD_of h1, m]; rfl
    | tail _ h => rw [anyMine_of (a := a) ⟨i, c, h, h1, m, hx⟩, Bool.or_true]
theorem RN.cut {K : PySem.W.Frag} {H H' F' : Hp} {S : Addr → Prop} {v : V} {c : Cell} (s : Sub F' H') (hS : ∀ a, S a → ∀ vs, ¬ Rd H' a (.tup vs)) (hS' : ∀ a, S a → H a ≠ none) (l : lowC c = true) (h : RN K H H' F' v c) : RN K H H' (DL.cut F' S) v c := by
  cases c with
  | frz d => exact RD.cut s hS l h
  | own b d =>
    obtain ⟨p, u, e1, h0, h1, n1, k1⟩ := h
    refine ⟨p, u, e1, h0, h1, ?_, ?_⟩
    · rw [cut_out (fun z => hS' p z h0)]; exact n1
    · cases k1 with
      | lst r => exact .lst (RDs.cut s hS l r)
      | dK n r =>
        rename_i kvs ds
        have hl : (kvs.map (·.2)).length = ds.length := r.length
        have e2 : ((kvs.map fun p => keyD p.1).zip ds).map (·.2) = ds := List.map_snd_zip (by rw [← hl]; simp)
        refine .dK n (RDs.cut s hS ?_ r)
        have l' : noLists (((kvs.map fun p => keyD p.1).zip ds).map (·.2)) = true := l
        rw [e2] at l'; exact l'
      | dT r =>
        rename_i kvs ds
        have hl : (kvs.map (·.2)).length = ds.length := r.length
        have e2 : ((kvs.map fun p => tkeyD p.1).zip ds).map (·.2) = ds := List.map_snd_zip (by rw [← hl]; simp)
        refine .dT (RDs.cut s hS ?_ r)
        have l' : noLists (((kvs.map fun p => tkeyD p.1).zip ds).map (·.2)) = true := l
        rw [e2] at l'; exact l'
  | emp => exact h.elim
  | lck d => exact h.elim
  | exc x => exact h.elim
theorem cut_grow {F F1 H H' F' : Hp} {S : Addr → Prop} (s : Sub F H) (hS : ∀ a, S a → F a = none) (g : Grow H (DL.lend F H S) H' F') : Grow H F H' (DL.cut F' S) where
  ex := g.ex
  fz := by
    refine ⟨fun a u pl r => ?_, fun a n => ?_, fun a vs r => ?_⟩
    · have n : ¬ S a := fun z => rd_dom r (hS a z)
      exact rd_congr (cut_out n).symm (g.fz.rd _ _ pl (rd_congr (lend_out n).symm r))
    · have nS : ¬ S a := fun z => n (hS a z)
      rw [cut_out nS]
      exact g.fz.dom a (by rw [lend_out nS]; exact n)
    · have nS : ¬ S a := fun z => by rw [hS a z] at r; cases r
      rw [cut_out nS]
      exact g.fz.tp a vs (by rw [lend_out nS]; exact r)
  sub := by
    refine ⟨fun a u pl r => ?_, fun a n => ?_, fun a vs r => ?_⟩
    · have nS : ¬ S a := fun z => rd_dom r (cut_in z)
      exact g.sub.rd _ _ pl (rd_congr (cut_out nS) r)
    · have nS : ¬ S a := fun z => n (cut_in z)
      rw [cut_out nS] at n
      exact g.sub.dom a n
    · have nS : ¬ S a := fun z => by rw [cut_in z] at r; cases r
      rw [cut_out nS] at r
      exact g.sub.tp a vs r
  new := fun a n => by
    have nS : ¬ S a := fun z => n (cut_in z)
    rw [cut_out nS] at n
    rcases g.new a n with y | y
    · rw [lend_out nS] at y; exact .inl y
    · exact .inr y
theorem rd_tup_no {K : PySem.W.Frag} {F H H' : Hp} {a : Addr} {u : HO} {d : PyData} (k : Cont K F u d) (h : H a = some u) (ex : ∀ a o, H a = some o → H' a = some o) : ∀ vs, ¬ Rd H' a (.tup vs) := fun vs r => by
  have h' := ex _ _ h
  rcases r with r | ⟨o, r⟩
  · rw [h'] at r; cases r; cases k
  · rw [h'] at r; cases r; cases k
theorem LtRs.length {K : PySem.W.Frag} {F : Hp} {σ : St} : ∀ {vs : List V} {ls : List Lt}, LtRs K F σ vs ls → vs.length = ls.length
  | _, _, .nil => rfl
  | _, _, .cons _ t => by simp [LtRs.length t]
section
variable {X : Cx} {xp : XP} {W : WX}
/-- behind the arguments: the call by the meaning -/
theorem call_run {n : Nat} {m : Fn} {ls : List Lt} {ds : List PyData} {vs : List V} {e : Ent} {σ : St} {H F F0 : Hp} {env : Cs} {Q : VK} (w : Wl X.K e σ H F env) (s0 : Sub F0 F) (hl : LtRs X.K F σ vs ls) (hg : gets env ls = some ds) (hn : vs.length = n)
    (p : Post X.K xp W e σ F0 Q (match m ds with
    | .ok c => match anyMine env ls && !lowC c with
      | true => .no
      | false => .ok c env
    | .ex x => .ex x env
    | .no => .no)) : spB X.K xp n m vs H Q (fun cls d H' => W cls d σ H') := by
  have hS : ∀ a, lent σ env ls a → F a = none := fun a z => let ⟨_, _, _, n1, _⟩ := lent_cont w z; n1
  have hS2 : ∀ a, lent σ env ls a → H a ≠ none := fun a z => let ⟨_, _, h1, _, _⟩ := lent_cont w z; by rw [h1]; exact fun y => nomatch y
  refine ⟨hn, DL.lend F H (lent σ env ls), ds, lend_sub2 w.sub, LtRs.lend w hS hl hg (fun i c a hm h1 m hx => ⟨i, c, hm, h1, m, hx⟩), ?_⟩
  cases q : m ds with
  | no => rw [q] at p; exact p
  | ex x =>
    rw [q] at p
    intro H' F' cls d g hxp
    have g' := cut_grow (F1 := F) w.sub hS g
    exact p H' _ cls d (w.grow g') (s0.trans g'.fz) hxp
  | ok c =>
    rw [q] at p
    dsimp only at p
    intro v H' F' g r
    have g' := cut_grow (F1 := F) w.sub hS g
    cases lc : lowC c with
    | true =>
      rw [lc] at p
      simp only [Bool.not_true, Bool.and_false] at p
      have r' : RN X.K H H' (DL.cut F' (lent σ env ls)) v c := RN.cut g.sub (fun a z => let ⟨_, _, h1, _, k1⟩ := lent_cont w z; rd_tup_no k1 h1 g.ex) hS2 lc r
      exact p v H' _ (w.grow g') (s0.trans g'.fz) (r'.rc w g')
    | false =>
      rw [lc] at p
      cases am : anyMine env ls with
      | true => rw [am] at p; simp only [Bool.not_false, Bool.and_true] at p; exact p.elim
      | false =>
        rw [am] at p
        simp only [Bool.not_false, Bool.and_true] at p
        have no : ∀ a, ¬ lent σ env ls a := fun a z => by rw [anyMine_of z] at am; cases am
        have e1 : DL.lend F H (lent σ env ls) = F := by
          funext a; exact lend_out (no a)
        rw [e1] at g
        exact p v H' F' (w.grow g) (s0.trans g.fz) (r.rc w g)
theorem de_call {k n : Nat} {m : Fn} {f : Addr} {fd : FuncData} {ps : List Str} {x : Str} {p pos : Pos} {ex : Expr} {es : List Expr} {os : List Opd} {t : TA} (tk : L2N.Takes X W)
    (F : FnOk X.prog X.w X.K X.mg X.base (L2N.CX X.prog X.w) k f fd ps (spB X.K xp n m)) (hr : Room k X.A) (hg : Gl X x) (hm : X.mg x = some (.ref f)) (hk : PySem.W.keepIn X.K (.ref f) = true) (hb : Binds X.K fd ps [])
    (ha : DA X xp W (ex :: es) os t) (hn : os.length = n := by rfl) (hdb : (x == ("__debug__" : Str)) = false := by decide) (he : starEach (ex :: es) X.env = (false, eval ex X.env) :: starEach es X.env := by rfl) (hpl : (backTo pos (starEach es X.env)).any (·.1) = false := by rfl) :
    DE X xp W (.Call (.Name x p) (ex :: es) [] pos) (cCall m os) (tCallS (spB X.K xp n m) (WE W) t) := by
  refine ⟨pe_callS F hr hg hm hk hb (fun σ => L2N.passAt tk σ) ha.1 hdb he hpl, fun e σ H F env Q w q => ha.2 e σ H F env _ w ?_⟩
  unfold cCall at q
  cases g : evs os env with
  | no => rw [g] at q; exact q
  | ex x env1 => rw [g] at q; exact q
  | ok ls env1 =>
    rw [g] at q; simp only [Res.bind] at q
    intro vs H' F' w' s r
    cases g2 : gets env1 ls with
    | none => rw [g2] at q; exact q.elim
    | some ds =>
      rw [g2] at q
      refine call_run w' s r g2 ?_ q
      rw [r.length, evs_len g, hn]
end
end DL

/-! DLE: calls that change the first thing handed in; methods of lists; statements. -/
namespace DL
open PySem L2
section
variable {K : PySem.W.Frag} {e : Ent} {σ : St} {H F H' F' : Hp} {env : Cs}
theorem Step.no {a : Addr} {u : HO} (g : Step a H F H' F') (h : H a = some u) (m : Mut (some u)) (n : F a = none) : F' a = none := by
  cases z : F' a with
  | none => rfl
  | some o =>
    rcases g.new a (by rw [z]; exact fun y => nomatch y) with y | y
    · exact absurd n y
    · exact (y.no h m).elim
/-- the def's own thing in slot i is changed -/
theorem Wl.step (w : Wl K e σ H F env) {i : Nat} {b : Bool} {d d' : PyData} {a : Addr} {u : HO} (hc : env[i]? = some (.own b d)) (hx : σ[i]? = some (some (.ref a))) (g : Step a H F H' F') (hu : H' a = some u) (k : Cont K F' u d') :
    Wl K e σ H' F' (env.set i (.own b d')) := by
  have hl : i < env.length := (List.getElem?_eq_some_iff.mp hc).1
  obtain ⟨a1, u0, e1, h1, n1, k1⟩ := w.cell i _ _ hc hx
  cases e1
  have n' : F' a = none := g.no h1 k1.mut n1
  have other : ∀ j c x, i ≠ j → env[j]? = some c → σ[j]? = some x → CellR K H' F' x c := fun j c x z h hx' => by
    have q := w.cell j c x h hx'
    cases c with
    | emp => trivial
    | frz d => obtain ⟨v, e1, r⟩ := q; exact ⟨v, e1, r.mono g.fz⟩
    | own b2 d2 =>
      obtain ⟨a2, u2, e2, h2, n2, k2⟩ := q
      have ne : a2 ≠ a := fun y => w.apart i j _ _ a z hc h rfl rfl hx (by rw [hx', e2, y])
      refine ⟨a2, u2, e2, g.ex _ _ ne h2, ?_, k2.mono g.fz⟩
      cases z3 : F' a2 with
      | none => rfl
      | some o => rcases g.new a2 (by rw [z3]; exact fun y => nomatch y) with y | y
                  · exact absurd n2 y
                  · exact (y.no h2 k2.mut).elim
    | lck d2 =>
      obtain ⟨a2, u2, e2, h2, n2, k2⟩ := q
      have ne : a2 ≠ a := fun y => w.apart i j _ _ a z hc h rfl rfl hx (by rw [hx', e2, y])
      refine ⟨a2, u2, e2, g.ex _ _ ne h2, ?_, k2.mono g.fz⟩
      cases z3 : F' a2 with
      | none => rfl
      | some o => rcases g.new a2 (by rw [z3]; exact fun y => nomatch y) with y | y
                  · exact absurd n2 y
                  · exact (y.no h2 k2.mut).elim
    | exc x => exact q.elim
  refine ⟨?_, g.sub, ?_, ?_, ?_, ?_, ?_, ?_, ?_, ?_⟩
  · rw [List.length_set]; exact w.len
  · intro j c x h hx'
    by_cases z : i = j
    · subst z
      rw [List.getElem?_set_self hl] at h; cases h
      rw [hx] at hx'; cases hx'
      exact ⟨a, u, rfl, hu, n', k⟩
    · rw [List.getElem?_set_ne z] at h; exact other j c x z h hx'
  · intro j k' c1 c2 a2 n h1' h2' m1 m2 x1 x2
    by_cases z : i = j
    · subst z
      rw [List.getElem?_set_ne n] at h2'
      rw [hx] at x1; cases x1
      exact w.apart i k' _ c2 a n hc h2' rfl m2 hx x2
    · rw [List.getElem?_set_ne z] at h1'
      by_cases y : i = k'
      · subst y
        rw [hx] at x2; cases x2
        exact w.apart j i c1 _ a n h1' hc m1 rfl x1 hx
      · rw [List.getElem?_set_ne y] at h2'
        exact w.apart j k' c1 c2 a2 n h1' h2' m1 m2 x1 x2
  · intro b2 o h np
    by_cases z : b2 = a
    · subst z
      rcases w.mine i b d b2 hc hx with y | y
      · rw [y] at h; cases h
      · exact (np y).elim
    · exact g.ex _ _ z (w.keep b2 o h np)
  · intro b2 h
    rcases g.new b2 h with y | y
    · exact w.new b2 y
    · by_cases p : e.P b2
      · exact .inr (.inr p)
      · exact .inr (.inl (w.newA p y))
  · intro j b2 d2 a2 h hx'
    by_cases z : i = j
    · subst z
      rw [List.getElem?_set_self hl] at h; cases h
      exact w.mine i b d a2 hc hx'
    · rw [List.getElem?_set_ne z] at h; exact w.mine j b2 d2 a2 h hx'
  · intro j c h hc'
    by_cases z : i = j
    · subst z
      rw [List.getElem?_set_self hl] at h; cases h
      refine w.pin i _ hc ?_
      rcases hc' with ⟨d2, q⟩ | ⟨d2, q⟩
      · cases q; exact .inl ⟨d, rfl⟩
      · cases q
    · rw [List.getElem?_set_ne z] at h; exact w.pin j c h hc'
  · intro j d2 h
    have q := w.lk j d2 h
    by_cases z : i = j
    · subst z; rw [hc] at q; cases q
    · rw [List.getElem?_set_ne z]; exact q
  · intro j d2 h
    by_cases z : i = j
    · subst z; rw [List.getElem?_set_self hl] at h; cases h
    · rw [List.getElem?_set_ne z] at h; exact w.lk2 j d2 h
/-- what is given beside such a change -/
theorem RN.rcS {v : V} {c : Cell} {i : Nat} {b : Bool} {d d' : PyData} {a : Addr} {u : HO} (w : Wl K e σ H F env) (hc : env[i]? = some (.own b d)) (hx : σ[i]? = some (some (.ref a))) (g : Step a H F H' F') (hu : H' a = some u) (k : Cont K F' u d')
    (h : RN K H H' F' v c) : RC K e σ H' F' (env.set i (.own b d')) v c := by
  cases c with
  | frz d => exact h
  | own b2 d2 =>
    obtain ⟨p, u2, rfl, h0, h1, n1, k1⟩ := h
    refine ⟨p, u2, rfl, h1, n1, k1, ?_, fun j c hc' hm z => ?_⟩
    · by_cases q : e.P p
      · exact .inr q
      · refine .inl ?_
        cases z : e.H₀ p with
        | none => rfl
        | some o => rw [w.keep p o z q] at h0; cases h0
    · have hl : i < env.length := (List.getElem?_eq_some_iff.mp hc).1
      have : ∃ c, env[j]? = some c ∧ c.mine = true := by
        by_cases y : i = j
        · subst y; exact ⟨_, hc, rfl⟩
        · rw [List.getElem?_set_ne y] at hc'; exact ⟨c, hc', hm⟩
      obtain ⟨c2, hc2, hm2⟩ := this
      obtain ⟨u3, d3, h3, _, _⟩ := mine_cont w hc2 hm2 z
      rw [h3] at h0; cases h0
  | emp => exact h.elim
  | lck d => exact h.elim
  | exc x => exact h.elim
end

/-! ### a call that changes the def's own thing in slot i -/
def cCallI (m : Fm) (i : Nat) (os : List Opd) : CE := fun env => match (env.getD i .emp).read with
  | none => .no
  | some _ => (evs os env).bind fun ls env1 => match nows ls with
    | none => .no
    | some ds => match env1.getD i .emp with
      | .own b d => match m d ds with
        | .ok c d' => .ok c (env1.set i (.own b d'))
        | .no => .no
      | _ => .no
section
variable {X : Cx} {xp : XP} {W : WX}
theorem de_callI {k n : Nat} {m : Fm} {f : Addr} {fd : FuncData} {ps : List Str} {x : Str} {p pos : Pos} {ex : Expr} {es : List Expr} {i : Nat} {os : List Opd} {t : TA} (tk : L2N.Takes X W)
    (F : FnOk X.prog X.w X.K X.mg X.base (L2N.CX X.prog X.w) k f fd ps (spI X.K n m)) (hr : Room k X.A) (hg : Gl X x) (hm : X.mg x = some (.ref f)) (hk : PySem.W.keepIn X.K (.ref f) = true) (hb : Binds X.K fd ps [])
    (h0 : PE X ex (tVar i)) (ha : DA X xp W es os t) (hn : os.length + 1 = n := by rfl) (hdb : (x == ("__debug__" : Str)) = false := by decide) (he : starEach (ex :: es) X.env = (false, eval ex X.env) :: starEach es X.env := by rfl) (hpl : (backTo pos (starEach es X.env)).any (·.1) = false := by rfl) :
    DE X xp W (.Call (.Name x p) (ex :: es) [] pos) (cCallI m i os) (tCallS (spI X.K n m) (WE W) (tCons (tVar i) t)) := by
  refine ⟨pe_callS F hr hg hm hk hb (fun σ => L2N.passAt tk σ) (pa_cons h0 ha.1 he) hdb he hpl, fun e σ H F env Q w q => ?_⟩
  unfold cCallI at q
  cases g0 : (env.getD i .emp).read with
  | none => rw [g0] at q; exact q.elim
  | some dr =>
    rw [g0] at q
    obtain ⟨v0, hv0⟩ := w.read g0
    refine ⟨v0, hv0, ha.2 e σ H F env _ w ?_⟩
    dsimp only at q
    cases g : evs os env with
    | no => rw [g] at q; exact q
    | ex x env1 => rw [g] at q; exact q
    | ok ls env1 =>
      rw [g] at q; simp only [Res.bind] at q
      intro vs H1 F1 w1 s r
      cases g2 : nows ls with
      | none => rw [g2] at q; exact q.elim
      | some ds =>
        rw [g2] at q
        dsimp only at q
        cases g3 : env1.getD i .emp with
        | emp => rw [g3] at q; exact q.elim
        | frz d => rw [g3] at q; exact q.elim
        | lck d => rw [g3] at q; exact q.elim
        | exc x => rw [g3] at q; exact q.elim
        | own b d =>
          rw [g3] at q
          dsimp only at q
          have hc := of_getD g3 (fun z => nomatch z)
          obtain ⟨a, u, e1, h1, n1, k1⟩ := w1.cell i _ _ hc hv0
          cases e1
          have rr := RDs.of_nows r g2
          refine ⟨by show (V.ref a :: vs).length = n; rw [List.length_cons, r.length, evs_len g, hn], F1, a, u, d, vs, ds, rfl, h1, n1, k1, w1.sub, rr, ?_⟩
          cases g4 : m d ds with
          | no => rw [g4] at q; exact q.elim
          | ok c d' =>
            rw [g4] at q
            intro v H' F' u' st hu' k' rn
            exact q v H' F' (w1.step hc hv0 st hu' k') (s.trans st.fz) (rn.rcS w1 hc hv0 st hu' k')

/-! ### methods that change the def's own thing in slot i -/
/-- what is given, what stands in it then -/
inductive OM where
  | ok (c : Cell) (d : PyData)
  | no
abbrev OpM := PyData → List PyData → OM
def MPost (K : PySem.W.Frag) (a : Addr) (H F : Hp) (Q : VK) : OM → Prop
  | .ok c d => ∀ v H' F' u, Step a H F H' F' → H' a = some u → Cont K F' u d → RN K H H' F' v c → Q v H'
  | .no => False
def OpMOk (K : PySem.W.Frag) (r : V → List V → Hp → VK → Prop) (k : OpM) : Prop := ∀ a u d xs ds H F Q, Sub F H → H a = some u → F a = none → Cont K F u d → RDs K F xs ds → MPost K a H F Q (k d ds) → r (.ref a) xs H Q
def cMeth (k : OpM) (i : Nat) (os : List Opd) : CE := fun env => match env.getD i .emp with
  | .own _ _ => (evs os env).bind fun ls env1 => match nows ls with
    | none => .no
    | some ds => match env1.getD i .emp with
      | .own b d => match k d ds with
        | .ok c d' => .ok c (env1.set i (.own b d'))
        | .no => .no
      | _ => .no
  | _ => .no
/-- the type of a list or dict of the def's own -/
def isT (T : String) : PyData → Bool
  | .list _ => T == "list"
  | .dict _ => T == "dict"
  | _ => false
theorem meth_end {r : V → List V → Hp → VK → Prop} {k : OpM} (hr : OpMOk X.K r k) {i : Nat} {ls : List Lt} {e : Ent} {σ : St} {H F F0 : Hp} {env : Cs} {vs : List V} {v0 : V} {Q : VK} (w : Wl X.K e σ H F env) (s0 : Sub F0 F) (hv : σ[i]? = some (some v0)) (rl : LtRs X.K F σ vs ls)
    (q : Post X.K xp W e σ F0 Q (match nows ls with
    | none => .no
    | some ds => match env.getD i .emp with
      | .own b d => match k d ds with
        | .ok c d' => .ok c (env.set i (.own b d'))
        | .no => .no
      | _ => .no)) : r v0 vs H Q := by
  cases g2 : nows ls with
  | none => rw [g2] at q; exact q.elim
  | some ds =>
    rw [g2] at q
    dsimp only at q
    cases g3 : env.getD i .emp with
    | emp => rw [g3] at q; exact q.elim
    | frz d => rw [g3] at q; exact q.elim
    | lck d => rw [g3] at q; exact q.elim
    | exc x => rw [g3] at q; exact q.elim
    | own b d =>
      rw [g3] at q
      dsimp only at q
      have hc := of_getD g3 (fun z => nomatch z)
      obtain ⟨a, u, e1, h1, n1, k1⟩ := w.cell i _ _ hc hv
      cases e1
      refine hr a u d vs ds H F Q w.sub h1 n1 k1 (RDs.of_nows rl g2) ?_
      cases g4 : k d ds with
      | no => rw [g4] at q; exact q.elim
      | ok c d' =>
        rw [g4] at q
        intro v H' F' u' st hu' k' rn
        exact q v H' F' (w.step hc hv st hu' k') (s0.trans st.fz) (rn.rcS w hc hv st hu' k')
theorem own_ty {T : String} {e : Ent} {σ : St} {H F : Hp} {env : Cs} {i : Nat} {b : Bool} {d : PyData} {v0 : V} (w : Wl X.K e σ H F env) (hc : env[i]? = some (.own b d)) (hv : σ[i]? = some (some v0)) (hT : isT T d = true) : tyV X.K T v0 H := by
  obtain ⟨a, u, e1, h1, n1, k1⟩ := w.cell i _ _ hc hv
  cases e1
  cases k1 with
  | lst r => exact .inl ⟨by simpa [isT] using hT, _, .inl (.inl h1)⟩
  | dK _ r => exact .inr (.inr (.inl ⟨by simpa [isT] using hT, .inl ⟨_, h1⟩⟩))
  | dT r => exact .inr (.inr (.inl ⟨by simpa [isT] using hT, .inr ⟨_, h1⟩⟩))
/-- x.m(..) of the def's own list or dict x (T: "list" or "dict") -/
def cMethT (T : String) (k : OpM) (i : Nat) (os : List Opd) : CE := fun env => match env.getD i .emp with
  | .own _ d0 => match isT T d0 with
    | false => .no
    | true => (evs os env).bind fun ls env1 => match nows ls with
      | none => .no
      | some ds => match env1.getD i .emp with
        | .own b d => match k d ds with
          | .ok c d' => .ok c (env1.set i (.own b d'))
          | .no => .no
        | _ => .no
  | _ => .no
section
variable {o ex : Expr} {es : List Expr} {t : TA} {name : Str} {apos cpos : Pos} {T id : String} {r : V → List V → Hp → VK → Prop} {k : OpM} {i : Nat} {os : List Opd}
theorem de_meth (pa : PlainAttrs T) (slot : Slot T name id) (hty : typeOf (.builtin id) = pure (.type "method_descriptor")) (hm : MtR X id r) (hr : OpMOk X.K r k) (ho : PE X o (tVar i)) (ha : DA X xp W (ex :: es) os t)
    (hbase : attributeBase o name X.env (eval o X.env) = eval o X.env := by rfl)
    (hfew : ((backTo cpos (starEach (ex :: es) X.env)).all (fun x => !x.1) && (backToKw cpos (keywordEach [] X.env)).all (fun x => x.1.isSome)
      && decide ((ex :: es).length + ([] : List Keyword).length + (if ([] : List Keyword).isEmpty then 0 else 1) < 30)) = true := by rfl)
    (hline : (apos.endLine == cpos.line) = true := by rfl) (hs : starEach (ex :: es) X.env = (false, eval ex X.env) :: starEach es X.env := by rfl) (hplain : (backTo cpos (starEach es X.env)).any (·.1) = false := by rfl) :
    DE X xp W (.Call (.Attribute o name apos) (ex :: es) [] cpos) (cMethT T k i os) (tBM X.K T r (tVar i) t) := by
  refine ⟨pe_bm pa slot hty hm ho ha.1 hbase hfew hline hs hplain, fun e σ H F env Q w q => ?_⟩
  unfold cMethT at q
  cases g0 : env.getD i .emp with
  | emp => rw [g0] at q; exact q.elim
  | frz d => rw [g0] at q; exact q.elim
  | lck d => rw [g0] at q; exact q.elim
  | exc x => rw [g0] at q; exact q.elim
  | own b d0 =>
    rw [g0] at q
    dsimp only at q
    cases gT : isT T d0 with
    | false => rw [gT] at q; exact q.elim
    | true =>
      rw [gT] at q
      dsimp only at q
      obtain ⟨v0, hv0⟩ := w.read (i := i) (d := d0) (by rw [g0]; rfl)
      refine ⟨v0, hv0, own_ty w (of_getD g0 (fun z => nomatch z)) hv0 gT, ha.2 e σ H F env _ w ?_⟩
      cases g : evs os env with
      | no => rw [g] at q; exact q
      | ex x env1 => rw [g] at q; exact q
      | ok ls env1 =>
        rw [g] at q; simp only [Res.bind] at q
        exact fun vs H1 F1 w1 s rl => meth_end hr w1 s hv0 rl q
theorem de_meth0 (pa : PlainAttrs T) (slot : Slot T name id) (hty : typeOf (.builtin id) = pure (.type "method_descriptor")) (hm : MtR X id r) (hr : OpMOk X.K r k) (ho : PE X o (tVar i))
    (hbase : attributeBase o name X.env (eval o X.env) = eval o X.env := by rfl) (hline : (apos.endLine == cpos.line) = true := by rfl) :
    DE X xp W (.Call (.Attribute o name apos) [] [] cpos) (cMethT T k i []) (tBM0 X.K T r (tVar i)) := by
  refine ⟨pe_bm0 pa slot hty hm ho hbase hline, fun e σ H F env Q w q => ?_⟩
  unfold cMethT at q
  cases g0 : env.getD i .emp with
  | emp => rw [g0] at q; exact q.elim
  | frz d => rw [g0] at q; exact q.elim
  | lck d => rw [g0] at q; exact q.elim
  | exc x => rw [g0] at q; exact q.elim
  | own b d0 =>
    rw [g0] at q
    dsimp only at q
    cases gT : isT T d0 with
    | false => rw [gT] at q; exact q.elim
    | true =>
      rw [gT] at q
      dsimp only at q
      obtain ⟨v0, hv0⟩ := w.read (i := i) (d := d0) (by rw [g0]; rfl)
      exact ⟨v0, hv0, own_ty w (of_getD g0 (fun z => nomatch z)) hv0 gT, meth_end (ls := []) hr w (.refl _) hv0 .nil q⟩
end

/-! ### methods that change nothing, of lists and texts -/
def tyD (T : String) : PyData → Bool
  | .list _ => T == "list"
  | .str _ => T == "str"
  | _ => false
abbrev OpV := PyData → List PyData → OR
def OpVOk (K : PySem.W.Frag) (r : V → List V → Hp → VK → Prop) (k : OpV) : Prop := ∀ x d xs ds H F Q, Sub F H → RB K H F x d → RBs K H F xs ds → OPost K H F Q (k d ds) → r x xs H Q
def cMethV (T : String) (k : OpV) (o : Opd) (os : List Opd) : CE := fun env => (o.ev env).bind fun l env1 => match l.get env1 with
  | none => .no
  | some d0 => match tyD T d0 with
    | false => .no
    | true => (evs os env1).bind fun ls env2 => match l.get env2, gets env2 ls with
      | some d, some ds => (k d ds).fin env2
      | _, _ => .no
theorem rb_ty {T : String} {H F : Hp} {v : V} {d : PyData} (s : Sub F H) (h : RB X.K H F v d) (hT : tyD T d = true) : tyV X.K T v H := by
  cases d with
  | list ds => obtain ⟨a, vs, rfl, q, _⟩ := h.lst s; exact .inl ⟨by simpa [tyD] using hT, _, .inl q⟩
  | str x => rw [h.str]; show T = "str"; simpa [tyD] using hT
  | none => cases hT
  | bool b => cases hT
  | int b => cases hT
  | tuple b => cases hT
  | dict b => cases hT
section
variable {o ex : Expr} {es : List Expr} {to : TE} {t : TA} {name : Str} {apos cpos : Pos} {T id : String} {r : V → List V → Hp → VK → Prop} {k : OpV} {oo : Opd} {os : List Opd}
theorem methV_run (ho : DO X xp W o oo to) (ha : DA X xp W es os t) (hr : OpVOk X.K r k) {e : Ent} {σ : St} {H F : Hp} {env : Cs} {Q : VK} (w : Wl X.K e σ H F env) (h : Post X.K xp W e σ F Q (cMethV T k oo os env)) : tBM X.K T r to t σ H Q := by
  refine ho.run w (fun x env1 H' F' cls d q w' s y => ?_) (fun q => ?_) fun l env1 v H1 F1 q w1 s1 l1 => ?_
  · unfold cMethV at h; rw [q] at h; exact h H' F' cls d w' s y
  · unfold cMethV at h; rw [q] at h; exact h
  · unfold cMethV at h; rw [q] at h; simp only [Res.bind] at h
    cases g1 : l.get env1 with
    | none => rw [g1] at h; exact h.elim
    | some d0 =>
      rw [g1] at h
      dsimp only at h
      cases gT : tyD T d0 with
      | false => rw [gT] at h; exact h.elim
      | true =>
        rw [gT] at h
        dsimp only at h
        refine ⟨rb_ty w1.sub (.of w1 l1 g1) gT, ha.2 e σ H1 F1 env1 _ w1 ?_⟩
        cases g : evs os env1 with
        | no => rw [g] at h; exact h
        | ex x env2 => rw [g] at h; exact fun H' F' cls d w' s y => h H' F' cls d w' (s1.trans s) y
        | ok ls env2 =>
          rw [g] at h; dsimp only at h
          intro vs H2 F2 w2 s2 rl
          cases g2 : l.get env2 with
          | none => rw [g2] at h; exact h.elim
          | some d =>
            cases g3 : gets env2 ls with
            | none => rw [g2, g3] at h; exact h.elim
            | some ds =>
              rw [g2, g3] at h
              exact hr v d vs ds H2 F2 Q w2.sub (.of w2 (l1.mono s2) g2) (.of w2 rl g3) (.of w2 (s1.trans s2) h)
theorem de_methV (pa : PlainAttrs T) (slot : Slot T name id) (hty : typeOf (.builtin id) = pure (.type "method_descriptor")) (hm : MtR X id r) (hr : OpVOk X.K r k) (ho : DO X xp W o oo to) (ha : DA X xp W (ex :: es) os t)
    (hbase : attributeBase o name X.env (eval o X.env) = eval o X.env := by rfl)
    (hfew : ((backTo cpos (starEach (ex :: es) X.env)).all (fun x => !x.1) && (backToKw cpos (keywordEach [] X.env)).all (fun x => x.1.isSome)
      && decide ((ex :: es).length + ([] : List Keyword).length + (if ([] : List Keyword).isEmpty then 0 else 1) < 30)) = true := by rfl)
    (hline : (apos.endLine == cpos.line) = true := by rfl) (hs : starEach (ex :: es) X.env = (false, eval ex X.env) :: starEach es X.env := by rfl) (hplain : (backTo cpos (starEach es X.env)).any (·.1) = false := by rfl) :
    DE X xp W (.Call (.Attribute o name apos) (ex :: es) [] cpos) (cMethV T k oo os) (tBM X.K T r to t) :=
  ⟨pe_bm pa slot hty hm ho.pe ha.1 hbase hfew hline hs hplain, fun _ _ _ _ _ _ w q => methV_run ho ha hr w q⟩
end

/-! ### statements -/
inductive SRes where
  | nx (env : Cs)
  | rt (c : Cell) (env : Cs)
  | bk (env : Cs)
  | ct (env : Cs)
  | ex (x : Exc) (env : Cs)
  | no
abbrev CS := Cs → SRes
def SPost (K : PySem.W.Frag) (xp : XP) (W : WX) (e : Ent) (F : Hp) (D : Ends) : SRes → Prop
  | .nx env => ∀ σ' H' F', Wl K e σ' H' F' env → Sub F F' → D.nx σ' H'
  | .rt c env => ∀ v σ' H' F', Wl K e σ' H' F' env → Sub F F' → RC K e σ' H' F' env v c → D.rt v H'
  | .bk env => ∀ σ' H' F', Wl K e σ' H' F' env → Sub F F' → D.bk σ' H'
  | .ct env => ∀ σ' H' F', Wl K e σ' H' F' env → Sub F F' → D.ct σ' H'
  | .ex x env => ∀ σ' H' F' cls d, Wl K e σ' H' F' env → Sub F F' → xp x cls d H' → W cls d σ' H'
  | .no => False
def DS (X : Cx) (xp : XP) (W : WX) (st : Stmt) (c : CS) : Prop :=
  ∃ t, PS X st t ∧ ∀ e σ H F env D, Wl X.K e σ H F env → SPost X.K xp W e F D (c env) → t D σ H
def DSs (X : Cx) (xp : XP) (W : WX) (st : List Stmt) (c : CS) : Prop :=
  ∃ t, PSs X st t ∧ ∀ e σ H F env D, Wl X.K e σ H F env → SPost X.K xp W e F D (c env) → t D σ H
theorem SPost.subs {K : PySem.W.Frag} {e : Ent} {F F1 : Hp} {D : Ends} {r : SRes} (s : Sub F F1) (h : SPost K xp W e F D r) : SPost K xp W e F1 D r := by
  cases r with
  | no => exact h
  | ex x env => exact fun σ' H' F' cls d w s' => h σ' H' F' cls d w (s.trans s')
  | nx env => exact fun σ' H' F' w s' => h σ' H' F' w (s.trans s')
  | bk env => exact fun σ' H' F' w s' => h σ' H' F' w (s.trans s')
  | ct env => exact fun σ' H' F' w s' => h σ' H' F' w (s.trans s')
  | rt c env => exact fun v σ' H' F' w s' => h v σ' H' F' w (s.trans s')
def cSeq (c d : CS) : CS := fun env => match c env with
  | .nx env1 => d env1
  | r => r
def cNext : CS := fun env => .nx env
theorem dss_nil : DSs X xp W [] cNext := ⟨_, pss_nil, fun e σ H F env D w h => h σ H F w (.refl _)⟩
theorem dss_one {st : Stmt} {c : CS} (h : DS X xp W st c) : DSs X xp W [st] c := let ⟨t, p, q⟩ := h; ⟨t, pss_one p, q⟩
theorem seq_run {K : PySem.W.Frag} {e : Ent} {F : Hp} {D : Ends} {nx : St → Hp → Prop} {r : SRes} {d : CS} (h : SPost K xp W e F D (match r with | .nx env1 => d env1 | r => r))
    (hd : ∀ env1 σ' H' F', SPost K xp W e F' D (d env1) → Wl K e σ' H' F' env1 → nx σ' H') : SPost K xp W e F { D with nx := nx } r := by
  cases r with
  | no => exact h
  | nx env1 => exact fun σ' H' F' w s => hd env1 σ' H' F' (SPost.subs s h) w
  | ex x env => exact h
  | bk env => exact h
  | ct env => exact h
  | rt c env => exact h
theorem dss_cons {st : Stmt} {rest : List Stmt} {c d : CS} (h : DS X xp W st c) (hr : DSs X xp W rest d) : DSs X xp W (st :: rest) (cSeq c d) := by
  obtain ⟨t, p, q⟩ := h
  obtain ⟨u, p2, q2⟩ := hr
  exact ⟨_, pss_cons p p2, fun e σ H F env D w h => q e σ H F env _ w (seq_run h fun env1 σ' H' F' h' w' => q2 e σ' H' F' env1 D w' h')⟩
def cDrop (c : CE) : CS := fun env => match c env with
  | .ok _ env1 => .nx env1
  | .ex x env1 => .ex x env1
  | .no => .no
theorem ds_expr {ex : Expr} {c : CE} {t : TE} {pos : Pos} (h : DE X xp W ex c t) (hs : swapsWith ex none pos.line X.env = pure false := by rfl) : DS X xp W (.Expr ex pos) (cDrop c) := by
  obtain ⟨p, q⟩ := h
  refine ⟨_, ps_expr p hs, fun e σ H F env D w h => q e σ H F env _ w ?_⟩
  unfold cDrop at h
  cases g : c env with
  | no => rw [g] at h; exact h
  | ex x env1 => rw [g] at h; exact fun H' F' cls d w' s y => h σ H' F' cls d w' s y
  | ok c1 env1 => rw [g] at h; exact fun v H' F' w' s _ => h σ H' F' w' s
def cRet (c : CE) : CS := fun env => match c env with
  | .ok c env1 => .rt c env1
  | .ex x env1 => .ex x env1
  | .no => .no
theorem ret_run {c : CE} {e : Ent} {σ : St} {F : Hp} {env : Cs} {D : Ends} (h : SPost X.K xp W e F D (cRet c env)) : Post X.K xp W e σ F D.rt (c env) := by
  unfold cRet at h
  cases g : c env with
  | no => rw [g] at h; exact h
  | ex x env1 => rw [g] at h; exact fun H' F' cls d w' s y => h σ H' F' cls d w' s y
  | ok c1 env1 => rw [g] at h; exact fun v H' F' w' s r => h v σ H' F' w' s r
theorem ds_ret {ex : Expr} {c : CE} {t : TE} {pos : Pos} (h : DE X xp W ex c t) : DS X xp W (.Return (some ex) pos) (cRet c) := by
  obtain ⟨p, q⟩ := h
  exact ⟨_, ps_ret p, fun e σ H F env D w h => q e σ H F env _ w (ret_run h)⟩
/-- return x, x the def's own: it is given away -/
def cMove (i : Nat) : CE := fun env => match env.getD i .emp with
  | .frz d => .ok (.frz d) env
  | .own false d => .ok (.own false d) (env.set i .emp)
  | _ => .no
theorem de_move {ex : Expr} {i : Nat} (h : PE X ex (tVar i)) : DE X xp W ex (cMove i) (tVar i) := by
  refine ⟨h, fun e σ H F env Q w p => ?_⟩
  unfold cMove at p
  cases g : env.getD i .emp with
  | emp => rw [g] at p; exact p.elim
  | lck d => rw [g] at p; exact p.elim
  | exc x => rw [g] at p; exact p.elim
  | frz d =>
    rw [g] at p
    have hc := of_getD g (fun z => nomatch z)
    obtain ⟨x, hx⟩ := w.slot hc
    obtain ⟨v, rfl, r⟩ := w.cell i _ _ hc hx
    exact ⟨v, hx, p v H F w (.refl _) r⟩
  | own b d =>
    rw [g] at p
    cases b with
    | true => exact p.elim
    | false =>
      have hc := of_getD g (fun z => nomatch z)
      obtain ⟨x, hx⟩ := w.slot hc
      obtain ⟨a, u, rfl, h1, n1, k1⟩ := w.cell i _ _ hc hx
      have hl : i < env.length := (List.getElem?_eq_some_iff.mp hc).1
      refine ⟨_, hx, p _ H F (w.turn rfl (fun _ _ => trivial) (fun _ z => nomatch z) (w.lkn fun _ z => by rw [hc] at z; cases z)) (.refl _) ⟨a, u, rfl, h1, n1, k1, w.mine i _ _ a hc hx, fun j c h m z => ?_⟩⟩
      by_cases y : i = j
      · subst y; rw [List.getElem?_set_self hl] at h; cases h; cases m
      · rw [List.getElem?_set_ne y] at h; exact w.apart i j _ c a y hc h rfl m hx z
def cRetN : CS := fun env => .rt (.frz .none) env
theorem ds_retN {pos : Pos} : DS X xp W (.Return none pos) cRetN := ⟨_, ps_retN, fun e σ H F env D w h => h .non σ H F w (.refl _) .non⟩
def cIfS (c : CT) (a b : CS) : CS := fun env => match c env with
  | .ok t env1 => match t with | true => a env1 | false => b env1
  | .ex x env1 => .ex x env1
  | .no => .no
theorem ds_if {g : Expr} {a b : List Stmt} {c : CT} {ca cb : CS} {t : TT} {pos : Pos} (hg : DT X xp W g c t) (ha : DSs X xp W a ca) (hb : DSs X xp W b cb) : DS X xp W (.If g a b pos) (cIfS c ca cb) := by
  obtain ⟨p, q⟩ := hg
  obtain ⟨t1, p1, q1⟩ := ha
  obtain ⟨t2, p2, q2⟩ := hb
  refine ⟨_, ps_if p p1 p2, fun e σ H F env D w h => q e σ H F env _ w ?_⟩
  unfold cIfS at h
  cases g : c env with
  | no => rw [g] at h; exact h
  | ex x env1 => rw [g] at h; exact fun H' F' cls d w' s y => h σ H' F' cls d w' s y
  | ok b env1 =>
    rw [g] at h
    intro H' F' w' s
    cases b with
    | true => exact iteT (q1 e σ H' F' env1 D w' (SPost.subs s h))
    | false => exact iteF (q2 e σ H' F' env1 D w' (SPost.subs s h))
def cBreak : CS := fun env => .bk env
def cCont : CS := fun env => .ct env
theorem ds_pass {pos : Pos} : DS X xp W (.Pass pos) cNext := ⟨_, ps_pass, fun e σ H F env D w h => h σ H F w (.refl _)⟩
theorem ds_break {pos : Pos} : DS X xp W (.Break pos) cBreak := ⟨_, ps_break, fun e σ H F env D w h => h σ H F w (.refl _)⟩
theorem ds_cont {pos : Pos} : DS X xp W (.Continue pos) cCont := ⟨_, ps_continue, fun e σ H F env D w h => h σ H F w (.refl _)⟩
/-- a statement that is never come to -/
def cNever : CS := fun _ => .no
theorem ds_never {st : Stmt} : DS X xp W st cNever := ⟨_, ps_never, fun e σ H F env D w h => h⟩
end
end DL

/-! DLF: stores to names and items, loops. -/
namespace DL
open PySem L2
section
variable {K : PySem.W.Frag} {e : Ent} {σ : St} {H F : Hp} {env : Cs}
/-- slot i takes v -/
theorem Wl.put (w : Wl K e σ H F env) {i : Nat} {c : Cell} {v : V} (hk : e.lk i = none) (hr : CellR K H F (some v) c) (hc : ∀ d, c ≠ .own true d ∧ c ≠ .lck d)
    (hm : ∀ b d a, c = .own b d → v = .ref a → (e.H₀ a = none ∨ e.P a) ∧ ∀ (j : Nat) (c' : Cell), j ≠ i → env[j]? = some c' → c'.mine = true → σ[j]? ≠ some (some (.ref a))) :
    Wl K e (σ.set i (some v)) H F (env.set i c) := by
  have hl : ∀ {j : Nat} {x : Option V}, (σ.set i (some v))[j]? = some x → (j = i ∧ x = some v ∧ i < env.length) ∨ (j ≠ i ∧ σ[j]? = some x) := fun {j x} h => by
    by_cases z : i = j
    · subst z
      have hj : i < σ.length := by simpa using (List.getElem?_eq_some_iff.mp h).1
      rw [List.getElem?_set_self hj] at h
      exact .inl ⟨rfl, (Option.some.inj h).symm, by rw [← w.len]; exact hj⟩
    · rw [List.getElem?_set_ne z] at h; exact .inr ⟨fun y => z y.symm, h⟩
  have mineof : c.mine = true → ∃ b d, c = .own b d := fun m => by
    cases c with
    | own b d => exact ⟨b, d, rfl⟩
    | lck d => exact ((hc d).2 rfl).elim
    | emp => cases m
    | frz d => cases m
    | exc x => cases m
  refine ⟨by simp [w.len], w.sub, ?_, ?_, w.keep, w.new, ?_, ?_, ?_, ?_⟩
  · intro j c' x h hx
    rcases hl hx with ⟨rfl, rfl, hi⟩ | ⟨n, hx⟩
    · rw [List.getElem?_set_self hi] at h; cases h; exact hr
    · rw [List.getElem?_set_ne (Ne.symm n)] at h; exact w.cell j c' x h hx
  · intro j k c1 c2 a n h1 h2 m1 m2 x1 x2
    rcases hl x1 with ⟨rfl, e1, hi⟩ | ⟨n1, y1⟩
    · rw [List.getElem?_set_self hi] at h1; cases h1
      rw [List.getElem?_set_ne n] at h2
      rw [List.getElem?_set_ne n] at x2
      cases e1
      obtain ⟨b, d, ec⟩ := mineof m1
      exact (hm b d a ec rfl).2 k c2 (Ne.symm n) h2 m2 x2
    · rw [List.getElem?_set_ne (Ne.symm n1)] at h1
      rcases hl x2 with ⟨rfl, e2, hi⟩ | ⟨n2, y2⟩
      · rw [List.getElem?_set_self hi] at h2; cases h2
        cases e2
        obtain ⟨b, d, ec⟩ := mineof m2
        exact (hm b d a ec rfl).2 j c1 n h1 m1 y1
      · rw [List.getElem?_set_ne (Ne.symm n2)] at h2
        exact w.apart j k c1 c2 a n h1 h2 m1 m2 y1 y2
  · intro j b d a h hx
    rcases hl hx with ⟨rfl, e1, hi⟩ | ⟨n, hx⟩
    · rw [List.getElem?_set_self hi] at h; cases h
      cases e1
      exact (hm b d a rfl rfl).1
    · rw [List.getElem?_set_ne (Ne.symm n)] at h; exact w.mine j b d a h hx
  · intro j c' h hc'
    by_cases z : i = j
    · subst z
      have hi : i < env.length := by simpa using (List.getElem?_eq_some_iff.mp h).1
      rw [List.getElem?_set_self hi] at h; cases h
      rcases hc' with ⟨d, y⟩ | ⟨d, y⟩
      · exact ((hc d).1 y).elim
      · exact ((hc d).2 y).elim
    · rw [List.getElem?_set_ne z] at h
      obtain ⟨v', h1, h2⟩ := w.pin j c' h hc'
      exact ⟨v', h1, by rw [List.getElem?_set_ne z]; exact h2⟩
  · intro j d h
    have q := w.lk j d h
    by_cases z : i = j
    · subst z; rw [hk] at h; cases h
    · rw [List.getElem?_set_ne z]; exact q
  · intro j d h
    by_cases z : i = j
    · subst z
      have hi : i < env.length := by simpa using (List.getElem?_eq_some_iff.mp h).1
      rw [List.getElem?_set_self hi] at h; cases h; exact ((hc d).2 rfl).elim
    · rw [List.getElem?_set_ne z] at h; exact w.lk2 j d h
theorem Wl.putF (w : Wl K e σ H F env) {i : Nat} {v : V} {d : PyData} (hk : e.lk i = none) (r : RD K F v d) : Wl K e (σ.set i (some v)) H F (env.set i (.frz d)) :=
  w.put hk ⟨v, rfl, r⟩ (fun _ => ⟨(fun z => nomatch z), (fun z => nomatch z)⟩) fun _ _ _ z => nomatch z
/-- what is given goes to a slot -/
def Cell.asg : Cell → Cell
  | .own _ d => .own false d
  | c => c
theorem Wl.putC (w : Wl K e σ H F env) {i : Nat} {v : V} {c : Cell} (hk : e.lk i = none) (r : RC K e σ H F env v c) : Wl K e (σ.set i (some v)) H F (env.set i c.asg) := by
  cases c with
  | frz d => exact w.putF hk r
  | own b d =>
    obtain ⟨p, u, rfl, h1, n1, k1, m, no⟩ := r
    refine w.put hk ⟨p, u, rfl, h1, n1, k1⟩ (fun _ => ⟨(fun z => nomatch z), (fun z => nomatch z)⟩) fun b2 d2 a e1 e2 => ?_
    cases e2
    exact ⟨m, fun j c' _ h hm => no j c' h hm⟩
  | emp => exact r.elim
  | lck d => exact r.elim
  | exc x => exact r.elim
end
def isLck : Cell → Bool
  | .lck _ => true
  | _ => false
theorem nolck {K : PySem.W.Frag} {e : Ent} {σ : St} {H F : Hp} {env : Cs} {i : Nat} (w : Wl K e σ H F env) (h : isLck (env.getD i .emp) = false) : e.lk i = none := w.lkn fun d z => by
  rw [getD_of z] at h; cases h
def cSet (i : Nat) (c : CE) : CS := fun env => match c env with
  | .ok c env1 => match isLck (env1.getD i .emp) with
    | true => .no
    | false => .nx (env1.set i c.asg)
  | .ex x env1 => .ex x env1
  | .no => .no
section
variable {X : Cx} {xp : XP} {W : WX}
theorem set_run {i : Nat} {c : CE} {e : Ent} {σ : St} {F : Hp} {env : Cs} {D : Ends} (h : SPost X.K xp W e F D (cSet i c env)) : Post X.K xp W e σ F (fun v H' => D.nx (σ.set i (some v)) H') (c env) := by
  unfold cSet at h
  cases g : c env with
  | no => rw [g] at h; exact h
  | ex x env1 => rw [g] at h; exact fun H' F' cls d w' s y => h σ H' F' cls d w' s y
  | ok c1 env1 =>
    rw [g] at h
    dsimp only at h
    intro v H' F' w' s r
    cases g2 : isLck (env1.getD i .emp) with
    | true => rw [g2] at h; exact h.elim
    | false => rw [g2] at h; exact h _ H' F' (w'.putC (nolck w' g2) r) s
theorem ds_set {i : Nat} {x : Str} {ex : Expr} {c : CE} {t : TE} {pos pos' : Pos} (hN : X.N.Nodup) (hi : X.N[i]? = some x) (hx : Loc X.env.scope x) (h : DE X xp W ex c t) (hs : swapsWith ex (some (.Name x pos')) pos.line X.env = pure false := by rfl)
    (hf : X.fn x = true ∨ X.env.scope.names.lookup x = some .local := by first | exact .inl rfl | exact .inr rfl | assumption) : DS X xp W (.Assign [.Name x pos'] ex pos) (cSet i c) := by
  obtain ⟨p, q⟩ := h
  exact ⟨_, ps_set hN hi hx p hs hf, fun e σ H F env D w h => q e σ H F env _ w (set_run h)⟩
/-- a, b = e1, e2 -/
def cSet2 (i j : Nat) (c d : CE) : CS := fun env => match c env with
  | .ok c1 env1 => match d env1 with
    | .ok d1 env2 => match isLck (env2.getD i .emp) || isLck (env2.getD j .emp) || i == j with
      | true => .no
      | false => match c1 with
        | .frz x => .nx ((env2.set i (.frz x)).set j d1.asg)
        | _ => .no
    | .ex x env2 => .ex x env2
    | .no => .no
  | .ex x env1 => .ex x env1
  | .no => .no

/-! ### o[i] = v -/
/-- the def's own list or dict in slot i takes v at k -/
abbrev OpS := PyData → PyData → PyData → Option PyData
def OpSOk (K : PySem.W.Frag) (r : TSet) (k : OpS) : Prop := ∀ a u d ix dx x dv d' H F (Q : Hp → Prop), Sub F H → H a = some u → F a = none → Cont K F u d → RB K H F ix dx → RD K F x dv → k d dx dv = some d' →
  (∀ H' F' u', Step a H F H' F' → H' a = some u' → Cont K F' u' d' → Q H') → r (.ref a) ix x H Q
def cSetItem (k : OpS) (i : Nat) (oi : Opd) (c : CE) : CS := fun env => match c env with
  | .ok c1 env1 => match c1.val, (env1.getD i .emp).read with
    | some dv, some _ => match oi.ev env1 with
      | .ok l env2 => match env2.getD i .emp, l.get env2 with
        | .own b d, some dx => match k d dx dv with
          | some d' => .nx (env2.set i (.own b d'))
          | none => .no
        | _, _ => .no
      | .ex x env2 => .ex x env2
      | .no => .no
    | _, _ => .no
  | .ex x env1 => .ex x env1
  | .no => .no
theorem ds_setItem {o ix ex : Expr} {i : Nat} {oi : Opd} {ti te : TE} {c : CE} {pos pos2 : Pos} {r : TSet} {k : OpS} (hS : PSet X r) (hr : OpSOk X.K r k) (h : DE X xp W ex c te) (ho : PE X o (tVar i)) (hi : DO X xp W ix oi ti)
    (ha : ∀ v, assign (.Subscript o ix pos2) X.env v = (do
      let ov ← holding [v] (eval o X.env)
      let iv ← holding [v, ov] (eval ix X.env)
      standAt pos2
      holding [v, ov, iv] (setItem ov iv v)
      release [v, ov, iv] []) := by intro _; rfl) (hs : swapsWithSole [.Subscript o ix pos2] ex pos.line X.env = pure false := by rfl) (hw : swappedStores [.Subscript o ix pos2] ex X.env = pure none := by rfl)
    (h1 : (assignEach [.Subscript o ix pos2] X.env).map (·.2) = [assign (.Subscript o ix pos2) X.env] := by rfl) : DS X xp W (.Assign [.Subscript o ix pos2] ex pos) (cSetItem k i oi c) := by
  obtain ⟨p, q⟩ := h
  refine ⟨_, ps_asg p (pg_sub ho hi.pe hS ha) hs hw h1, fun e σ H F env D w h => q e σ H F env _ w ?_⟩
  unfold cSetItem at h
  cases g : c env with
  | no => rw [g] at h; exact h
  | ex x env1 => rw [g] at h; exact fun H' F' cls d w' s y => h σ H' F' cls d w' s y
  | ok c1 env1 =>
    rw [g] at h
    dsimp only at h
    intro v H1 F1' w1' s1' r1'
    obtain ⟨F1, dv, e1, w1, s1, r1⟩ := r1'.freeze w1'
    rw [e1] at h
    cases g2 : (env1.getD i .emp).read with
    | none => rw [g2] at h; exact h.elim
    | some dr =>
      rw [g2] at h
      dsimp only at h
      obtain ⟨v0, hv0⟩ := w1.read g2
      refine ⟨v0, hv0, hi.run w1 (fun x env2 H' F' cls d q2 w' s y => ?_) (fun q2 => ?_) fun l env2 u H2 F2 q2 w2 s2 l2 => ?_⟩
      · rw [q2] at h; exact h σ H' F' cls d w' ((s1'.trans s1).trans s) y
      · rw [q2] at h; exact h
      · rw [q2] at h
        dsimp only at h
        cases g3 : env2.getD i .emp with
        | emp => rw [g3] at h; exact h.elim
        | frz d => rw [g3] at h; exact h.elim
        | lck d => rw [g3] at h; exact h.elim
        | exc x => rw [g3] at h; exact h.elim
        | own b d =>
          rw [g3] at h
          cases g4 : l.get env2 with
          | none => rw [g4] at h; exact h.elim
          | some dx =>
            rw [g4] at h
            dsimp only at h
            cases g5 : k d dx dv with
            | none => rw [g5] at h; exact h.elim
            | some d' =>
              rw [g5] at h
              have hc := of_getD g3 (fun z => nomatch z)
              obtain ⟨a, u0, e1, h1, n1, k1⟩ := w2.cell i _ _ hc hv0
              cases e1
              exact hr a u0 d u dx v dv d' H2 F2 _ w2.sub h1 n1 k1 (.of w2 l2 g4) (r1.mono s2) g5 fun H' F' u' st hu k' => h σ H' F' (w2.step hc hv0 st hu k') (((s1'.trans s1).trans s2).trans st.fz)
/-! ### x += e (whole numbers, texts: frozen things) -/
def cAug (k : Op2) (i : Nat) (c : CE) : CS := fun env => match env.getD i .emp with
  | .frz d0 => match c env with
    | .ok c1 env1 => match c1.val, isLck (env1.getD i .emp) with
      | some dv, false => match k d0 dv with
        | .val (.frz d) => .nx (env1.set i (.frz d))
        | _ => .no
      | _, _ => .no
    | .ex x env1 => .ex x env1
    | .no => .no
  | _ => .no

/-! ### loops -/
/-- a target: one name, or a tuple of names -/
def tgGo : List Nat → List PyData → Cs → Option Cs
  | [], [], env => some env
  | i :: is, d :: ds, env => match isLck (env.getD i .emp) with
    | true => none
    | false => tgGo is ds (env.set i (.frz d))
  | _, _, _ => none
theorem tgGo_len : ∀ {is : List Nat} {ds : List PyData} {env env' : Cs}, tgGo is ds env = some env' → ds.length = is.length
  | [], [], _, _, _ => rfl
  | [], _ :: _, _, _, p => nomatch p
  | _ :: _, [], _, _, p => nomatch p
  | i :: is, d :: ds, env, env', p => by
    unfold tgGo at p
    cases g : isLck (env.getD i .emp) with
    | true => rw [g] at p; cases p
    | false => rw [g] at p; rw [List.length_cons, List.length_cons, tgGo_len p]
inductive Tg where
  | one (i : Nat)
  | many (is : List Nat)
def Tg.put : Tg → PyData → Cs → Option Cs
  | .one i, d, env => match isLck (env.getD i .emp) with
    | true => none
    | false => some (env.set i (.frz d))
  | .many is, .tuple ds, env => tgGo is ds env
  | .many _, _, _ => none
def Tg.slots : Tg → List Nat
  | .one i => [i]
  | .many is => is
/-- nothing but these slots is another -/
def Off (is : List Nat) (σ σ' : St) : Prop := σ'.length = σ.length ∧ ∀ j, j ∉ is → σ'[j]? = σ[j]?
theorem Off.refl (is : List Nat) (σ : St) : Off is σ σ := ⟨rfl, fun _ _ => rfl⟩
theorem Off.set {is : List Nat} {σ σ' : St} {i : Nat} {x : Option V} (h : Off is (σ.set i x) σ') : Off (i :: is) σ σ' :=
  ⟨by rw [h.1, List.length_set], fun j hj => by
    rw [h.2 j (fun z => hj (List.mem_cons_of_mem _ z)), List.getElem?_set_ne (fun z => hj (by rw [z]; exact List.mem_cons_self))]⟩
def DG (X : Cx) (ex : Expr) (g : Tg) (t : TG) : Prop := PG X ex t ∧ ∀ e σ H F env env' v d Q, Wl X.K e σ H F env → RD X.K F v d → g.put d env = some env' → (∀ σ', Wl X.K e σ' H F env' → Off g.slots σ σ' → Q σ' H) → t v σ H Q
theorem dg_name {i : Nat} {x : Str} {pos : Pos} (hN : X.N.Nodup) (hi : X.N[i]? = some x) (hx : Loc X.env.scope x) (hf : X.fn x = true ∨ X.env.scope.names.lookup x = some .local := by first | exact .inl rfl | exact .inr rfl | assumption) :
    DG X (.Name x pos) (.one i) (gName i) := by
  refine ⟨pg_name hN hi hx hf, fun e σ H F env env' v d Q w r p q => ?_⟩
  unfold Tg.put at p
  dsimp only at p
  cases g : isLck (env.getD i .emp) with
  | true => rw [g] at p; cases p
  | false => rw [g] at p; cases p; exact q _ (w.putF (nolck w g) r) (Off.set (Off.refl [] _))
inductive DGs (X : Cx) : List Expr → List Nat → TGs → Prop
  | nil : DGs X [] [] gNil
  | cons {ex : Expr} {es : List Expr} {i : Nat} {is : List Nat} {u : TGs} : PG X ex (gName i) → DGs X es is u → ((assignEach (ex :: es) X.env).map (·.2) = assign ex X.env :: (assignEach es X.env).map (·.2)) → DGs X (ex :: es) (i :: is) (gCons (gName i) u)
theorem DGs.pg : ∀ {es : List Expr} {is : List Nat} {u : TGs}, DGs X es is u → PGs X es u
  | _, _, _, .nil => pgs_nil
  | _, _, _, .cons a b h => pgs_cons a b.pg h
theorem DGs.run : ∀ {es : List Expr} {is : List Nat} {u : TGs}, DGs X es is u → ∀ {e : Ent} {σ : St} {H F : Hp} {env env' : Cs} {vs : List V} {ds : List PyData} {Q : St → Hp → Prop}, Wl X.K e σ H F env → RDs X.K F vs ds → tgGo is ds env = some env' →
    (∀ σ', Wl X.K e σ' H F env' → Off is σ σ' → Q σ' H) → u vs σ H Q
  | _, _, _, .nil, e, σ, H, F, env, env', vs, ds, Q, w, r, p, q => by
    cases r with
    | nil => cases p; exact ⟨rfl, q _ w (.refl _ _)⟩
    | cons _ _ => cases p
  | _, _, _, .cons (i := i) (is := is) a b h, e, σ, H, F, env, env', vs, ds, Q, w, r, p, q => by
    cases r with
    | nil => cases p
    | cons r1 r2 =>
      unfold tgGo at p
      cases g : isLck (env.getD i .emp) with
      | true => rw [g] at p; cases p
      | false => rw [g] at p; exact ⟨_, _, rfl, b.run (w.putF (nolck w g) r1) r2 p fun σ' w' o => q σ' w' o.set⟩
theorem dg_tup {es : List Expr} {is : List Nat} {k : Nat} {t : TGs} {n : Nat} {pos : Pos} (hc : X.calm = true) (h : DGs X es is t) (hl : is.length = n := by rfl) (hn : (assignEach es X.env).length = n := by rfl) (hst : (assignEach es X.env).findIdx? (·.1) = none := by rfl) :
    DG X (.Tuple es k pos) (.many is) (gTup X.K n t) := by
  refine ⟨pg_tup hc h.pg hn hst, fun e σ H F env env' v d Q w r p q => ?_⟩
  cases d with
  | tuple ds =>
    cases r with
    | tup s r =>
      rename_i a vs
      exact ⟨a, vs, rfl, .inl (.inl (w.sub.tp _ _ s)), by rw [r.length, tgGo_len p, hl], h.run w r p q⟩
  | _ => cases p
end
end DL

/-! DLG: what is walked; for, while, comprehensions. -/
namespace DL
open PySem L2
section
variable {K : PySem.W.Frag} {e : Ent} {σ : St} {H F H' F' : Hp} {env env' : Cs}

/-! ### the turns: data told ahead -/
def ItOk (K : PySem.W.Frag) (J : It) (items : List PyData) (e : Ent) (F₁ : Hp) : Prop := ∀ σ H F env, Wl K e σ H F env → Sub F₁ F → ∀ i,
  (∀ d, items[i]? = some d → J.go i H ∧ ∀ x H', J.yld i H x H' → ∃ F', Grow H F H' F' ∧ RD K F' x d) ∧ (items.length = i → J.stop i H)
def PostI (K : PySem.W.Frag) (xp : XP) (W : WX) (e : Ent) (σ : St) (F : Hp) (R : It → Hp → Prop) : Res (List PyData) → Prop
  | .ok items env => ∀ J H' F', Wl K e σ H' F' env → Sub F F' → ItOk K J items e F' → items.length ≤ sizeLine → R J H'
  | .ex x env => ∀ H' F' cls d, Wl K e σ H' F' env → Sub F F' → xp x cls d H' → W cls d σ H'
  | .no => False
abbrev CI := Cs → Res (List PyData)
def DI (X : Cx) (xp : XP) (W : WX) (tg iter : Expr) (c : CI) (wi : TI) : Prop :=
  PI X tg iter wi ∧ ∀ e σ H F env R, Wl X.K e σ H F env → PostI X.K xp W e σ F R (c env) → wi σ H R
/-- a list or tuple, evaluated and frozen -/
def seqOf : PyData → Option (List PyData)
  | .list ds => some ds
  | .tuple ds => some ds
  | _ => none
def iSeq (c : CE) : CI := fun env => (c env).bind fun c env1 => match c.val with
  | some d => match seqOf d with
    | some ds => .ok ds env1
    | none => .no
  | none => .no
/-- no list, no tuple is longer than the line -/
def Fact (K : PySem.W.Frag) (H : Hp) : Prop := (∀ a xs, SqL K H a xs → xs.length ≤ sizeLine) ∧ ∀ a xs, SqT K H a xs → xs.length ≤ sizeLine
theorem fact_of {X : Cx} {pins : List (Addr × Obj)} {σ : St} {H : Hp} {s : Shared} (I : Inv X pins σ H s) : Fact X.K H := by
  refine ⟨fun a xs h => ?_, fun a xs h => ?_⟩
  · obtain ⟨its, rv, p, hz⟩ := I.list h
    first | exact hz | (rw [rv.length]; exact hz) | (rw [← rv.length] at hz; exact hz) | (have := rv.length; simp at hz this; omega)
  · obtain ⟨its, rv, p, hz⟩ := I.tuple h
    first | exact hz | (rw [rv.length]; exact hz) | (rw [← rv.length] at hz; exact hz) | (have := rv.length; simp at hz this; omega)
theorem PI.fact {X : Cx} {tg iter : Expr} {wi : TI} (h : PI X tg iter wi) : PI X tg iter (fun σ H R => wi σ H fun J H1 => Fact X.K H1 → R J H1) :=
  ⟨fun pins s σ H R I hw => thn (h.run pins s σ H _ I hw) fun v s1 q => thn q fun itv s2 ⟨it, fp, tn, J, H', e, I', T, t0, fo, r⟩ => ⟨it, fp, tn, J, H', e, I', T, t0, fo, r (fact_of I')⟩⟩
theorem PI.or {X : Cx} {tg iter : Expr} {w1 w2 : TI} (h1 : PI X tg iter w1) (h2 : PI X tg iter w2) : PI X tg iter (fun σ H R => w1 σ H R ∨ w2 σ H R) :=
  ⟨fun pins s σ H R I h => h.elim (h1.run pins s σ H R I) (h2.run pins s σ H R I)⟩
theorem seqL_inj {a : Addr} {xs ys : List V} {G : Hp} (w : Wl K e σ H F env) (h : Rd H a (.lst xs)) (h' : Rd H a (.lst ys)) : xs = ys := by
  rcases h with h | ⟨o, h⟩
  · rcases h' with h' | ⟨o', h'⟩
    · rw [h] at h'; cases h'; rfl
    · rw [h] at h'; cases h'
  · rcases h' with h' | ⟨o', h'⟩
    · rw [h] at h'; cases h'
    · rw [h] at h'; cases h'; rfl
end
section
variable {X : Cx} {xp : XP} {W : WX}
/-- the list at a, read anyhow, gives these items -/
theorem itl_ok {e : Ent} {F₁ : Hp} {a : Addr} {vs : List V} {ds : List PyData} {K : PySem.W.Frag} (h : SqL K F₁ a vs) (r : RDs K F₁ vs ds) : ItOk K (Itl K a) ds e F₁ := by
  intro σ H F env w s i
  have hH : SqL K H a vs := w.sub.sqL (s.sqL h)
  refine ⟨fun d hd => ?_, fun hl => ⟨vs, hH, by rw [r.length]; exact Nat.le_of_eq hl⟩⟩
  obtain ⟨v, hv, rv⟩ := r.get' hd
  refine ⟨⟨vs, v, hH, hv⟩, fun x H' y => ?_⟩
  obtain ⟨rfl, f⟩ := y
  have ev := (f vs hH).symm.trans hv
  cases ev
  exact ⟨F, .refl w.sub, rv.mono s⟩
theorem itt_ok {e : Ent} {F₁ : Hp} {a : Addr} {vs : List V} {ds : List PyData} {K : PySem.W.Frag} (h : SqT K F₁ a vs) (r : RDs K F₁ vs ds) : ItOk K (Itt K a) ds e F₁ := by
  intro σ H F env w s i
  have hH : SqT K H a vs := w.sub.sqT (s.sqT h)
  refine ⟨fun d hd => ?_, fun hl => ⟨vs, hH, by rw [r.length]; exact Nat.le_of_eq hl⟩⟩
  obtain ⟨v, hv, rv⟩ := r.get' hd
  refine ⟨⟨vs, v, hH, hv⟩, fun x H' y => ?_⟩
  obtain ⟨rfl, f⟩ := y
  have ev := (f vs hH).symm.trans hv
  cases ev
  exact ⟨F, .refl w.sub, rv.mono s⟩
theorem di_seq {tg iter : Expr} {c : CE} {t : TE} (h : DE X xp W iter c t) : DI X xp W tg iter (iSeq c) (fun σ H R => iList X.K t σ H (fun J H1 => Fact X.K H1 → R J H1) ∨ iTup X.K t σ H (fun J H1 => Fact X.K H1 → R J H1)) := by
  refine ⟨PI.or (PI.fact (pi_list h.1)) (PI.fact (pi_tup h.1)), fun e σ H F env R w p => ?_⟩
  unfold iSeq at p
  cases g : c env with
  | no => rw [g] at p; exact p.elim
  | ex x env1 =>
    rw [g] at p
    exact .inl (h.2 e σ H F env _ w (by rw [g]; exact p))
  | ok c1 env1 =>
    rw [g] at p; simp only [Res.bind] at p
    cases g2 : c1.val with
    | none => rw [g2] at p; exact p.elim
    | some d =>
      rw [g2] at p; dsimp only at p
      cases g3 : seqOf d with
      | none => rw [g3] at p; exact p.elim
      | some ds =>
        rw [g3] at p
        cases d with
        | list ds' =>
          cases g3
          refine .inl (h.2 e σ H F env _ w ?_)
          rw [g]
          intro v H' F' w' s r
          obtain ⟨F2, d2, e2, w2, s2, r2⟩ := r.freeze w'
          rw [g2] at e2; cases e2
          cases r2 with
          | lst q rs => exact ⟨_, rfl, ⟨_, w2.sub.sqL (.inl q)⟩, fun ff => p _ H' F2 w2 (s.trans s2) (itl_ok (.inl q) rs) (by rw [← rs.length]; exact ff.1 _ _ (w2.sub.sqL (.inl q)))⟩
        | tuple ds' =>
          cases g3
          refine .inr (h.2 e σ H F env _ w ?_)
          rw [g]
          intro v H' F' w' s r
          obtain ⟨F2, d2, e2, w2, s2, r2⟩ := r.freeze w'
          rw [g2] at e2; cases e2
          cases r2 with
          | tup q0 rs => exact (fun q : SqT X.K F2 _ _ => ⟨_, rfl, ⟨_, w2.sub.sqT q⟩, fun ff => p _ H' F2 w2 (s.trans s2) (itt_ok q rs) (by rw [← rs.length]; exact ff.2 _ _ (w2.sub.sqT q))⟩) (.inl (.inl q0))
        | none => cases g3
        | bool b => cases g3
        | int b => cases g3
        | str b => cases g3
        | dict b => cases g3
/-- whole numbers from lo on, n of them -/
def rgD (lo : Int) (n : Nat) : List PyData := (List.range n).map fun i => .int (lo + (i : Nat))
theorem rgD_len (lo : Int) (n : Nat) : (rgD lo n).length = n := by unfold rgD; simp
theorem rgD_get (lo : Int) (n i : Nat) : (rgD lo n)[i]? = if i < n then some (.int (lo + (i : Nat))) else none := by
  unfold rgD
  rw [List.getElem?_map]
  by_cases h : i < n
  · rw [List.getElem?_range h, if_pos h]; rfl
  · rw [if_neg h, List.getElem?_eq_none (by simp; omega)]; rfl
theorem itr_ok {K : PySem.W.Frag} {e : Ent} {F₁ : Hp} (lo : Int) (n : Nat) : ItOk K (Itr lo n) (rgD lo n) e F₁ := by
  intro σ H F env w s i
  refine ⟨fun d hd => ?_, fun hl => by rw [rgD_len] at hl; exact Nat.le_of_eq hl⟩
  rw [rgD_get] at hd
  by_cases h : i < n
  · rw [if_pos h] at hd; cases hd
    refine ⟨h, fun x H' y => ?_⟩
    obtain ⟨rfl, rfl⟩ := y
    exact ⟨F, .refl w.sub, .int _⟩
  · rw [if_neg h] at hd; cases hd
def rg1 : List PyData → Option (List PyData)
  | [.int n] => if -1000000 ≤ n ∧ n ≤ 1000000 then some (rgD 0 n.toNat) else none
  | _ => none
def rg2 : List PyData → Option (List PyData)
  | [.int a, .int n] => if (-1000000 ≤ a ∧ a ≤ 1000000) ∧ -1000000 ≤ n ∧ n ≤ 1000000 then some (rgD a (n - a).toNat) else none
  | _ => none
def iArgs (k : List PyData → Option (List PyData)) (os : List Opd) : CI := fun env => (evs os env).bind fun ls env1 => match gets env1 ls with
  | none => .no
  | some ds => match k ds with
    | some items => .ok items env1
    | none => .no
theorem iArgs_run {es : List Expr} {os : List Opd} {ta : TA} {k : List PyData → Option (List PyData)} {wr : (It → Hp → Prop) → List V → Hp → Prop} (ha : DA X xp W es os ta)
    (hk : ∀ R vs ds items e σ H F env, Wl X.K e σ H F env → RBs X.K H F vs ds → k ds = some items → (∀ J F', Sub F F' → Wl X.K e σ H F' env → ItOk X.K J items e F' → items.length ≤ sizeLine → R J H) → wr R vs H)
    {e : Ent} {σ : St} {H F : Hp} {env : Cs} {R : It → Hp → Prop} (w : Wl X.K e σ H F env) (p : PostI X.K xp W e σ F R (iArgs k os env)) : ta σ H (fun vs H1 => wr R vs H1) := by
  refine ha.2 e σ H F env _ w ?_
  unfold iArgs at p
  cases g : evs os env with
  | no => rw [g] at p; exact p
  | ex x env1 => rw [g] at p; exact p
  | ok ls env1 =>
    rw [g] at p; simp only [Res.bind] at p
    intro vs H' F' w' s q
    cases g2 : gets env1 ls with
    | none => rw [g2] at p; exact p.elim
    | some ds =>
      rw [g2] at p; dsimp only at p
      cases g3 : k ds with
      | none => rw [g3] at p; exact p.elim
      | some items =>
        rw [g3] at p
        exact hk R vs ds items e σ H' F' env1 w' (.of w' q g2) g3 fun J F2 s2 w2 it hz => p J H' F2 w2 (s.trans s2) it hz
theorem RBs.one {K : PySem.W.Frag} {H F : Hp} {vs : List V} {d : PyData} (h : RBs K H F vs [d]) : ∃ v, vs = [v] ∧ RB K H F v d := by
  cases h with | cons a b => cases b; exact ⟨_, rfl, a⟩
theorem RBs.two {K : PySem.W.Frag} {H F : Hp} {vs : List V} {d d' : PyData} (h : RBs K H F vs [d, d']) : ∃ v v', vs = [v, v'] ∧ RB K H F v d ∧ RB K H F v' d' := by
  cases h with | cons a b => cases b with | cons c e => cases e; exact ⟨_, _, rfl, a, c⟩
theorem di_range1 {tg a : Expr} {p pos : Pos} {os : List Opd} {ta : TA} (hg : Gl X "range") (hm : X.mg "range" = none) (ha : DA X xp W [a] os ta) (hs : starEach [a] X.env = [(false, eval a X.env)] := by rfl) :
    DI X xp W tg (.Call (.Name "range" p) [a] [] pos) (iArgs rg1 os) (iRng1 ta) := by
  refine ⟨pi_range1 hg hm ha.1 hs, fun e σ H F env R w q => ?_⟩
  refine iArgs_run (wr := fun R vs H1 => ∃ j : Int, vs = [.int j] ∧ -(2 ^ 62) ≤ j ∧ j < 2 ^ 62 ∧ R (Itr 0 j.toNat) H1) ha (fun R vs ds items e σ H F env w r k h => ?_) w q
  unfold rg1 at k
  split at k
  · rename_i n
    obtain ⟨v, rfl, rv⟩ := r.one
    split at k
    · rename_i hn
      cases k
      exact ⟨n, by rw [rv.int], by omega, by omega, h _ F (.refl _) w (itr_ok 0 n.toNat) (by rw [rgD_len]; exact Nat.le_trans (show n.toNat ≤ 1000000 by omega) (by decide))⟩
    · cases k
  · cases k
theorem di_range2 {tg a b : Expr} {p pos : Pos} {os : List Opd} {ta : TA} (hg : Gl X "range") (hm : X.mg "range" = none) (ha : DA X xp W [a, b] os ta) (hs : starEach [a, b] X.env = [(false, eval a X.env), (false, eval b X.env)] := by rfl) (hs2 : starEach [b] X.env = [(false, eval b X.env)] := by rfl) :
    DI X xp W tg (.Call (.Name "range" p) [a, b] [] pos) (iArgs rg2 os) (iRng2 ta) := by
  refine ⟨pi_range2 hg hm ha.1 hs hs2, fun e σ H F env R w q => ?_⟩
  refine iArgs_run (wr := fun R vs H1 => ∃ i j : Int, vs = [.int i, .int j] ∧ (-(2 ^ 62) ≤ i ∧ i < 2 ^ 62 ∧ -(2 ^ 62) ≤ j ∧ j < 2 ^ 62) ∧ R (Itr i (j - i).toNat) H1) ha (fun R vs ds items e σ H F env w r k h => ?_) w q
  unfold rg2 at k
  split at k
  · rename_i a n
    obtain ⟨v, v', rfl, rv, rv'⟩ := r.two
    split at k
    · rename_i hn
      cases k
      exact ⟨a, n, by rw [rv.int, rv'.int], ⟨by omega, by omega, by omega, by omega⟩, h _ F (.refl _) w (itr_ok a (n - a).toNat) (by rw [rgD_len]; exact Nat.le_trans (show (n - a).toNat ≤ 2000000 by omega) (by decide))⟩
    · cases k
  · cases k

/-! ### for -/
def forL (g : Tg) (body : CS) : List PyData → CS
  | [], env => .nx env
  | d :: ds, env => match g.put d env with
    | none => .no
    | some env1 => match body env1 with
      | .nx env2 => forL g body ds env2
      | .ct env2 => forL g body ds env2
      | .bk env2 => .nx env2
      | .rt c env2 => .rt c env2
      | .ex x env2 => .ex x env2
      | .no => .no
theorem body_end {K : PySem.W.Frag} {e : Ent} {F : Hp} {D : Ends} {N : St → Hp → Prop} {r : SRes} {k : CS} (h : SPost K xp W e F D (match r with
      | .nx env2 => k env2
      | .ct env2 => k env2
      | .bk env2 => .nx env2
      | .rt c env2 => .rt c env2
      | .ex x env2 => .ex x env2
      | .no => .no))
    (hN : ∀ env2 σ' H' F', SPost K xp W e F' D (k env2) → Wl K e σ' H' F' env2 → Sub F F' → N σ' H') : SPost K xp W e F { D with nx := N, ct := N, bk := D.nx } r := by
  cases r with
  | nx env2 => exact fun σ' H' F' w s => hN env2 σ' H' F' (SPost.subs s h) w s
  | ct env2 => exact fun σ' H' F' w s => hN env2 σ' H' F' (SPost.subs s h) w s
  | bk env2 => exact h
  | rt c env2 => exact h
  | ex x env2 => exact h
  | no => exact h
theorem for_run {g : Tg} {tg : Expr} {gt : TG} {body : List Stmt} {cb : CS} {tb : TS} {J : It} {items : List PyData} (hg : DG X tg g gt) (hb : ∀ e σ H F env D, Wl X.K e σ H F env → SPost X.K xp W e F D (cb env) → tb D σ H)
    {e : Ent} {σ : St} {H F : Hp} {env : Cs} {D : Ends} (w : Wl X.K e σ H F env) (it : ItOk X.K J items e F) (h : SPost X.K xp W e F D (forL g cb items env)) :
    ∃ W : Nat → Nat → St → Hp → Prop, (∃ m, W 0 m σ H) ∧ ∀ i m σ H, W i m σ H →
    (J.stop i H ∧ D.nx σ H) ∨ (J.go i H ∧ ∃ N : St → Hp → Prop, (∀ σ' H', N σ' H' → ∃ m', m' < m ∧ W (i + 1) m' σ' H') ∧ ∀ x H', J.yld i H x H' → gt x σ H' fun σ2 H2 => tb { D with nx := N, ct := N, bk := D.nx } σ2 H2) := by
  refine ⟨fun i m σ H => m = items.length - i ∧ i ≤ items.length ∧ ∃ F1 env, Wl X.K e σ H F1 env ∧ Sub F F1 ∧ SPost X.K xp W e F1 D (forL g cb (items.drop i) env), ⟨items.length, rfl, Nat.zero_le _, F, env, w, .refl _, h⟩, fun i m σ H hw => ?_⟩
  obtain ⟨rfl, hi, F1, env1, w1, s1, h1⟩ := hw
  by_cases hl : i < items.length
  · have hd : items[i]? = some items[i] := List.getElem?_eq_getElem hl
    have ed : items.drop i = items[i] :: items.drop (i + 1) := List.drop_eq_getElem_cons hl
    obtain ⟨go, yl⟩ := (it σ H F1 env1 w1 s1 i).1 _ hd
    refine .inr ⟨go, fun σ' H' => items.length - (i + 1) = items.length - (i + 1) ∧ i + 1 ≤ items.length ∧ ∃ F1 env, Wl X.K e σ' H' F1 env ∧ Sub F F1 ∧ SPost X.K xp W e F1 D (forL g cb (items.drop (i + 1)) env), fun σ' H' hN => ⟨_, by omega, hN⟩, fun x H' y => ?_⟩
    obtain ⟨F2, gr, rx⟩ := yl x H' y
    rw [ed] at h1
    unfold forL at h1
    cases gp : g.put items[i] env1 with
    | none => rw [gp] at h1; exact h1.elim
    | some env2 =>
      rw [gp] at h1
      refine hg.2 e σ H' F2 env1 env2 x items[i] _ (w1.grow gr) rx gp fun σ2 w2 _ => ?_
      refine hb e σ2 H' F2 env2 _ w2 (body_end (SPost.subs gr.fz h1) fun env3 σ3 H3 F3 h3 w3 s3 => ⟨rfl, hl, F3, env3, w3, (s1.trans gr.fz).trans s3, h3⟩)
  · have e1 : i = items.length := Nat.le_antisymm hi (Nat.le_of_not_lt hl)
    refine .inl ⟨(it σ H F1 env1 w1 s1 i).2 (by omega), ?_⟩
    rw [e1, List.drop_length] at h1
    exact h1 σ H F1 w1 (.refl _)
def cFor (g : Tg) (ci : CI) (body : CS) : CS := fun env => match ci env with
  | .ok items env1 => forL g body items env1
  | .ex x env1 => .ex x env1
  | .no => .no
theorem ds_for {tg iter : Expr} {body : List Stmt} {g : Tg} {gt : TG} {ci : CI} {wi : TI} {cb : CS} {pos : Pos} (hp : PassesOwn (PySem.model X.prog X.w) X.A X.env X.xe) (hc : X.calm = true) (hi : DI X xp W tg iter ci wi) (hg : DG X tg g gt) (hb : DSs X xp W body cb)
    (hs : ∀ x, foldedSetIterable iter X.env x = pure x := by intro _; rfl) : DS X xp W (.For tg iter body [] pos) (cFor g ci cb) := by
  obtain ⟨tb, pb, qb⟩ := hb
  refine ⟨_, ps_for hp hc hi.1 hg.1 pb hs, fun e σ H F env D w h => hi.2 e σ H F env _ w ?_⟩
  unfold cFor at h
  cases gi : ci env with
  | no => rw [gi] at h; exact h
  | ex x env1 => rw [gi] at h; exact fun H' F' cls d w' s y => h σ H' F' cls d w' s y
  | ok items env1 =>
    rw [gi] at h
    intro J H' F' w' s it _
    exact for_run (body := body) hg qb w' it (SPost.subs s h)

/-! ### while -/
def whileL (c : CT) (body : CS) : Nat → CS
  | 0, _ => .no
  | n + 1, env => match c env with
    | .ok true env1 => match body env1 with
      | .nx env2 => whileL c body n env2
      | .ct env2 => whileL c body n env2
      | .bk env2 => .nx env2
      | .rt c env2 => .rt c env2
      | .ex x env2 => .ex x env2
      | .no => .no
    | .ok false env1 => .nx env1
    | .ex x env1 => .ex x env1
    | .no => .no
theorem ds_while {c : Expr} {body : List Stmt} {cc : CT} {tc : TT} {cb : CS} {pos : Pos} (n : Nat) (hp : PassesOwn (PySem.model X.prog X.w) X.A X.env X.xe) (hc : DT X xp W c cc tc) (hb : DSs X xp W body cb) : DS X xp W (.While c body [] pos) (whileL cc cb n) := by
  obtain ⟨tb, pb, qb⟩ := hb
  refine ⟨_, ps_while hp hc.1 pb, fun e σ H F env D w h => ?_⟩
  refine ⟨fun m σ H => ∃ F1 env, Wl X.K e σ H F1 env ∧ Sub F F1 ∧ SPost X.K xp W e F1 D (whileL cc cb m env), ⟨n, F, env, w, .refl _, h⟩, fun m σ H hw => ?_⟩
  obtain ⟨F1, env1, w1, s1, h1⟩ := hw
  cases m with
  | zero => exact h1.elim
  | succ m =>
    unfold whileL at h1
    refine hc.2 e σ H F1 env1 _ w1 ?_
    cases g : cc env1 with
    | no => rw [g] at h1; exact h1
    | ex x env2 => rw [g] at h1; exact fun H' F' cls d w' s y => h1 σ H' F' cls d w' s y
    | ok b env2 =>
      rw [g] at h1
      intro H' F' w' s
      cases b with
      | false => exact iteF (h1 σ H' F' w' s)
      | true =>
        refine iteT ⟨fun σ' H' => ∃ F1 env, Wl X.K e σ' H' F1 env ∧ Sub F F1 ∧ SPost X.K xp W e F1 D (whileL cc cb m env), fun σ' H' hN => ⟨m, Nat.lt_succ_self m, hN⟩, ?_⟩
        exact qb e σ H' F' env2 _ w' (body_end (SPost.subs s h1) fun env3 σ3 H3 F3 h3 w3 s3 => ⟨F3, env3, w3, (s1.trans s).trans s3, h3⟩)
end
end DL

/-! DLH: comprehensions; a def's meaning from its body. -/
namespace DL
open PySem L2
section
variable {K : PySem.W.Frag} {e : Ent} {σ σ' : St} {H F H' F' : Hp} {env env' : Cs}
/-- one turn's own entry -/
def turnE (e : Ent) (σ : St) (H F : Hp) (env : Cs) : Ent := ⟨H, F, fun a => ∃ (j : Nat) (b : Bool) (d : PyData), env[j]? = some (.own b d) ∧ σ[j]? = some (some (.ref a)), e.pin, e.lk⟩
theorem Wl.enter (w : Wl K e σ H F env) : Wl K (turnE e σ H F env) σ H F env where
  len := w.len
  sub := w.sub
  cell := w.cell
  apart := w.apart
  keep := fun a o h _ => h
  new := fun a h => .inl h
  mine := fun i b d a h hx => .inr ⟨i, b, d, h, hx⟩
  pin := w.pin
  lk := w.lk
  lk2 := w.lk2
theorem Wl.old (w : Wl K e σ H F env) {a : Addr} (h : H a = none) : e.H₀ a = none ∨ e.P a := by
  by_cases p : e.P a
  · exact .inr p
  · refine .inl ?_
    cases z : e.H₀ a with
    | none => rfl
    | some o => rw [w.keep a o z p] at h; cases h
theorem Wl.leave (w : Wl K e σ H F env) (w' : Wl K (turnE e σ H F env) σ' H' F' env') : Wl K e σ' H' F' env' where
  len := w'.len
  sub := w'.sub
  cell := w'.cell
  apart := w'.apart
  keep := fun a o h np => w'.keep a o (w.keep a o h np) fun ⟨j, b, d, hc, hx⟩ => by
    rcases w.mine j b d a hc hx with y | y
    · rw [y] at h; cases h
    · exact np y
  new := fun a h => by
    rcases w'.new a h with y | y | ⟨j, b, d, hc, hx⟩
    · exact w.new a y
    · by_cases p : e.P a
      · exact .inr (.inr p)
      · exact .inr (.inl (w.newA p y))
    · rcases w.mine j b d a hc hx with z | z
      · exact .inr (.inl (.inl z))
      · exact .inr (.inr z)
  mine := fun i b d a hc hx => by
    rcases w'.mine i b d a hc hx with y | ⟨j, b2, d2, hc2, hx2⟩
    · exact w.old y
    · exact w.mine j b2 d2 a hc2 hx2
  pin := w'.pin
  lk := w'.lk
  lk2 := w'.lk2
/-- slot i is forgotten -/
theorem Wl.clear (w : Wl K e σ H F env) {i : Nat} (hk : e.lk i = none) : Wl K e (σ.set i none) H F (env.set i .emp) := by
  have hl : ∀ {j : Nat} {x : Option V}, (σ.set i none)[j]? = some x → (j = i ∧ x = none ∧ i < env.length) ∨ (j ≠ i ∧ σ[j]? = some x) := fun {j x} h => by
    by_cases z : i = j
    · subst z
      have hj : i < σ.length := by simpa using (List.getElem?_eq_some_iff.mp h).1
      rw [List.getElem?_set_self hj] at h
      exact .inl ⟨rfl, (Option.some.inj h).symm, by rw [← w.len]; exact hj⟩
    · rw [List.getElem?_set_ne z] at h; exact .inr ⟨fun y => z y.symm, h⟩
  refine ⟨by simp [w.len], w.sub, ?_, ?_, w.keep, w.new, ?_, ?_, ?_, ?_⟩
  · intro j c' x h hx
    rcases hl hx with ⟨rfl, rfl, hi⟩ | ⟨n, hx⟩
    · rw [List.getElem?_set_self hi] at h; cases h; trivial
    · rw [List.getElem?_set_ne (Ne.symm n)] at h; exact w.cell j c' x h hx
  · intro j k c1 c2 a n h1 h2 m1 m2 x1 x2
    rcases hl x1 with ⟨rfl, e1, hi⟩ | ⟨n1, y1⟩
    · cases e1
    · rcases hl x2 with ⟨rfl, e2, hi⟩ | ⟨n2, y2⟩
      · cases e2
      · rw [List.getElem?_set_ne (Ne.symm n1)] at h1
        rw [List.getElem?_set_ne (Ne.symm n2)] at h2
        exact w.apart j k c1 c2 a n h1 h2 m1 m2 y1 y2
  · intro j b d a h hx
    rcases hl hx with ⟨rfl, e1, hi⟩ | ⟨n, hx⟩
    · cases e1
    · rw [List.getElem?_set_ne (Ne.symm n)] at h; exact w.mine j b d a h hx
  · intro j c' h hc'
    by_cases z : i = j
    · subst z
      have hi : i < env.length := by simpa using (List.getElem?_eq_some_iff.mp h).1
      rw [List.getElem?_set_self hi] at h; cases h
      rcases hc' with ⟨d, y⟩ | ⟨d, y⟩ <;> cases y
    · rw [List.getElem?_set_ne z] at h
      obtain ⟨v', h1, h2⟩ := w.pin j c' h hc'
      exact ⟨v', h1, by rw [List.getElem?_set_ne z]; exact h2⟩
  · intro j d h
    have q := w.lk j d h
    by_cases z : i = j
    · subst z; rw [hk] at h; cases h
    · rw [List.getElem?_set_ne z]; exact q
  · intro j d h
    by_cases z : i = j
    · subst z
      have hi : i < env.length := by simpa using (List.getElem?_eq_some_iff.mp h).1
      rw [List.getElem?_set_self hi] at h; cases h
    · rw [List.getElem?_set_ne z] at h; exact w.lk2 j d h
def wipeE (env : Cs) : List Nat → Cs
  | [] => env
  | v :: vs => (wipeE env vs).set v .emp
theorem Wl.wipe : ∀ {vs : List Nat}, (∀ v ∈ vs, e.lk v = none) → Wl K e σ H F env → Wl K e (L2.wipe σ vs) H F (wipeE env vs)
  | [], _, w => w
  | v :: vs, h, w => (Wl.wipe (fun u hu => h u (List.mem_cons_of_mem _ hu)) w).clear (h v List.mem_cons_self)
theorem wipe_get {σ : St} {j : Nat} : ∀ {vs : List Nat}, j ∉ vs → (L2.wipe σ vs)[j]? = σ[j]?
  | [], _ => rfl
  | v :: vs, h => by
    show ((L2.wipe σ vs).set v none)[j]? = _
    rw [List.getElem?_set_ne (fun z => h (by rw [z]; exact List.mem_cons_self)), wipe_get fun z => h (List.mem_cons_of_mem _ z)]
theorem wipeE_get {env : Cs} {j : Nat} : ∀ {vs : List Nat}, j ∉ vs → (wipeE env vs)[j]? = env[j]?
  | [], _ => rfl
  | v :: vs, h => by
    show ((wipeE env vs).set v .emp)[j]? = _
    rw [List.getElem?_set_ne (fun z => h (by rw [z]; exact List.mem_cons_self)), wipeE_get fun z => h (List.mem_cons_of_mem _ z)]
theorem wipe_in {σ : St} {j : Nat} : ∀ {vs : List Nat}, j ∈ vs → ∀ v, (L2.wipe σ vs)[j]? ≠ some (some v) := fun {vs} h v z => (wipe_some z).2 h
theorem wipe_off {σ σ2 : St} {is vs : List Nat} (o : Off is σ σ2) (h : ∀ i ∈ is, i ∈ vs) (e : σ = L2.wipe σ vs) : L2.wipe σ2 vs = σ := by
  apply List.ext_getElem?
  intro j
  by_cases z : j ∈ vs
  · rw [e]
    have len : (L2.wipe σ2 vs).length = (L2.wipe σ vs).length := by rw [wipe_length, wipe_length, o.1]
    have p : ∀ (τ : St), (L2.wipe τ vs)[j]? = if j < τ.length then some none else none := fun τ => by
      by_cases hj : j < τ.length
      · rw [if_pos hj]
        have hl : j < (L2.wipe τ vs).length := by rw [wipe_length]; exact hj
        rw [List.getElem?_eq_getElem hl]
        cases q : (L2.wipe τ vs)[j] with
        | none => rfl
        | some v => exact (wipe_in z v (by rw [List.getElem?_eq_getElem hl, q])).elim
      · rw [if_neg hj, List.getElem?_eq_none (by rw [wipe_length]; omega)]
    rw [p σ2, p σ, o.1]
  · rw [wipe_get z, o.2 j (fun y => z (h j y))]
theorem wipe_wipe (σ : St) (vs : List Nat) : L2.wipe σ vs = L2.wipe (L2.wipe σ vs) vs := by
  apply List.ext_getElem?
  intro j
  by_cases z : j ∈ vs
  · have p : ∀ (τ : St), (L2.wipe τ vs)[j]? = if j < τ.length then some none else none := fun τ => by
      by_cases hj : j < τ.length
      · rw [if_pos hj]
        have hl : j < (L2.wipe τ vs).length := by rw [wipe_length]; exact hj
        rw [List.getElem?_eq_getElem hl]
        cases q : (L2.wipe τ vs)[j] with
        | none => rfl
        | some v => exact (wipe_in z v (by rw [List.getElem?_eq_getElem hl, q])).elim
      · rw [if_neg hj, List.getElem?_eq_none (by rw [wipe_length]; omega)]
    rw [p σ, p, wipe_length]
  · rw [wipe_get z, wipe_get z, wipe_get z]

/-- the slots vs as they were -/
def backE (env1 : Cs) : List Nat → Cs → Cs
  | [], env => env
  | v :: vs, env => (backE env1 vs env).set v (env1.getD v .emp)
theorem backE_len {env1 : Cs} : ∀ {vs : List Nat} {env : Cs}, (backE env1 vs env).length = env.length
  | [], _ => rfl
  | v :: vs, env => by show ((backE env1 vs env).set v _).length = _; rw [List.length_set, backE_len]
theorem backE_out {env1 : Cs} {j : Nat} : ∀ {vs : List Nat} {env : Cs}, j ∉ vs → (backE env1 vs env)[j]? = env[j]?
  | [], _, _ => rfl
  | v :: vs, env, h => by
    show ((backE env1 vs env).set v _)[j]? = _
    rw [List.getElem?_set_ne (fun z => h (by rw [z]; exact List.mem_cons_self)), backE_out fun z => h (List.mem_cons_of_mem _ z)]
theorem backE_in {env1 : Cs} {j : Nat} : ∀ {vs : List Nat} {env : Cs}, j ∈ vs → j < env.length → (backE env1 vs env)[j]? = some (env1.getD j .emp)
  | [], _, h, _ => nomatch h
  | v :: vs, env, h, hl => by
    show ((backE env1 vs env).set v _)[j]? = _
    by_cases z : v = j
    · subst z; rw [List.getElem?_set_self (by rw [backE_len]; exact hl)]
    · rw [List.getElem?_set_ne z]
      refine backE_in ?_ hl
      cases h with
      | head => exact (z rfl).elim
      | tail _ h => exact h
/-- out of the block -/
theorem Wl.back {vs : List Nat} {H1 F1 : Hp} {env1 : Cs} (w1 : Wl K e σ H1 F1 env1) (hm : ∀ v ∈ vs, (env1.getD v .emp).mine = false) (s : Sub F1 F) (w : Wl K e (L2.wipe σ vs) H F env) : Wl K e σ H F (backE env1 vs env) := by
  have ll : env.length = env1.length := by rw [← w.len, wipe_length, w1.len]
  have hs : ∀ {j : Nat} {c : Cell}, (backE env1 vs env)[j]? = some c → (j ∈ vs ∧ env1[j]? = some c ∧ c.mine = false) ∨ (j ∉ vs ∧ env[j]? = some c) := fun {j c} h => by
    by_cases z : j ∈ vs
    · have hj : j < env.length := by rw [← backE_len (env1 := env1) (vs := vs)]; exact (List.getElem?_eq_some_iff.mp h).1
      rw [backE_in z hj] at h
      have h' := Option.some.inj h
      refine .inl ⟨z, ?_, by rw [← h']; exact hm j z⟩
      rw [← h', List.getD_eq_getElem?_getD, List.getElem?_eq_getElem (by rw [← ll]; exact hj)]; rfl
    · rw [backE_out z] at h; exact .inr ⟨z, h⟩
  refine ⟨by rw [backE_len, w1.len, ll], w.sub, ?_, ?_, w.keep, w.new, ?_, ?_, ?_, ?_⟩
  · intro j c x h hx
    rcases hs h with ⟨z, h, m⟩ | ⟨z, h⟩
    · have q := w1.cell j c x h hx
      cases c with
      | emp => trivial
      | frz d => obtain ⟨v, e1, r⟩ := q; exact ⟨v, e1, r.mono s⟩
      | own b d => cases m
      | lck d => cases m
      | exc x => exact q.elim
    · exact w.cell j c x h (by rw [wipe_get z]; exact hx)
  · intro j k c1 c2 a n h1 h2 m1 m2 x1 x2
    rcases hs h1 with ⟨z, h, m⟩ | ⟨z, h⟩
    · rw [m] at m1; cases m1
    · rcases hs h2 with ⟨z2, h', m⟩ | ⟨z2, h'⟩
      · rw [m] at m2; cases m2
      · exact w.apart j k c1 c2 a n h h' m1 m2 (by rw [wipe_get z]; exact x1) (by rw [wipe_get z2]; exact x2)
  · intro j b d a h hx
    rcases hs h with ⟨z, h, m⟩ | ⟨z, h⟩
    · cases m
    · exact w.mine j b d a h (by rw [wipe_get z]; exact hx)
  · intro j c h hc
    rcases hs h with ⟨z, h, m⟩ | ⟨z, h⟩
    · rcases hc with ⟨d, rfl⟩ | ⟨d, rfl⟩ <;> cases m
    · obtain ⟨v, h1, h2⟩ := w.pin j c h hc
      exact ⟨v, h1, by rw [wipe_get z] at h2; exact h2⟩
  · intro j d h
    by_cases z : j ∈ vs
    · have q := w1.lk j d h
      have m := hm j z
      rw [getD_of q] at m; cases m
    · rw [backE_out z]; exact w.lk j d h
  · intro j d h
    rcases hs h with ⟨z, h, m⟩ | ⟨z, h⟩
    · cases m
    · exact w.lk2 j d h
/-- an object that no slot has and that is not frozen is turned -/
theorem Wl.free (w : Wl K e σ H F env) {D : Addr} {o o' : HO} (h : H D = some o) (n : F D = none) (m : e.H₀ D = none ∨ e.P D) (no : ∀ (i : Nat) (c : Cell), env[i]? = some c → c.mine = true → σ[i]? ≠ some (some (.ref D))) : Wl K e σ (upd H D o') F env where
  len := w.len
  sub := by
    refine ⟨fun a u pl r => ?_, fun a q => ?_, fun a vs r => ?_⟩
    · have z : a ≠ D := fun z => by subst z; exact rd_dom r n
      exact rd_congr (upd_ne z).symm (w.sub.rd _ _ pl r)
    · have z : a ≠ D := fun z => by subst z; exact q n
      rw [upd_ne z]; exact w.sub.dom a q
    · have z : a ≠ D := fun z => by subst z; rw [n] at r; cases r
      rw [upd_ne z]; exact w.sub.tp a vs r
  cell := fun i c x hc hx => by
    have q := w.cell i c x hc hx
    cases c with
    | emp => trivial
    | frz d => exact q
    | own b d =>
      obtain ⟨a, u, e1, h1, n1, k1⟩ := q
      have z : a ≠ D := fun z => no i _ hc rfl (by rw [hx, e1, z])
      exact ⟨a, u, e1, by rw [upd_ne z]; exact h1, n1, k1⟩
    | lck d =>
      obtain ⟨a, u, e1, h1, n1, k1⟩ := q
      have z : a ≠ D := fun z => no i _ hc rfl (by rw [hx, e1, z])
      exact ⟨a, u, e1, by rw [upd_ne z]; exact h1, n1, k1⟩
    | exc x => exact q.elim
  apart := w.apart
  keep := fun a u q np => by
    have z : a ≠ D := fun z => by
      subst z
      rcases m with m | m
      · rw [m] at q; cases q
      · exact np m
    rw [upd_ne z]; exact w.keep a u q np
  new := w.new
  mine := w.mine
  pin := w.pin
  lk := w.lk
  lk2 := w.lk2
end

/-! ### [e for target in .. if ..] -/
def compL (g : Tg) (ct : CT) (ce : CE) (vs : List Nat) : List PyData → Cs → Res (List PyData)
  | [], env => .ok [] env
  | d :: ds, env => match g.put d (wipeE env vs) with
    | none => .no
    | some env1 => match ct env1 with
      | .ok true env2 => match ce env2 with
        | .ok c env3 => match c.val with
          | some x => match compL g ct ce vs ds env3 with
            | .ok xs env4 => .ok (x :: xs) env4
            | _ => .no
          | none => .no
        | _ => .no
      | .ok false env2 => compL g ct ce vs ds env2
      | _ => .no
def anyMineS (env : Cs) : List Nat → Bool
  | [] => false
  | v :: vs => (env.getD v .emp).mine || anyMineS env vs
theorem anyMineS_no {env : Cs} : ∀ {vs : List Nat}, anyMineS env vs = false → ∀ v ∈ vs, (env.getD v .emp).mine = false
  | [], _, v, h => nomatch h
  | u :: vs, e, v, h => by
    unfold anyMineS at e
    rw [Bool.or_eq_false_iff] at e
    cases h with
    | head => exact e.1
    | tail _ h => exact anyMineS_no e.2 v h
def cComp (g : Tg) (ci : CI) (ct : CT) (ce : CE) (vs : List Nat) : CE := fun env => match ci env with
  | .ok items env1 => match anyMineS env1 vs with
    | true => .no
    | false => match compL g ct ce vs items env1 with
      | .ok xs env2 => .ok (.own false (.list xs)) (backE env1 vs env2)
      | _ => .no
  | .ex x env1 => .ex x env1
  | .no => .no
def WF : WX := fun _ _ _ _ => False
def tYesC : CT := fun env => .ok true env
section
variable {X : Cx} {xp : XP} {W : WX}
/-- the tests of a clause -/
def DTs (X : Cx) (xp : XP) (W : WX) (ifs : List Expr) (c : CT) (t : TT) : Prop :=
  PTs X ifs t ∧ ∀ e σ H F env Q, Wl X.K e σ H F env → PostT X.K xp W e σ F Q (c env) → t σ H Q
theorem dts_nil : DTs X xp W [] tYesC tYes := ⟨pts_nil, fun e σ H F env Q w h => h H F w (.refl _)⟩
theorem dts_one {c : Expr} {cc : CT} {t : TT} (h : DT X xp W c cc t) : DTs X xp W [c] cc t := ⟨pts_one h.1, h.2⟩
theorem comp_run {tg : Expr} {g : Tg} {gt : TG} {ct : CT} {tt : TT} {ce : CE} {te : TE} {vs : List Nat} {J : It} {items : List PyData} {D : Addr} {Q : VK} {xp' : XP}
    (hg : ∀ e σ H F env env' v d Q, Wl X.K e σ H F env → RD X.K F v d → g.put d env = some env' → (∀ σ', Wl X.K e σ' H F env' → Off g.slots σ σ' → Q σ' H) → gt v σ H Q) (hgs : ∀ i ∈ g.slots, i ∈ vs)
    (ht : ∀ e σ H F env Q, Wl X.K e σ H F env → PostT X.K xp' WF e σ F Q (ct env) → tt σ H Q) (he : ∀ e σ H F env Q, Wl X.K e σ H F env → Post X.K xp' WF e σ F Q (ce env) → te σ H Q)
    {e : Ent} {σ : St} {H F : Hp} {env env2 : Cs} {xs : List PyData} (w : Wl X.K e σ H F env) (it : ItOk X.K J items e F) (hz : items.length ≤ sizeLine) (hD : H D = none) (hm : ∀ v ∈ vs, (env.getD v .emp).mine = false) (hc : compL g ct ce vs items env = .ok xs env2)
    (hQ : ∀ H' F', Wl X.K e σ H' F' (backE env vs env2) → Sub F F' → H' D = some (.lst []) ∨ True → ∀ vx, H' D = some (.lst vx) → F' D = none → RDs X.K F' vx xs → (∀ (i : Nat) (c : Cell), (backE env vs env2)[i]? = some c → c.mine = true → σ[i]? ≠ some (some (.ref D))) → Q (.ref D) H') :
    ∃ W : Nat → Nat → Hp → Prop, (∃ m, W 0 m (upd H D (.lst []))) ∧ ∀ i m H, W i m H →
      (J.stop i H ∧ Q (.ref D) H) ∨ (J.go i H ∧ ∃ Nx : Hp → Prop, (∀ H', Nx H' → ∃ m', m' < m ∧ W (i + 1) m' H') ∧ ∀ x H', J.yld i H x H' → gt x (wipe σ vs) H' fun σ2 H2 => wipe σ2 vs = wipe σ vs ∧ tt σ2 H2 fun b H3 =>
        if b = true then te σ2 H3 fun y H4 => ∃ acc, H4 D = some (.lst acc) ∧ acc.length < sizeLine ∧ Nx (upd H4 D (.lst (acc ++ [y]))) else Nx H3) := by
  have lkn : ∀ v ∈ vs, e.lk v = none := fun v hv => w.lkn fun d z => by
    have := hm v hv
    rw [getD_of z] at this; cases this
  -- what stands at each turn
  let Inv : Nat → Hp → Prop := fun i H1 => ∃ F1 env1 acc vacc rest, Wl X.K e (wipe σ vs) H1 F1 (wipeE env1 vs) ∧ Sub F F1 ∧ H1 D = some (.lst vacc) ∧ F1 D = none ∧ (∀ (j : Nat) (c : Cell), (wipeE env1 vs)[j]? = some c → c.mine = true → (wipe σ vs)[j]? ≠ some (some (.ref D))) ∧ RDs X.K F1 vacc acc ∧ vacc.length ≤ i ∧
    compL g ct ce vs (items.drop i) env1 = .ok rest env2 ∧ acc ++ rest = xs
  have old : e.H₀ D = none ∨ e.P D := w.old hD
  have step : ∀ {i H1}, Inv i H1 → i ≤ items.length → (J.stop i H1 ∧ Q (.ref D) H1 ∧ i = items.length) ∨ (i < items.length ∧ J.go i H1 ∧ ∀ x H', J.yld i H1 x H' → gt x (wipe σ vs) H' fun σ2 H2 => wipe σ2 vs = wipe σ vs ∧ tt σ2 H2 fun b H3 =>
        if b = true then te σ2 H3 fun y H4 => ∃ acc, H4 D = some (.lst acc) ∧ acc.length < sizeLine ∧ Inv (i + 1) (upd H4 D (.lst (acc ++ [y]))) else Inv (i + 1) H3) := by
    intro i H1 hI hi
    obtain ⟨F1, env1, acc, vacc, rest, w1, s1, d1, n1, no1, r1, l1, c1, ex⟩ := hI
    by_cases hl : i < items.length
    · refine .inr ⟨hl, ?_⟩
      have hd : items[i]? = some items[i] := List.getElem?_eq_getElem hl
      have ed : items.drop i = items[i] :: items.drop (i + 1) := List.drop_eq_getElem_cons hl
      obtain ⟨go, yl⟩ := (it _ H1 F1 _ w1 s1 i).1 _ hd
      refine ⟨go, fun x H' y => ?_⟩
      obtain ⟨F2, gr, rx⟩ := yl x H' y
      have w2 := w1.grow gr
      rw [ed] at c1
      unfold compL at c1
      cases gp : g.put items[i] (wipeE env1 vs) with
      | none => rw [gp] at c1; cases c1
      | some envA =>
        rw [gp] at c1
        dsimp only at c1
        have dD : H' D = some (.lst vacc) := gr.ex _ _ d1
        have n2 : F2 D = none := by
          cases z : F2 D with
          | none => rfl
          | some o => rcases gr.new D (by rw [z]; exact fun y => nomatch y) with y | y
                      · exact absurd n1 y
                      · exact (y.no d1 trivial).elim
        refine hg (turnE e (wipe σ vs) H' F2 (wipeE env1 vs)) (wipe σ vs) H' F2 (wipeE env1 vs) envA x items[i] _ w2.enter rx gp fun σ2 w3 o => ?_
        have ew : wipe σ2 vs = wipe σ vs := wipe_off o hgs (wipe_wipe σ vs)
        refine ⟨ew, ht _ σ2 H' F2 envA _ w3 ?_⟩
        -- D lives through the turn
        have live : ∀ {σ' H3 F3 env3}, Wl X.K (turnE e (wipe σ vs) H' F2 (wipeE env1 vs)) σ' H3 F3 env3 → H3 D = some (.lst vacc) ∧ F3 D = none ∧ (∀ (j : Nat) (b : Bool) (d : PyData), env3[j]? = some (.own b d) → σ'[j]? ≠ some (some (.ref D))) := by
          intro σ' H3 F3 env3 w4
          have nP : ¬ (turnE e (wipe σ vs) H' F2 (wipeE env1 vs)).P D := fun ⟨j, b, d, hc, hx⟩ => no1 j _ hc rfl hx
          refine ⟨w4.keep D _ dD nP, ?_, fun j b d hc hx => ?_⟩
          · cases z : F3 D with
            | none => rfl
            | some o2 => rcases w4.new D (by rw [z]; exact fun y => nomatch y) with y | y | y
                         · exact absurd n2 y
                         · exact (NewA.no (H := H') y dD trivial).elim
                         · exact (nP y).elim
          · rcases w4.mine j b d D hc hx with y | y
            · have y' : H' D = none := y
              rw [dD] at y'; cases y'
            · exact nP y
        -- the next turn
        have next : ∀ {H3 F3 env3 rest3}, Wl X.K (turnE e (wipe σ vs) H' F2 (wipeE env1 vs)) σ2 H3 F3 env3 → Sub F2 F3 → compL g ct ce vs (items.drop (i + 1)) env3 = .ok rest3 env2 → ∀ {vacc' acc'}, RDs X.K F3 vacc' acc' → vacc'.length ≤ i + 1 → acc' ++ rest3 = xs →
            Inv (i + 1) (upd H3 D (.lst vacc')) := by
          intro H3 F3 env3 rest3 w4 s4 c4 vacc' acc' r4 l4 e4
          obtain ⟨dD3, n3, no3⟩ := live w4
          have wl := w2.leave w4
          have ww := Wl.wipe lkn wl
          rw [ew] at ww
          have no4 : ∀ (j : Nat) (c : Cell), (wipeE env3 vs)[j]? = some c → c.mine = true → (wipe σ vs)[j]? ≠ some (some (.ref D)) := by
            intro j c hc hmn hx
            have hj : j ∉ vs := fun z => wipe_in z _ hx
            rw [wipeE_get hj] at hc
            have hx2 : σ2[j]? = some (some (.ref D)) := by rw [← wipe_get (vs := vs) hj, ew]; exact hx
            cases c with
            | own b d => exact no3 j b d hc hx2
            | lck d =>
              have q := w4.lk2 j d hc
              have q1 := w1.lk j d q
              exact no1 j _ q1 rfl hx
            | emp => cases hmn
            | frz d => cases hmn
            | exc x => cases hmn
          exact ⟨F3, env3, acc', vacc', rest3, ww.free dD3 n3 old no4, (s1.trans gr.fz).trans s4, upd_same, n3, no4, r4, l4, c4, e4⟩
        cases gt1 : ct envA with
        | no => rw [gt1] at c1; cases c1
        | ex x env3 => rw [gt1] at c1; cases c1
        | ok b envB =>
          rw [gt1] at c1
          intro H3 F3 w4 s4
          cases b with
          | false =>
            dsimp only at c1
            obtain ⟨dD3, _, _⟩ := live w4
            have q := next w4 s4 c1 (vacc' := vacc) (r1.mono (gr.fz.trans s4)) (Nat.le_succ_of_le l1) ex
            have e5 : upd H3 D (.lst vacc) = H3 := by
              funext a
              by_cases z : a = D
              · subst z; rw [upd_same, dD3]
              · rw [upd_ne z]
            rw [e5] at q
            exact iteF q
          | true =>
            dsimp only at c1
            refine iteT (he _ σ2 H3 F3 envB _ w4 ?_)
            cases ge : ce envB with
            | no => rw [ge] at c1; cases c1
            | ex x env3 => rw [ge] at c1; cases c1
            | ok c envC =>
              rw [ge] at c1
              dsimp only at c1
              intro y H4 F4 w5 s5 rc
              obtain ⟨F5, d, ev, w6, s6, rd⟩ := rc.freeze w5
              rw [ev] at c1
              dsimp only at c1
              cases gr2 : compL g ct ce vs (items.drop (i + 1)) envC with
              | no => rw [gr2] at c1; cases c1
              | ex x env3 => rw [gr2] at c1; cases c1
              | ok rest3 env4 =>
                rw [gr2] at c1
                cases c1
                obtain ⟨dD4, _, _⟩ := live w6
                refine ⟨vacc, dD4, Nat.lt_of_le_of_lt l1 (Nat.lt_of_lt_of_le hl hz), ?_⟩
                refine next w6 ((s4.trans s5).trans s6) gr2 (acc' := acc ++ [d]) ((r1.mono (((gr.fz.trans s4).trans s5).trans s6)).append (.one rd)) (by rw [List.length_append]; simpa using l1) ?_
                rw [List.append_assoc]; exact ex
    · have e1 : i = items.length := Nat.le_antisymm hi (Nat.le_of_not_lt hl)
      refine .inl ⟨(it _ H1 F1 _ w1 s1 i).2 (by omega), ?_, e1⟩
      rw [e1, List.drop_length] at c1
      unfold compL at c1
      cases c1
      rw [List.append_nil] at ex
      subst ex
      have wb : Wl X.K e σ H1 F1 (backE env vs env2) := by
        have q := Wl.back w hm s1 w1
        have e2 : backE env vs (wipeE env2 vs) = backE env vs env2 := by
          apply List.ext_getElem?
          intro j
          by_cases z : j ∈ vs
          · by_cases hj : j < env2.length
            · have hj' : j < (wipeE env2 vs).length := by
                have := w1.len
                rw [wipe_length] at this
                have l2 := w.len
                have wl : ∀ (τ : Cs) (us : List Nat), (wipeE τ us).length = τ.length := fun τ us => by
                  induction us with
                  | nil => rfl
                  | cons u us ih => show ((wipeE τ us).set u .emp).length = _; rw [List.length_set, ih]
                rw [wl]; exact hj
              rw [backE_in z hj', backE_in z hj]
            · have wl : ∀ (τ : Cs) (us : List Nat), (wipeE τ us).length = τ.length := fun τ us => by
                induction us with
                | nil => rfl
                | cons u us ih => show ((wipeE τ us).set u .emp).length = _; rw [List.length_set, ih]
              rw [List.getElem?_eq_none (by rw [backE_len, wl]; omega), List.getElem?_eq_none (by rw [backE_len]; omega)]
          · rw [backE_out z, backE_out z, wipeE_get z]
        rw [e2] at q; exact q
      refine hQ H1 F1 wb s1 (.inr trivial) vacc d1 n1 r1 fun j c hc hmn hx => ?_
      by_cases z : j ∈ vs
      · have hj : j < env2.length := by rw [← backE_len (env1 := env) (vs := vs)]; exact (List.getElem?_eq_some_iff.mp hc).1
        rw [backE_in z hj] at hc; cases hc
        rw [hm j z] at hmn; cases hmn
      · rw [backE_out z] at hc
        exact no1 j c (by rw [wipeE_get z]; exact hc) hmn (by rw [wipe_get z]; exact hx)
  refine ⟨fun i m H1 => m = items.length - i ∧ i ≤ items.length ∧ Inv i H1, ⟨items.length, rfl, Nat.zero_le _, ?_⟩, fun i m H1 hw => ?_⟩
  · refine ⟨F, env, [], [], xs, (Wl.wipe lkn (w.grow (w.grow_new hD))), .refl _, upd_same, w.fresh hD, fun j c hc hmn hx => ?_, .nil, Nat.zero_le _, hc, rfl⟩
    have hj : j ∉ vs := fun z => wipe_in z _ hx
    rw [wipeE_get hj] at hc
    rw [wipe_get hj] at hx
    obtain ⟨u, d, h1, _, _⟩ := mine_cont w hc hmn hx
    rw [h1] at hD; cases hD
  · obtain ⟨rfl, hi, hI⟩ := hw
    rcases step hI hi with ⟨a, b, _⟩ | ⟨hl, go, h⟩
    · exact .inl ⟨a, b⟩
    · exact .inr ⟨go, fun H' => Inv (i + 1) H', fun H' h' => ⟨items.length - (i + 1), by omega, rfl, hl, h'⟩, h⟩
theorem comp_post {tg iter : Expr} {g : Tg} {gt : TG} {ci : CI} {wi : TI} {ct : CT} {tt : TT} {ce : CE} {te : TE} {vs : List Nat}
    (hi : DI X xp W tg iter ci wi)
    (hg : ∀ e σ H F env env' v d Q, Wl X.K e σ H F env → RD X.K F v d → g.put d env = some env' → (∀ σ', Wl X.K e σ' H F env' → Off g.slots σ σ' → Q σ' H) → gt v σ H Q) (hgs : ∀ i ∈ g.slots, i ∈ vs)
    (ht : ∀ e σ H F env Q, Wl X.K e σ H F env → PostT X.K xp WF e σ F Q (ct env) → tt σ H Q) (he : ∀ e σ H F env Q, Wl X.K e σ H F env → Post X.K xp WF e σ F Q (ce env) → te σ H Q)
    {e : Ent} {σ : St} {H F : Hp} {env : Cs} {Q : VK} (w : Wl X.K e σ H F env) (h : Post X.K xp W e σ F Q (cComp g ci ct ce vs env)) : tLc wi gt tt te vs σ H Q := by
  refine hi.2 e σ H F env _ w ?_
  unfold cComp at h
  cases gi : ci env with
  | no => rw [gi] at h; exact h
  | ex x env1 => rw [gi] at h; exact h
  | ok items env1 =>
    rw [gi] at h; dsimp only at h
    intro J H1 F1 w1 s1 it hz D hD
    cases ga : anyMineS env1 vs with
    | true => rw [ga] at h; exact h.elim
    | false =>
      rw [ga] at h; dsimp only at h
      cases gc : compL g ct ce vs items env1 with
      | no => rw [gc] at h; exact h.elim
      | ex x env2 => rw [gc] at h; exact h.elim
      | ok xs env2 =>
        rw [gc] at h
        refine comp_run (X := X) (tg := tg) (xp' := xp) hg hgs ht he w1 it hz hD (anyMineS_no ga) gc fun H' F' w' s' _ vx hd hn r no => ?_
        exact h (.ref D) H' F' w' (s1.trans s') ⟨D, _, rfl, hd, hn, .lst r, w1.old hD, no⟩
end
end DL

/-! DLI: comprehensions as expressions; a def's meaning from its body. -/
namespace DL
open PySem PySem.Spec PyProof.Rows L2
section
variable {X : Cx} {xp : XP} {W : WX}
theorem de_comp {elt tg iter : Expr} {ifs : List Expr} {scope : Scope} {own : List (Str × Nat)} {pos : Pos} {g : Tg} {gt : TG} {ci : CI} {wi : TI} {ct : CT} {tt : TT} {ce : CE} {te : TE} (hc : X.calm = true) (hN : X.N.Nodup) (hi : DI X xp W tg iter ci wi) (ok : BlkOk X.N X.env.scope scope own)
    (hg : ∀ (s : Shared) (H : Hp) (C : Addr) (cl : List (Str × Addr)) (fp : List Addr), DG (X.blk s H scope (compEnvC scope cl C X.env) fp) tg g gt) (ht : ∀ (s : Shared) (H : Hp) (C : Addr) (cl : List (Str × Addr)) (fp : List Addr), DTs (X.blk s H scope (compEnvC scope cl C X.env) fp) xp WF ifs ct tt)
    (he : ∀ (s : Shared) (H : Hp) (C : Addr) (cl : List (Str × Addr)) (fp : List Addr), DE (X.blk s H scope (compEnvC scope cl C X.env) fp) xp WF elt ce te) (hgs : ∀ i ∈ g.slots, i ∈ own.map (·.2) := by decide) (hs : ∀ x, foldedSetIterable iter X.env x = pure x := by intro _; rfl) :
    DE X xp W (.ListComp elt [⟨tg, iter, ifs, 0⟩] scope pos) (cComp g ci ct ce (own.map (·.2))) (tLc wi gt tt te (own.map (·.2))) :=
  ⟨pe_lc hc hN hi.1 ok (fun s H C cl fp => (hg s H C cl fp).1) (fun s H C cl fp => (ht s H C cl fp).1) (fun s H C cl fp => (he s H C cl fp).1) hs,
    fun e σ H F env Q w h => comp_post hi (hg X.s_0 X.H_0 0 [] []).2 hgs (ht X.s_0 X.H_0 0 [] []).2 (he X.s_0 X.H_0 0 [] []).2 w h⟩
theorem ds_setComp {i : Nat} {y : Str} {py : Pos} {elt tg iter : Expr} {ifs : List Expr} {scope : Scope} {own : List (Str × Nat)} {pos spos : Pos} {g : Tg} {gt : TG} {ci : CI} {wi : TI} {ct : CT} {tt : TT} {ce : CE} {te : TE} (hc : X.calm = true) (hN : X.N.Nodup) (hy : X.N[i]? = some y) (hyl : X.env.scope.names.lookup y = some .local)
    (hsw : swapsWith (.ListComp elt [⟨tg, iter, ifs, 0⟩] scope pos) (some (.Name y py)) spos.line X.env = pure true) (hi : DI X xp W tg iter ci wi) (ok : BlkOk X.N X.env.scope scope own)
    (hg : ∀ (s : Shared) (H : Hp) (C : Addr) (cl : List (Str × Addr)) (fp : List Addr), DG (X.blk s H scope (compEnvC scope cl C X.env) fp) tg g gt) (ht : ∀ (s : Shared) (H : Hp) (C : Addr) (cl : List (Str × Addr)) (fp : List Addr), DTs (X.blk s H scope (compEnvC scope cl C X.env) fp) xp WF ifs ct tt)
    (he : ∀ (s : Shared) (H : Hp) (C : Addr) (cl : List (Str × Addr)) (fp : List Addr), DE (X.blk s H scope (compEnvC scope cl C X.env) fp) xp WF elt ce te) (hgs : ∀ i ∈ g.slots, i ∈ own.map (·.2) := by decide) (hs : ∀ x, foldedSetIterable iter X.env x = pure x := by intro _; rfl) :
    DS X xp W (.Assign [.Name y py] (.ListComp elt [⟨tg, iter, ifs, 0⟩] scope pos) spos) (cSet i (cComp g ci ct ce (own.map (·.2)))) :=
  ⟨_, ps_setLc hc hN hy hyl hsw hi.1 ok (fun s H C cl fp => (hg s H C cl fp).1) (fun s H C cl fp => (ht s H C cl fp).1) (fun s H C cl fp => (he s H C cl fp).1) hs,
    fun e σ H F env D w h => comp_post hi (hg X.s_0 X.H_0 0 [] []).2 hgs (ht X.s_0 X.H_0 0 [] []).2 (he X.s_0 X.H_0 0 [] []).2 w (set_run h)⟩
end

/-! ### a def -/
def emps (n : Nat) : Cs := List.replicate n .emp
def Cell.out : Cell → Cell
  | .own _ d => .own false d
  | c => c
/-- n names, a body: its meaning -/
def runDef (n : Nat) (c : CS) : Fn := fun ds => match c (ds.map .frz ++ emps (n - ds.length)) with
  | .rt r _ => .ok r.out
  | .nx _ => .ok (.frz .none)
  | .ex x _ => .ex x
  | _ => .no
def runDefI (n : Nat) (c : CS) : Fm := fun d ds => match c (.own true d :: ds.map .frz ++ emps (n - (ds.length + 1))) with
  | .rt r env => match env.getD 0 .emp with
    | .own true d' => .ok r.out d'
    | _ => .no
  | .nx env => match env.getD 0 .emp with
    | .own true d' => .ok (.frz .none) d'
    | _ => .no
  | _ => .no
section
variable {P : Program} {w : World} {K : PySem.W.Frag} {mg : Str → Option Value} {base : Heap} {xp : XP}
theorem start_get {N : List Str} {vs : List V} {i : Nat} {x : Option V} (h : (L2.start N vs)[i]? = some x) : (i < vs.length ∧ ∃ v, vs[i]? = some v ∧ x = some v) ∨ (vs.length ≤ i ∧ x = none) := by
  unfold L2.start at h
  by_cases hi : i < vs.length
  · rw [List.getElem?_append_left (by simpa using hi), List.getElem?_map, List.getElem?_eq_getElem hi] at h
    exact .inl ⟨hi, vs[i], List.getElem?_eq_getElem hi, (Option.some.inj h).symm⟩
  · rw [List.getElem?_append_right (by simpa using hi)] at h
    exact .inr ⟨Nat.le_of_not_lt hi, (List.mem_replicate.mp (List.mem_of_getElem? h)).2⟩
theorem cells_get {ds : List PyData} {n i : Nat} {c : Cell} (h : (ds.map Cell.frz ++ emps n)[i]? = some c) : (i < ds.length ∧ ∃ d, ds[i]? = some d ∧ c = .frz d) ∨ (ds.length ≤ i ∧ c = .emp) := by
  by_cases hi : i < ds.length
  · rw [List.getElem?_append_left (by simpa using hi), List.getElem?_map, List.getElem?_eq_getElem hi] at h
    exact .inl ⟨hi, ds[i], List.getElem?_eq_getElem hi, (Option.some.inj h).symm⟩
  · rw [List.getElem?_append_right (by simpa using hi)] at h
    exact .inr ⟨Nat.le_of_not_lt hi, (List.mem_replicate.mp (List.mem_of_getElem? h)).2⟩
theorem start_wl {N : List Str} {vs : List V} {ds : List PyData} {H F : Hp} (hn : vs.length ≤ N.length) (s : Sub F H) (r : RDs K F vs ds) :
    Wl K ⟨H, F, fun _ => False, fun _ => none, fun _ => none⟩ (L2.start N vs) H F (ds.map .frz ++ emps (N.length - ds.length)) where
  len := by
    unfold L2.start emps
    simp only [List.length_append, List.length_map, List.length_replicate]
    have := r.length; omega
  sub := s
  cell := fun i c x hc hx => by
    rcases cells_get hc with ⟨h1, d, hd, rfl⟩ | ⟨h1, rfl⟩
    · rcases start_get hx with ⟨h2, v, hv, rfl⟩ | ⟨h2, rfl⟩
      · obtain ⟨d', hd', rd⟩ := r.get hv
        rw [hd] at hd'; cases hd'
        exact ⟨v, rfl, rd⟩
      · rw [r.length] at h2; omega
    · trivial
  apart := fun i j c c' a _ hc _ m _ _ _ => by
    rcases cells_get hc with ⟨_, d, _, rfl⟩ | ⟨_, rfl⟩ <;> cases m
  keep := fun a o h _ => h
  new := fun a h => .inl h
  mine := fun i b d a hc _ => by
    rcases cells_get hc with ⟨_, d, _, q⟩ | ⟨_, q⟩ <;> cases q
  pin := fun i c hc h => by
    rcases cells_get hc with ⟨_, d, _, rfl⟩ | ⟨_, rfl⟩ <;> rcases h with ⟨d, q⟩ | ⟨d, q⟩ <;> cases q
  lk := fun i d h => nomatch h
  lk2 := fun i d hc => by
    rcases cells_get hc with ⟨_, d, _, q⟩ | ⟨_, q⟩ <;> cases q
/-- a def by its body; what it lets out has no context -/
theorem okDN {x qual : Str} {st : Stmt} {f : Addr} {fd : FuncData} {N ps : List Str} {k : Nat} {sp : Sp} (F : Fun K x qual st f fd) (S : FnScope N ps (defScope st)) (hl : ∀ vs H Q E, sp vs H Q E → vs.length = ps.length)
    (hb : ∀ (cdv : Value) (A : Around) (fr : List Env) (s : Shared) (H : Hp) (vs : List V) (Q : VK) (E : XK), Room k (A.deeper (envOfC qual (defScope st) s.heap.objs.size f cdv)) → sp vs H Q E →
      ∃ t, PSs (cxOf (L2N.CX P w) P w K mg base N qual (defScope st) f cdv A fr s H E) (defBody st) t ∧ t { nx := fun _ H' => Q .non H', rt := Q } (L2.start N vs) H) :
    FnOk P w K mg base (L2N.CX P w) (k + 1) f fd ps sp := by
  rcases F.ex with ⟨_, _, _, _, _, _, cdv, _, _, rfl, lk, hcd⟩
  exact fn_of lk hcd S hl fun A fr s H vs Q E hr q => hb cdv A fr s H vs Q E hr q
/-- the contexts of a def's body -/
abbrev bodyX (P : Program) (w : World) (K : PySem.W.Frag) (mg : Str → Option Value) (base : Heap) (N : List Str) (qual : Str) (st : Stmt) (f : Addr) (cdv : Value) (A : Around) (outer : List Env) (s : Shared) (H : Hp) (E : XK) : Cx :=
  cxOf (L2N.CX P w) P w K mg base N qual (defScope st) f cdv A outer s H E
theorem fn_B {x qual : Str} {st : Stmt} {f : Addr} {fd : FuncData} {N ps : List Str} {k n : Nat} {c : CS} (F : Fun K x qual st f fd) (S : FnScope N ps (defScope st)) (hn : ps.length = n) (hN : n ≤ N.length)
    (hb : ∀ (cdv : Value) (A : Around) (outer : List Env) (s : Shared) (H : Hp) (E : XK), Room k (A.deeper (envOfC qual (defScope st) s.heap.objs.size f cdv)) → DSs (bodyX P w K mg base N qual st f cdv A outer s H E) xp (fun cls d _ H => E cls d H) (defBody st) c) :
    FnOk P w K mg base (L2N.CX P w) (k + 1) f fd ps (spB K xp n (runDef N.length c)) := by
  refine okDN F S (fun vs H Q E h => by rw [hn]; exact h.1) (fun cdv A outer s H vs Q E hr h => ?_)
  obtain ⟨hl, F0, ds, s0, r0, p⟩ := h
  obtain ⟨t, pt, q⟩ := hb cdv A outer s H E hr
  refine ⟨t, pt, q ⟨H, F0, fun _ => False, fun _ => none, fun _ => none⟩ (L2.start N vs) H F0 (ds.map Cell.frz ++ emps (N.length - ds.length)) _ (start_wl (N := N) (by rw [hl]; exact hN) s0 r0) ?_⟩
  have gr : ∀ {σ' H' F' env}, Wl K ⟨H, F0, fun _ => False, fun _ => none, fun _ => none⟩ σ' H' F' env → Sub F0 F' → Grow H F0 H' F' := fun {σ' H' F' env} w s => ⟨fun a o h => w.keep a o h (fun z => z), s, w.sub, fun a h => by
    rcases w.new a h with y | y | y
    · exact .inl y
    · exact .inr y
    · exact y.elim⟩
  unfold runDef at p
  cases g : c (ds.map .frz ++ emps (N.length - ds.length)) with
  | nx env => rw [g] at p; exact fun σ' H' F' w s => p .non H' F' (gr w s) .non
  | rt r env =>
    rw [g] at p
    intro v σ' H' F' w s rc
    refine p v H' F' (gr w s) ?_
    cases r with
    | frz d => exact rc
    | own b d =>
      obtain ⟨a, u, e1, h1, n1, k1, m, _⟩ := rc
      rcases m with m | m
      · exact ⟨a, u, e1, m, h1, n1, k1⟩
      · exact m.elim
    | emp => exact rc.elim
    | lck d => exact rc.elim
    | exc x => exact rc.elim
  | ex x env => rw [g] at p; exact fun σ' H' F' cls d w s y => p H' F' cls d (gr w s) y
  | bk env => rw [g] at p; exact p.elim
  | ct env => rw [g] at p; exact p.elim
  | no => rw [g] at p; exact p
theorem startI_wl {N : List Str} {a : Addr} {u : HO} {d : PyData} {vs : List V} {ds : List PyData} {H F : Hp} (hn : vs.length + 1 ≤ N.length) (s : Sub F H) (h : H a = some u) (n : F a = none) (k : Cont K F u d) (r : RDs K F vs ds) :
    Wl K ⟨H, F, fun b => b = a, fun i => if i = 0 then some (.ref a) else none, fun _ => none⟩ (L2.start N (.ref a :: vs)) H F (.own true d :: ds.map .frz ++ emps (N.length - (ds.length + 1))) where
  len := by
    unfold L2.start emps
    simp only [List.length_append, List.length_map, List.length_replicate, List.length_cons]
    have := r.length; omega
  sub := s
  cell := fun i c x hc hx => by
    cases i with
    | zero =>
      cases hc
      have e : x = some (.ref a) := by
        have q : (L2.start N (V.ref a :: vs))[0]? = some (some (.ref a)) := rfl
        rw [q] at hx; exact (Option.some.inj hx).symm
      subst e
      exact ⟨a, u, rfl, h, n, k⟩
    | succ i =>
      have hc' : (ds.map Cell.frz ++ emps (N.length - (ds.length + 1)))[i]? = some c := by simpa using hc
      rcases cells_get hc' with ⟨h1, d, hd, rfl⟩ | ⟨h1, rfl⟩
      · rcases start_get hx with ⟨h2, v, hv, rfl⟩ | ⟨h2, rfl⟩
        · obtain ⟨d', hd', rd⟩ := r.get (i := i) (v := v) (by simpa using hv)
          rw [hd] at hd'; cases hd'
          exact ⟨v, rfl, rd⟩
        · rw [List.length_cons, r.length] at h2; omega
      · trivial
  apart := fun i j c c' b ne hc hc' m m' _ _ => by
    have z : ∀ {i : Nat} {c : Cell}, (Cell.own true d :: ds.map .frz ++ emps (N.length - (ds.length + 1)))[i]? = some c → c.mine = true → i = 0 := fun {i c} hc m => by
      cases i with
      | zero => rfl
      | succ i =>
        have hc' : (ds.map Cell.frz ++ emps (N.length - (ds.length + 1)))[i]? = some c := by simpa using hc
        rcases cells_get hc' with ⟨_, d, _, rfl⟩ | ⟨_, rfl⟩ <;> cases m
    exact ne ((z hc m).trans (z hc' m').symm)
  keep := fun b o h _ => h
  new := fun b h => .inl h
  mine := fun i b d' c hc hx => by
    cases i with
    | zero =>
      have q : (L2.start N (V.ref a :: vs))[0]? = some (some (.ref a)) := rfl
      rw [q] at hx
      cases hx
      exact .inr rfl
    | succ i =>
      have hc' : (ds.map Cell.frz ++ emps (N.length - (ds.length + 1)))[i]? = some (.own b d') := by simpa using hc
      rcases cells_get hc' with ⟨_, d, _, q⟩ | ⟨_, q⟩ <;> cases q
  pin := fun i c hc h' => by
    cases i with
    | zero => exact ⟨.ref a, rfl, rfl⟩
    | succ i =>
      have hc' : (ds.map Cell.frz ++ emps (N.length - (ds.length + 1)))[i]? = some c := by simpa using hc
      rcases cells_get hc' with ⟨_, d, _, rfl⟩ | ⟨_, rfl⟩ <;> rcases h' with ⟨d, q⟩ | ⟨d, q⟩ <;> cases q
  lk := fun i d h => nomatch h
  lk2 := fun i d' hc => by
    cases i with
    | zero => cases hc
    | succ i =>
      have hc' : (ds.map Cell.frz ++ emps (N.length - (ds.length + 1)))[i]? = some (.lck d') := by simpa using hc
      rcases cells_get hc' with ⟨_, d, _, q⟩ | ⟨_, q⟩ <;> cases q
theorem fn_I {x qual : Str} {st : Stmt} {f : Addr} {fd : FuncData} {N ps : List Str} {k n : Nat} {c : CS} (F : Fun K x qual st f fd) (S : FnScope N ps (defScope st)) (hn : ps.length = n) (hN : n ≤ N.length)
    (hb : ∀ (cdv : Value) (A : Around) (outer : List Env) (s : Shared) (H : Hp) (E : XK), Room k (A.deeper (envOfC qual (defScope st) s.heap.objs.size f cdv)) → DSs (bodyX P w K mg base N qual st f cdv A outer s H E) xp (fun cls d _ H => E cls d H) (defBody st) c) :
    FnOk P w K mg base (L2N.CX P w) (k + 1) f fd ps (spI K n (runDefI N.length c)) := by
  refine okDN F S (fun vs H Q E h => by rw [hn]; exact h.1) (fun cdv A outer s H vs Q E hr h => ?_)
  obtain ⟨hl, F0, a, u, d0, vr, ds, rfl, h0, n0, k0, s0, r0, p⟩ := h
  obtain ⟨t, pt, q⟩ := hb cdv A outer s H E hr
  have hl' : vr.length + 1 = n := by simpa using hl
  let e0 : Ent := ⟨H, F0, fun b => b = a, fun i => if i = 0 then some (.ref a) else none, fun _ => none⟩
  refine ⟨t, pt, q e0 (L2.start N (.ref a :: vr)) H F0 (Cell.own true d0 :: ds.map Cell.frz ++ emps (N.length - (ds.length + 1))) _ (startI_wl (N := N) (by omega) s0 h0 n0 k0 r0) ?_⟩
  have fin : ∀ {σ' H' F' env d'}, Wl K e0 σ' H' F' env → Sub F0 F' → env.getD 0 .emp = .own true d' → Step a H F0 H' F' ∧ σ'[0]? = some (some (.ref a)) ∧ ∃ u', H' a = some u' ∧ Cont K F' u' d' := by
    intro σ' H' F' env d' w s hg
    have hc := of_getD hg (fun z => nomatch z)
    obtain ⟨v, e1, hx⟩ := w.pin 0 _ hc (.inl ⟨d', rfl⟩)
    have e2 : v = .ref a := (Option.some.inj e1).symm
    subst e2
    obtain ⟨a', u', e3, h1, n1, k1⟩ := w.cell 0 _ _ hc hx
    cases e3
    refine ⟨⟨fun b o nb hb => w.keep b o hb nb, s, w.sub, fun b hb => ?_⟩, hx, u', h1, k1⟩
    rcases w.new b hb with y | y | y
    · exact .inl y
    · exact .inr y
    · have y' : b = a := y
      subst y'; exact (hb n1).elim
  unfold runDefI at p
  cases g : c (.own true d0 :: ds.map .frz ++ emps (N.length - (ds.length + 1))) with
  | nx env =>
    rw [g] at p; dsimp only at p
    intro σ' H' F' w s
    cases ge : env.getD 0 .emp with
    | own b d' =>
      rw [ge] at p
      cases b with
      | true =>
        obtain ⟨st, hx, u', hu, k1⟩ := fin w s ge
        exact p .non H' F' u' st hu k1 .non
      | false => exact p.elim
    | emp => rw [ge] at p; exact p.elim
    | frz d => rw [ge] at p; exact p.elim
    | lck d => rw [ge] at p; exact p.elim
    | exc x => rw [ge] at p; exact p.elim
  | rt r env =>
    rw [g] at p; dsimp only at p
    intro v σ' H' F' w s rc
    cases ge : env.getD 0 .emp with
    | own b d' =>
      rw [ge] at p
      cases b with
      | true =>
        obtain ⟨st, hx, u', hu, k1⟩ := fin w s ge
        refine p v H' F' u' st hu k1 ?_
        cases r with
        | frz d => exact rc
        | own b d =>
          obtain ⟨a2, u2, e1, h1, n1, k1, m, no⟩ := rc
          rcases m with m | m
          · exact ⟨a2, u2, e1, m, h1, n1, k1⟩
          · have m' : a2 = a := m
            subst m'
            exact (no 0 _ (of_getD ge (fun z => nomatch z)) rfl hx).elim
        | emp => exact rc.elim
        | lck d => exact rc.elim
        | exc x => exact rc.elim
      | false => exact p.elim
    | emp => rw [ge] at p; exact p.elim
    | frz d => rw [ge] at p; exact p.elim
    | lck d => rw [ge] at p; exact p.elim
    | exc x => rw [ge] at p; exact p.elim
  | ex x env => rw [g] at p; exact p.elim
  | bk env => rw [g] at p; exact p.elim
  | ct env => rw [g] at p; exact p.elim
  | no => rw [g] at p; exact p
/-- the law's promise: it ends in True -/
def spLaw (K : PySem.W.Frag) : Sp := fun vs H Q _ => ∃ (a : Addr) (ns : List Int), vs = [.ref a] ∧ SqL K H a (ns.map V.int) ∧ ns.length ≤ 63 ∧ ∀ H', Q (.bl true) H'
def scriptD (ns : List Int) : PyData := .dict [(.none, .list (ns.map .int))]
theorem rds_ints {F : Hp} : ∀ ns : List Int, RDs K F (ns.map V.int) (ns.map .int)
  | [] => .nil
  | n :: ns => .cons (.int n) (rds_ints ns)
/-- the law's own def, by its meaning -/
theorem law_of {k : Nat} {f : Addr} {fd : FuncData} {ps : List Str} {m : Fn} (F : FnOk P w K mg base (L2N.CX P w) k f fd ps (spB K xp 1 m)) (h : ∀ ns : List Int, ns.length ≤ 63 → m [scriptD ns] = .ok (.frz (.bool true))) :
    FnOk P w K mg base (L2N.CX P w) k f fd ps (spLaw K) := F.imp fun vs H Q E q => by
  obtain ⟨a, ns, rfl, hS, hl, hq⟩ := q
  refine ⟨rfl, H, [scriptD ns], .refl _, .one (.scr hS), ?_⟩
  rw [h ns hl]
  intro v H' F' _ rn
  cases rn
  exact hq H'
end
end DL

/-! DLO: operators and built-ins on data. -/
namespace DL
open PySem PySem.Spec PyProof.Rows L2
def frzI (i : Int) : OR := .val (.frz (.int i))
def frzB (b : Bool) : OR := .val (.frz (.bool b))
def lim : Nat := 1000000
theorem lim_le {n : Nat} (h : n ≤ lim) : n ≤ sizeLine := Nat.le_trans h (by decide)
theorem lim_lt {n : Nat} (h : n < lim) : n < sizeLine := Nat.lt_of_lt_of_le h (by decide)
section
variable {K : PySem.W.Frag} {H F : Hp} {Q : VK} {X : Cx}
/-- a scalar, an element, a part of what stands: nothing new -/
theorem OPost.here {v : V} {d : PyData} (s : Sub F H) (h : OPost K H F Q (.val (.frz d))) (r : RD K F v d) : Q v H := h v H F (.refl s) r
theorem OPost.int {i : Int} (s : Sub F H) (h : OPost K H F Q (frzI i)) : Q (.int i) H := h.here s (.int i)
theorem OPost.bl {i : Bool} (s : Sub F H) (h : OPost K H F Q (frzB i)) : Q (.bl i) H := h.here s (.bl i)
theorem OPost.str {i : Str} (s : Sub F H) (h : OPost K H F Q (.val (.frz (.str i)))) : Q (.str i) H := h.here s (.str i)
theorem OPost.newL {b : Bool} {vs : List V} {ds : List PyData} (s : Sub F H) (h : OPost K H F Q (.val (.own b (.list ds)))) (r : RDs K F vs ds) : ∀ p, H p = none → Q (.ref p) (upd H p (.lst vs)) := fun p hp =>
  h (.ref p) _ F ⟨fun a u q => by rw [upd_ne (ne_of_none q hp)]; exact q, .refl _, s.trans (upd_sub hp), fun _ q => .inl q⟩ ⟨p, _, rfl, hp, upd_same, s.none hp, .lst r⟩
theorem grow_frz {o : HO} (s : Sub F H) {p : Addr} (h : H p = none) : Grow H F (upd H p o) (upd F p o) where
  ex := fun a u q => by rw [upd_ne (ne_of_none q h)]; exact q
  fz := upd_sub (s.none h)
  sub := by
    refine ⟨fun a u pl r => ?_, fun a n => ?_, fun a vs r => ?_⟩
    · by_cases z : a = p
      · subst z
        exact rd_congr (by rw [upd_same, upd_same]) r
      · exact rd_congr (upd_ne z).symm (s.rd _ _ pl (rd_congr (upd_ne z) r))
    · by_cases z : a = p
      · subst z; rw [upd_same]; exact fun y => nomatch y
      · rw [upd_ne z] at n ⊢; exact s.dom _ n
    · by_cases z : a = p
      · subst z; rw [upd_same] at r ⊢; exact r
      · rw [upd_ne z] at r ⊢; exact s.tp _ _ r
  new := fun a q => by
    by_cases z : a = p
    · subst z; exact .inr (.inl h)
    · rw [upd_ne z] at q; exact .inl q
theorem OPost.newT {vs : List V} {ds : List PyData} (s : Sub F H) (h : OPost K H F Q (.val (.frz (.tuple ds)))) (r : RDs K F vs ds) : ∀ p, H p = none → Q (.ref p) (upd H p (.tup vs)) := fun p hp =>
  h (.ref p) _ _ (grow_frz s hp) (.tup upd_same (r.mono (upd_sub (s.none hp))))

/-! ### + - * // % ** -/
/-- the rule of +: numbers, texts, lists (read anyhow), tuples -/
def rCatL : R2 := fun x y H Q => ∃ a b xs zs, x = .ref a ∧ y = .ref b ∧ Rd H a (.lst xs) ∧ Rd H b (.lst zs) ∧ xs.length + zs.length ≤ sizeLine ∧ ∀ p, H p = none → Q (.ref p) (upd H p (.lst (xs ++ zs)))
theorem lst_of {pins : List (Addr × Obj)} {σ : L2.St} {H : Hp} {s : Shared} {a : Addr} {xs : List V} (I : Inv X pins σ H s) (h : Rd H a (.lst xs)) :
    xs.length ≤ sizeLine ∧ ∃ (its : List Value) (n : Nat), Vals xs its ∧ xs.length = its.length ∧ s.heap.get? a = some { cls := .type "list", data := .seq its.toArray n } := by
  obtain ⟨z, its, n, r, e⟩ := h.ok I.hok
  exact ⟨z, its, n, r, r.length, e⟩
theorem op_catL : OpR X (binaryOp .Add) rCatL := by
  intro pins s σ H x y v u Q I rx ry h
  obtain ⟨a, b, xs, zs, rfl, rfl, hA, hB, hz, q⟩ := h
  cases rx
  cases ry
  obtain ⟨z, its, n, r, l1, e⟩ := lst_of I hA
  obtain ⟨z2, its2, n2, r2, l2, e2⟩ := lst_of I hB
  refine PySem.P.add_list e e2 ?_ (by simp only [List.size_toArray]; omega)
  have j : its.toArray ++ its2.toArray = (its ++ its2).toArray := by simp
  rw [j]
  exact ⟨.ref _, _, I.lnew (t' := s.toks) (r.append r2) (by simpa using hz), rfl, q _ I.fresh⟩
abbrev rAddA (K : PySem.W.Frag) : R2 := fun x y H Q => rI0 (fun i j => .int (i + j)) x y H Q ∨ (fun x y H Q => ∃ i j, x = .str i ∧ y = .str j ∧ i.length + j.length ≤ sizeLine ∧ Q (.str (i ++ j)) H) x y H Q ∨ rCatL x y H Q ∨ rCatA K x y H Q
theorem or_add : OpR X (binaryOp .Add) (rAddA X.K) := OpR.or op_add (OpR.or op_add_str (OpR.or op_catL op_catA))
def oAdd : Op2
  | .int i, .int j => frzI (i + j)
  | .str a, .str b => if a.length + b.length ≤ lim then .val (.frz (.str (a ++ b))) else .no
  | .list a, .list b => if a.length + b.length ≤ lim then .val (.own false (.list (a ++ b))) else .no
  | .tuple a, .tuple b => if a.length + b.length ≤ lim then .val (.frz (.tuple (a ++ b))) else .no
  | _, _ => .no
theorem ok_add : Op2Ok K (rAddA K) oAdd := by
  intro x y dx dy H F Q s rx ry h
  unfold oAdd at h
  split at h
  · exact .inl ⟨_, _, rx.int, ry.int, h.int s⟩
  · split at h
    · rename_i a b hl
      exact .inr (.inl ⟨_, _, rx.str, ry.str, lim_le hl, h.str s⟩)
    · exact h.elim
  · split at h
    · rename_i a b hl
      obtain ⟨p, xs, rfl, q, r⟩ := rx.lst s
      obtain ⟨p2, ys, rfl, q2, r2⟩ := ry.lst s
      exact .inr (.inr (.inl ⟨_, _, _, _, rfl, rfl, q, q2, lim_le (by rw [r.length, r2.length]; exact hl), h.newL s (r.append r2)⟩))
    · exact h.elim
  · split at h
    · rename_i a b hl
      obtain ⟨p, xs, rfl, q, r⟩ := rx.tup s
      obtain ⟨p2, ys, rfl, q2, r2⟩ := ry.tup s
      refine .inr (.inr (.inr ⟨_, _, _, _, rfl, rfl, q, q2, lim_le (by rw [r.length, r2.length]; exact hl), fun e => ?_, fun n e => ?_, fun n n2 => h.newT s (r.append r2)⟩))
      · subst e
        cases r
        refine h _ H F (.refl s) ?_
        cases ry with
        | fz z => exact z
        | own h1 n1 k1 => cases k1
      · subst e
        cases r2
        rw [List.append_nil] at h
        refine h _ H F (.refl s) ?_
        cases rx with
        | fz z => exact z
        | own h1 n1 k1 => cases k1
    · exact h.elim
  · exact h.elim
def oSub : Op2
  | .int i, .int j => frzI (i - j)
  | _, _ => .no
theorem ok_sub : Op2Ok K (rI0 fun i j => .int (i - j)) oSub := by
  intro x y dx dy H F Q s rx ry h
  unfold oSub at h
  split at h
  · exact ⟨_, _, rx.int, ry.int, h.int s⟩
  · exact h.elim
/-- one factor below 2 ^ 64 in size -/
def small (i : Int) : Bool := decide (-(2 ^ 64) < i) && decide (i < 2 ^ 64)
def oMul : Op2
  | .int i, .int j => if small i || small j then frzI (i * j) else .no
  | _, _ => .no
theorem ok_mul : Op2Ok K (rI CMul fun i j => .int (i * j)) oMul := by
  intro x y dx dy H F Q s rx ry h
  unfold oMul at h
  split at h
  · split at h
    · rename_i i j hs
      refine ⟨_, _, rx.int, ry.int, ?_, h.int s⟩
      unfold small at hs
      simp only [Bool.or_eq_true, Bool.and_eq_true, decide_eq_true_eq] at hs
      exact hs
    · exact h.elim
  · exact h.elim
def oFdiv : Op2
  | .int i, .int j => if 0 < j ∧ j < 1073741824 then frzI (i / j) else .no
  | _, _ => .no
theorem ok_fdiv : Op2Ok K (rI CDiv fun i j => .int (i / j)) oFdiv := by
  intro x y dx dy H F Q s rx ry h
  unfold oFdiv at h
  split at h
  · split at h
    · rename_i i j hs
      exact ⟨_, _, rx.int, ry.int, hs, h.int s⟩
    · exact h.elim
  · exact h.elim
def oMod : Op2
  | .int i, .int j => if 0 < j then frzI (i % j) else .no
  | _, _ => .no
theorem ok_mod : Op2Ok K (rI (fun _ j => j ≠ 0) fun i j => .int (i.fmod j)) oMod := by
  intro x y dx dy H F Q s rx ry h
  unfold oMod at h
  split at h
  · split at h
    · rename_i i j hs
      refine ⟨_, _, rx.int, ry.int, by omega, ?_⟩
      show Q (.int (i.fmod j)) H
      rw [Int.fmod_eq_emod_of_nonneg _ (by omega)]
      exact h.int s
    · exact h.elim
  · exact h.elim
def oPow : Op2
  | .int i, .int j => if 0 ≤ j ∧ j ≤ 1000 ∧ i.natAbs < 2 ^ 64 then frzI (i ^ j.toNat) else .no
  | _, _ => .no
theorem ok_pow : Op2Ok K (rI CPow fun i j => .int (i ^ j.toNat)) oPow := by
  intro x y dx dy H F Q s rx ry h
  unfold oPow at h
  split at h
  · split at h
    · rename_i i j hs
      exact ⟨_, _, rx.int, ry.int, ⟨hs.1, by omega, hs.2.2⟩, h.int s⟩
    · exact h.elim
  · exact h.elim

/-! ### < <= > >=, ==, !=, is None -/
def oCmp (p : Int → Int → Bool) : Op2
  | .int i, .int j => frzB (p i j)
  | _, _ => .no
theorem ok_cmp {p : Int → Int → Bool} : Op2Ok K (rI0 fun i j => .bl (p i j)) (oCmp p) := by
  intro x y dx dy H F Q s rx ry h
  unfold oCmp at h
  split at h
  · exact ⟨_, _, rx.int, ry.int, h.bl s⟩
  · exact h.elim
abbrev oLt : Op2 := oCmp fun i j => decide (i < j)
abbrev oLe : Op2 := oCmp fun i j => decide (i ≤ j)
abbrev oGt : Op2 := oCmp fun i j => decide (j < i)
abbrev oGe : Op2 := oCmp fun i j => decide (j ≤ i)
mutual
theorem RD.dp : ∀ {v : V} {d : PyData}, d.canLay0 = true → RD K H v d → Dp K H v d
  | _, _, _, .non => .non
  | _, _, _, .bl b => .bl b
  | _, _, _, .int i => .int i
  | _, _, _, .str x => .str x
  | _, _, h, .lst q r => .lst (.inl q) (RDs.dp (by unfold PyData.canLay0 at h; exact h) r)
  | _, _, h, .tup q r => .tup (.inl (.inl q)) (RDs.dp (by unfold PyData.canLay0 at h; exact h) r)
  | _, _, h, .scr _ => by unfold PyData.canLay0 at h; cases h
  | _, _, h, .adr _ => by unfold PyData.canLay0 at h; cases h
  | _, _, h, .dK _ _ _ => by unfold PyData.canLay0 at h; cases h
  | _, _, h, .dT _ _ => by unfold PyData.canLay0 at h; cases h
theorem RDs.dp : ∀ {vs : List V} {ds : List PyData}, PyData.canLayAll0 ds = true → RDs K H vs ds → DpAll K H vs ds
  | _, _, _, .nil => .nil
  | _, _, h, .cons a b => by
    unfold PyData.canLayAll0 at h
    rw [Bool.and_eq_true] at h
    exact .cons (RD.dp h.1 a) (RDs.dp h.2 b)
end
def shp (d : PyData) : Bool := SeqAt.shaped d
def strD : PyData → Option Str
  | .str a => some a
  | _ => none
@[simp] theorem strD_str (a : Str) : strD (.str a) = some a := rfl
@[simp] theorem strD_list (a : List PyData) : strD (.list a) = none := rfl
@[simp] theorem strD_tuple (a : List PyData) : strD (.tuple a) = none := rfl
@[simp] theorem strD_int (a : Int) : strD (.int a) = none := rfl
@[simp] theorem strD_bool (a : Bool) : strD (.bool a) = none := rfl
@[simp] theorem strD_none : strD .none = none := rfl
def oEqD (k : Bool → Bool) : Op2 := fun x y => match strD x, strD y with
  | some a, some b => frzB (k (a == b))
  | _, _ => if shp x && shp y then frzB (k (PyData.eqv x y)) else .no
def oEq : Op2 := oEqD id
def oNe : Op2 := oEqD (!·)
def rEqA (K : PySem.W.Frag) : R2 := fun x y H Q => rEq x y H Q ∨ rEqD K x y H Q
def rNeA (K : PySem.W.Frag) : R2 := fun x y H Q => rNe x y H Q ∨ rNeD K x y H Q
theorem or_eq {X : Cx} (hu : X.A.units + 64 < cLine) : OpR X (compareOp .Eq) (rEqA X.K) := OpR.or op_eq (op_eqD hu)
theorem or_ne {X : Cx} (hu : X.A.units + 64 < cLine) : OpR X (compareOp .NotEq) (rNeA X.K) := OpR.or op_ne (op_neD hu)
theorem dec_strV (a b : Str) : decide (V.str a = V.str b) = (a == b) := by
  rw [Bool.eq_iff_iff]; simp
theorem eqD_run {k : Bool → Bool} {x y : V} {dx dy : PyData} (s : Sub F H) (rx : RB K H F x dx) (ry : RB K H F y dy) (h : OPost K H F Q (oEqD k dx dy)) :
    (∃ a b, x = .str a ∧ y = .str b ∧ Q (.bl (k (a == b))) H) ∨ (Dp K H x dx ∧ Dp K H y dy ∧ SeqAt.shaped dx = true ∧ SeqAt.shaped dy = true ∧ Q (.bl (k (PyData.eqv dx dy))) H) := by
  have other : OPost K H F Q (if shp dx && shp dy then frzB (k (PyData.eqv dx dy)) else .no) → Dp K H x dx ∧ Dp K H y dy ∧ SeqAt.shaped dx = true ∧ SeqAt.shaped dy = true ∧ Q (.bl (k (PyData.eqv dx dy))) H := fun h => by
    split at h
    · rename_i hs
      rw [Bool.and_eq_true] at hs
      exact ⟨RD.dp (SeqAt.canLay_of_shaped hs.1) (rx.rd s), RD.dp (SeqAt.canLay_of_shaped hs.2) (ry.rd s), hs.1, hs.2, h.bl s⟩
    · exact h.elim
  unfold oEqD at h
  cases ea : strD dx with
  | none => rw [ea] at h; exact .inr (other h)
  | some a =>
    cases eb : strD dy with
    | none => rw [ea, eb] at h; exact .inr (other h)
    | some b =>
      rw [ea, eb] at h
      have e1 : dx = .str a := by cases dx <;> first | (cases ea; rfl) | cases ea
      have e2 : dy = .str b := by cases dy <;> first | (cases eb; rfl) | cases eb
      subst e1; subst e2
      exact .inl ⟨a, b, rx.str, ry.str, h.bl s⟩
theorem ok_eq : Op2Ok K (rEqA K) oEq := by
  intro x y dx dy H F Q s rx ry h
  rcases eqD_run s rx ry h with ⟨a, b, rfl, rfl, q⟩ | ⟨h1, h2, h3, h4, q⟩
  · exact .inl ⟨rfl, by rw [dec_strV]; exact q⟩
  · exact .inr ⟨dx, dy, h1, h2, h3, h4, q⟩
theorem ok_ne : Op2Ok K (rNeA K) oNe := by
  intro x y dx dy H F Q s rx ry h
  rcases eqD_run s rx ry h with ⟨a, b, rfl, rfl, q⟩ | ⟨h1, h2, h3, h4, q⟩
  · exact .inl ⟨rfl, by rw [dec_strV]; exact q⟩
  · exact .inr ⟨dx, dy, h1, h2, h3, h4, q⟩
def isNo : PyData → Bool
  | .none => true
  | _ => false
def oIsN : Op2
  | d, .none => frzB (isNo d)
  | _, _ => .no
def oNotN : Op2
  | d, .none => frzB (!isNo d)
  | _, _ => .no
theorem isNo_of {v : V} {d : PyData} (r : RB K H F v d) : decide (v = .non) = isNo d := by
  cases r with
  | fz r => cases r <;> simp [isNo]
  | own h1 n1 k1 => cases k1 <;> simp [isNo]
theorem ok_isN : Op2Ok K (fun x y H Q => y = .non ∧ Q (.bl (decide (x = .non))) H) oIsN := by
  intro x y dx dy H F Q s rx ry h
  unfold oIsN at h
  split at h
  · exact ⟨ry.none, by rw [isNo_of rx]; exact h.bl s⟩
  · exact h.elim
theorem ok_notN : Op2Ok K (fun x y H Q => y = .non ∧ Q (.bl (!decide (x = .non))) H) oNotN := by
  intro x y dx dy H F Q s rx ry h
  unfold oNotN at h
  split at h
  · exact ⟨ry.none, by rw [isNo_of rx]; exact h.bl s⟩
  · exact h.elim

/-! ### in, not in: lists and tuples -/
def flatD : PyData → Bool
  | .none => true
  | .bool _ => true
  | .int _ => true
  | .str _ => true
  | _ => false
theorem flat_of {v : V} {d : PyData} (r : RD K F v d) (h : flatD d = true) : flatV v = true := by
  cases r <;> first | rfl | cases h
theorem eqV_of {v u : V} {d e : PyData} (r : RD K F v d) (q : RD K F u e) (h : flatD d = true) (h2 : flatD e = true) : eqV v u = PyData.eqv d e := by
  cases r <;> simp [flatD] at h <;> (cases q <;> simp [flatD] at h2 <;> simp [eqV, PyData.eqv])
def hasD (d : PyData) (ds : List PyData) : Bool := ds.any fun z => PyData.eqv z d
theorem flats_of : ∀ {vs : List V} {ds : List PyData}, RDs K F vs ds → ds.all flatD = true → vs.all flatV = true
  | _, _, .nil, _ => rfl
  | _, _, .cons a b, h => by
    rw [List.all_cons, Bool.and_eq_true] at h ⊢
    exact ⟨flat_of a h.1, flats_of b h.2⟩
theorem inV_of {v : V} {d : PyData} (r : RD K F v d) (h : flatD d = true) : ∀ {vs : List V} {ds : List PyData}, RDs K F vs ds → ds.all flatD = true → inV v vs = hasD d ds
  | _, _, .nil, _ => rfl
  | _, _, .cons (v := u) (d := e) (vs := us) (ds := es) a b, h2 => by
    rw [List.all_cons, Bool.and_eq_true] at h2
    have ih := inV_of r h b h2.2
    unfold inV hasD at ih ⊢
    rw [List.any_cons, List.any_cons, ih, eqV_of a r h2.1 h]
def oIn (neg : Bool) : Op2 := fun x y => match y with
  | .list ds => if flatD x && ds.all flatD then frzB (if neg then !hasD x ds else hasD x ds) else if shp x && shp (.list ds) then frzB (if neg then !hasD x ds else hasD x ds) else .no
  | .tuple ds => if flatD x && ds.all flatD then frzB (if neg then !hasD x ds else hasD x ds) else .no
  | _ => .no
theorem ok_in : Op2Ok K (fun x y H Q => rIn K false x y H Q ∨ rInD K x y H Q) (oIn false) := by
  intro x y dx dy H F Q s rx ry h
  unfold oIn at h
  split at h
  · split at h
    · rename_i ds hf
      rw [Bool.and_eq_true] at hf
      obtain ⟨p, xs, rfl, q, r⟩ := ry.lst s
      have rx' := rx.rd s
      have r' := r.mono s
      refine .inl ⟨p, xs, rfl, .inl (.inl q), flat_of rx' hf.1, flats_of r' hf.2, ?_⟩
      rw [inV_of rx' hf.1 r' hf.2]
      exact h.bl s
    · split at h
      · rename_i ds hf hs
        rw [Bool.and_eq_true] at hs
        exact .inr ⟨dx, ds, RD.dp (SeqAt.canLay_of_shaped hs.1) (rx.rd s), RD.dp (SeqAt.canLay_of_shaped hs.2) (ry.rd s), hs.1, hs.2, h.bl s⟩
      · exact h.elim
  · split at h
    · rename_i ds hf
      rw [Bool.and_eq_true] at hf
      obtain ⟨p, xs, rfl, q, r⟩ := ry.tup s
      have rx' := rx.rd s
      have r' := r.mono s
      refine .inl ⟨p, xs, rfl, .inr q, flat_of rx' hf.1, flats_of r' hf.2, ?_⟩
      rw [inV_of rx' hf.1 r' hf.2]
      exact h.bl s
    · exact h.elim
  · exact h.elim
theorem ok_notIn : Op2Ok K (fun x y H Q => rIn K true x y H Q ∨ rNotInD K x y H Q) (oIn true) := by
  intro x y dx dy H F Q s rx ry h
  unfold oIn at h
  split at h
  · split at h
    · rename_i ds hf
      rw [Bool.and_eq_true] at hf
      obtain ⟨p, xs, rfl, q, r⟩ := ry.lst s
      have rx' := rx.rd s
      have r' := r.mono s
      refine .inl ⟨p, xs, rfl, .inl (.inl q), flat_of rx' hf.1, flats_of r' hf.2, ?_⟩
      rw [inV_of rx' hf.1 r' hf.2]
      exact h.bl s
    · split at h
      · rename_i ds hf hs
        rw [Bool.and_eq_true] at hs
        exact .inr ⟨dx, ds, RD.dp (SeqAt.canLay_of_shaped hs.1) (rx.rd s), RD.dp (SeqAt.canLay_of_shaped hs.2) (ry.rd s), hs.1, hs.2, h.bl s⟩
      · exact h.elim
  · split at h
    · rename_i ds hf
      rw [Bool.and_eq_true] at hf
      obtain ⟨p, xs, rfl, q, r⟩ := ry.tup s
      have rx' := rx.rd s
      have r' := r.mono s
      refine .inl ⟨p, xs, rfl, .inr q, flat_of rx' hf.1, flats_of r' hf.2, ?_⟩
      rw [inV_of rx' hf.1 r' hf.2]
      exact h.bl s
    · exact h.elim
  · exact h.elim
theorem or_in (hu : X.A.units + 65 < cLine) : OpR X (compareOp .In) (fun x y H Q => rIn X.K false x y H Q ∨ rInD X.K x y H Q) := OpR.or op_in_seq (op_inD hu)
theorem or_notIn (hu : X.A.units + 65 < cLine) : OpR X (compareOp .NotIn) (fun x y H Q => rIn X.K true x y H Q ∨ rNotInD X.K x y H Q) := OpR.or op_notIn_seq (op_notInD hu)

/-! ### x[i] -/
def oIx : Op2
  | .list ds, .int i => match atI ds i with
    | some d => .val (.frz d)
    | none => .no
  | .tuple ds, .int i => match atI ds i with
    | some d => .val (.frz d)
    | none => .no
  | .str z, .int i => if z.length ≤ lim then match atI z.cps.toList i with
    | some c => .val (.frz (.str ⟨#[c]⟩))
    | none => .no
    else .no
  | .dict [(.none, .list ds)], .int i => match atI ds i with
    | some d => .val (.frz d)
    | none => .no
  | _, _ => .no
theorem atI_rds {vs : List V} {ds : List PyData} {i : Int} {d : PyData} (r : RDs K F vs ds) (h : atI ds i = some d) : ∃ v, atI vs i = some v ∧ RD K F v d := by
  unfold atI at h ⊢
  rw [r.length]
  cases e : ixN ds.length i with
  | none => rw [e] at h; cases h
  | some j =>
    rw [e] at h
    exact r.get' h
theorem ok_ix : Op2Ok K (rIx K) oIx := by
  intro x y dx dy H F Q s rx ry h
  unfold oIx at h
  split at h
  · split at h
    · rename_i ds i _ d hd
      obtain ⟨p, xs, rfl, q, r⟩ := rx.lst s
      obtain ⟨v, hv, rv⟩ := atI_rds r hd
      exact .inl ⟨p, xs, i, v, rfl, ry.int, .inl q, hv, h.here s rv⟩
    · exact h.elim
  · split at h
    · rename_i ds i _ d hd
      obtain ⟨p, xs, rfl, q, r⟩ := rx.tup s
      obtain ⟨v, hv, rv⟩ := atI_rds r hd
      exact .inr (.inl ⟨p, xs, i, v, rfl, ry.int, q, hv, h.here s rv⟩)
    · exact h.elim
  · split at h
    · split at h
      · rename_i z i hl _ c hc
        exact .inr (.inr ⟨z, i, c, rx.str, ry.int, lim_le hl, hc, h.str s⟩)
      · exact h.elim
    · exact h.elim
  · split at h
    · rename_i ds i _ d hd
      cases rx with
      | own h1 n1 k1 =>
        generalize e : PyData.dict [(PyData.none, PyData.list ds)] = dd at k1
        cases k1 with
        | lst r => cases e
        | dK _ r =>
          rename_i kvs es _
          injection e with e
          cases kvs with
          | nil => cases e
          | cons kv kvs =>
            cases es with
            | nil => cases e
            | cons e1 es =>
              rw [List.map_cons, List.zip_cons_cons] at e
              injection e with e _
              injection e with e _
              cases hk : kv.1 <;> rw [hk] at e <;> cases e
        | dT r =>
          rename_i kvs es
          injection e with e
          cases kvs with
          | nil => cases e
          | cons kv kvs =>
            cases es with
            | nil => cases e
            | cons e1 es =>
              rw [List.map_cons, List.zip_cons_cons] at e
              injection e with e _
              injection e with e _
              cases e
      | fz r =>
        generalize e : PyData.dict [(PyData.none, PyData.list ds)] = dd at r
        cases r with
        | scr q =>
          rename_i a ns
          injection e with e
          injection e with e _
          injection e with _ e
          injection e with e
          subst e
          obtain ⟨v, hv, rv⟩ := atI_rds (K := K) (F := F) (rds_ints ns) hd
          exact .inl ⟨a, _, i, v, rfl, ry.int, s.sqL q, hv, h.here s rv⟩
        | dK _ _ r =>
          rename_i kvs es _ _
          injection e with e
          cases kvs with
          | nil => cases e
          | cons kv kvs =>
            cases es with
            | nil => cases e
            | cons e1 es =>
              rw [List.map_cons, List.zip_cons_cons] at e
              injection e with e _
              injection e with e _
              cases hk : kv.1 <;> rw [hk] at e <;> cases e
        | dT _ r =>
          rename_i kvs es _
          injection e with e
          cases kvs with
          | nil => cases e
          | cons kv kvs =>
            cases es with
            | nil => cases e
            | cons e1 es =>
              rw [List.map_cons, List.zip_cons_cons] at e
              injection e with e _
              injection e with e _
              cases e
        | _ => cases e
    · exact h.elim
  · exact h.elim
end
end DL

/-! DLP: built-ins on data, slices, methods of lists. -/
namespace DL
open PySem PySem.Spec PyProof.Rows L2
section
variable {K : PySem.W.Frag} {H F : Hp} {Q : VK} {X : Cx} {xp : XP} {W : WX}
theorem RBs.nil' {vs : List V} (h : RBs K H F vs []) : vs = [] := by cases h; rfl
/-- the pseudo data of the script -/
theorem rb_scr {v : V} {ds : List PyData} (s : Sub F H) (h : RB K H F v (.dict [(.none, .list ds)])) : ∃ a ns, v = .ref a ∧ ds = List.map PyData.int ns ∧ SqL K H a (ns.map V.int) := by
  have no : ∀ (ks : List PyData) (es : List PyData), ks.all (fun k => !isNo k) = true → [(PyData.none, PyData.list ds)] = ks.zip es → False := fun ks es hk e => by
    cases ks with
    | nil => cases e
    | cons k ks => cases es with
      | nil => cases e
      | cons x es =>
        rw [List.zip_cons_cons] at e
        injection e with e _
        injection e with e _
        subst e
        simp [isNo] at hk
  have hk1 : ∀ kvs : List (Key × V), (kvs.map fun p => keyD p.1).all (fun k => !isNo k) = true := fun kvs => by
    rw [List.all_map, List.all_eq_true]
    intro p _
    show (!isNo (keyD p.1)) = true
    cases p.1 <;> rfl
  have hk2 : ∀ kvs : List (List Key × V), (kvs.map fun p => tkeyD p.1).all (fun k => !isNo k) = true := fun kvs => by
    rw [List.all_map, List.all_eq_true]
    intro p _
    rfl
  cases h with
  | own h1 n1 k1 =>
    generalize e : PyData.dict [(PyData.none, PyData.list ds)] = dd at k1
    cases k1 with
    | lst r => cases e
    | dK _ r => injection e with e; exact (no _ _ (hk1 _) e).elim
    | dT r => injection e with e; exact (no _ _ (hk2 _) e).elim
  | fz r =>
    generalize e : PyData.dict [(PyData.none, PyData.list ds)] = dd at r
    cases r with
    | scr q =>
      injection e with e
      injection e with e _
      injection e with _ e
      injection e with e
      exact ⟨_, _, rfl, e, s.sqL q⟩
    | dK _ _ r => injection e with e; exact (no _ _ (hk1 _) e).elim
    | dT _ r => injection e with e; exact (no _ _ (hk2 _) e).elim
    | _ => cases e

/-! ### len -/
def oLen : OpN
  | [.list ds] => frzI ds.length
  | [.tuple ds] => frzI ds.length
  | [.str z] => if z.length ≤ lim then frzI z.length else .no
  | [.dict [(.none, .list ds)]] => frzI ds.length
  | _ => .no
theorem ok_len : OpNOk K (fun xs H Q => ∃ x n, xs = [x] ∧ LenV K x H n ∧ Q (.int n) H) oLen := by
  intro xs ds H F Q s r h
  unfold oLen at h
  split at h
  · obtain ⟨v, rfl, rv⟩ := r.one
    obtain ⟨p, xs, rfl, q, r'⟩ := rv.lst s
    exact ⟨_, _, rfl, .inl ⟨xs, .inl q, rfl⟩, by rw [r'.length]; exact h.int s⟩
  · obtain ⟨v, rfl, rv⟩ := r.one
    obtain ⟨p, xs, rfl, q, r'⟩ := rv.tup s
    exact ⟨_, _, rfl, .inr ⟨xs, q, rfl⟩, by rw [r'.length]; exact h.int s⟩
  · split at h
    · rename_i z hz
      obtain ⟨v, rfl, rv⟩ := r.one
      exact ⟨_, z.length, rfl, by rw [rv.str]; exact ⟨lim_le hz, rfl⟩, h.int s⟩
    · exact h.elim
  · obtain ⟨v, rfl, rv⟩ := r.one
    obtain ⟨a, ns, rfl, rfl, q⟩ := rb_scr s rv
    exact ⟨_, _, rfl, .inl ⟨_, q, rfl⟩, by rw [List.length_map] at h ⊢; exact h.int s⟩
  · exact h.elim

/-! ### list(), tuple(), max, min, abs, divmod, sum, all, any, sorted, int, str -/
def oList : OpN
  | [.list ds] => .val (.own false (.list ds))
  | [.tuple ds] => .val (.own false (.list ds))
  | _ => .no
theorem ok_list : OpNOk K (fun xs H Q => ∃ p ys, xs = [.ref p] ∧ (SqL K H p ys ∨ SqT K H p ys) ∧ ∀ l, H l = none → Q (.ref l) (upd H l (.lst ys))) oList := by
  intro xs ds H F Q s r h
  unfold oList at h
  split at h
  · obtain ⟨v, rfl, rv⟩ := r.one
    obtain ⟨p, xs, rfl, q, r'⟩ := rv.lst s
    exact ⟨p, xs, rfl, .inl (.inl q), h.newL s r'⟩
  · obtain ⟨v, rfl, rv⟩ := r.one
    obtain ⟨p, xs, rfl, q, r'⟩ := rv.tup s
    exact ⟨p, xs, rfl, .inr q, h.newL s r'⟩
  · exact h.elim
def oTuple : OpN
  | [.list ds] => .val (.frz (.tuple ds))
  | [.tuple ds] => .val (.frz (.tuple ds))
  | _ => .no
theorem ok_tuple : OpNOk K (fun xs H Q => ∃ p ys, xs = [.ref p] ∧ ((SqL K H p ys ∧ ∀ l, H l = none → Q (.ref l) (upd H l (.tup ys))) ∨ (SqT K H p ys ∧ Q (.ref p) H))) oTuple := by
  intro xs ds H F Q s r h
  unfold oTuple at h
  split at h
  · obtain ⟨v, rfl, rv⟩ := r.one
    obtain ⟨p, xs, rfl, q, r'⟩ := rv.lst s
    exact ⟨p, xs, rfl, .inl ⟨.inl q, h.newT s r'⟩⟩
  · obtain ⟨v, rfl, rv⟩ := r.one
    obtain ⟨p, xs, rfl, q, r'⟩ := rv.tup s
    refine ⟨p, xs, rfl, .inr ⟨q, h.here s ?_⟩⟩
    cases rv with
    | fz z => exact z
    | own h1 n1 k1 => cases k1
  · exact h.elim
def oMax2 : OpN
  | [.int i, .int j] => frzI (if j > i then j else i)
  | _ => .no
theorem ok_max2 : OpNOk K (fun xs H Q => ∃ i j, xs = [.int i, .int j] ∧ Q (.int (if j > i then j else i)) H) oMax2 := by
  intro xs ds H F Q s r h
  unfold oMax2 at h
  split at h
  · obtain ⟨v, u, rfl, rv, ru⟩ := r.two
    exact ⟨_, _, by rw [rv.int, ru.int], h.int s⟩
  · exact h.elim
def oMin2 : OpN
  | [.int i, .int j] => frzI (if j < i then j else i)
  | _ => .no
theorem ok_min2 : OpNOk K (fun xs H Q => ∃ i j, xs = [.int i, .int j] ∧ Q (.int (if j < i then j else i)) H) oMin2 := by
  intro xs ds H F Q s r h
  unfold oMin2 at h
  split at h
  · obtain ⟨v, u, rfl, rv, ru⟩ := r.two
    exact ⟨_, _, by rw [rv.int, ru.int], h.int s⟩
  · exact h.elim
def oAbs : OpN
  | [.int i] => frzI (if i < 0 then -i else i)
  | _ => .no
theorem ok_abs : OpNOk K (fun xs H Q => ∃ i, xs = [.int i] ∧ Q (.int (if i < 0 then -i else i)) H) oAbs := by
  intro xs ds H F Q s r h
  unfold oAbs at h
  split at h
  · obtain ⟨v, rfl, rv⟩ := r.one
    exact ⟨_, by rw [rv.int], h.int s⟩
  · exact h.elim
def oDivmod : OpN
  | [.int i, .int j] => if 0 < j ∧ j < 1073741824 then .val (.frz (.tuple [.int (i / j), .int (i % j)])) else .no
  | _ => .no
theorem ok_divmod : OpNOk K (fun xs H Q => ∃ i j, xs = [.int i, .int j] ∧ CDiv i j ∧ ∀ p, H p = none → Q (.ref p) (upd H p (.tup [.int (i / j), .int (i % j)]))) oDivmod := by
  intro xs ds H F Q s r h
  unfold oDivmod at h
  split at h
  · split at h
    · rename_i i j hj
      obtain ⟨v, u, rfl, rv, ru⟩ := r.two
      exact ⟨i, j, by rw [rv.int, ru.int], hj, h.newT s (.cons (.int _) (.one (.int _)))⟩
    · exact h.elim
  · exact h.elim
/-- all whole numbers; all truths; all texts -/
def intsOf : List PyData → Option (List Int)
  | [] => some []
  | .int i :: ds => (intsOf ds).map (i :: ·)
  | _ :: _ => none
def boolsOf : List PyData → Option (List Bool)
  | [] => some []
  | .bool i :: ds => (boolsOf ds).map (i :: ·)
  | _ :: _ => none
def strsOf : List PyData → Option (List Str)
  | [] => some []
  | .str i :: ds => (strsOf ds).map (i :: ·)
  | _ :: _ => none
theorem intsOf_rds : ∀ {vs : List V} {ds : List PyData} {ns : List Int}, RDs K F vs ds → intsOf ds = some ns → vs = ns.map V.int
  | _, _, _, .nil, h => by cases h; rfl
  | _, _, ns, .cons (d := d) (ds := ds) a b, h => by
    cases a with
    | int i =>
      unfold intsOf at h
      cases e : intsOf ds with
      | none => rw [e] at h; cases h
      | some ms => rw [e] at h; cases h; rw [List.map_cons, ← intsOf_rds b e]
    | _ => cases h
theorem boolsOf_rds : ∀ {vs : List V} {ds : List PyData} {ns : List Bool}, RDs K F vs ds → boolsOf ds = some ns → vs = ns.map V.bl
  | _, _, _, .nil, h => by cases h; rfl
  | _, _, ns, .cons (d := d) (ds := ds) a b, h => by
    cases a with
    | bl i =>
      unfold boolsOf at h
      cases e : boolsOf ds with
      | none => rw [e] at h; cases h
      | some ms => rw [e] at h; cases h; rw [List.map_cons, ← boolsOf_rds b e]
    | _ => cases h
theorem strsOf_rds : ∀ {vs : List V} {ds : List PyData} {ns : List Str}, RDs K F vs ds → strsOf ds = some ns → vs = ns.map V.str
  | _, _, _, .nil, h => by cases h; rfl
  | _, _, ns, .cons (d := d) (ds := ds) a b, h => by
    cases a with
    | str i =>
      unfold strsOf at h
      cases e : strsOf ds with
      | none => rw [e] at h; cases h
      | some ms => rw [e] at h; cases h; rw [List.map_cons, ← strsOf_rds b e]
    | _ => cases h
def onInts (k : List Int → OR) : OpN
  | [.list ds] => match intsOf ds with
    | some ns => k ns
    | none => .no
  | _ => .no
def onBools (k : List Bool → OR) : OpN
  | [.list ds] => match boolsOf ds with
    | some ns => k ns
    | none => .no
  | _ => .no
theorem onInts_of {k : List Int → OR} {xs : List V} {ds : List PyData} (s : Sub F H) (r : RBs K H F xs ds) (h : OPost K H F Q (onInts k ds)) : ∃ a ns, xs = [.ref a] ∧ Rd H a (.lst (ns.map V.int)) ∧ OPost K H F Q (k ns) := by
  unfold onInts at h
  split at h
  · split at h
    · rename_i ds _ ns hn
      obtain ⟨v, rfl, rv⟩ := r.one
      obtain ⟨p, xs, rfl, q, r'⟩ := rv.lst s
      exact ⟨p, ns, rfl, by rw [← intsOf_rds r' hn]; exact q, h⟩
    · exact h.elim
  · exact h.elim
theorem onBools_of {k : List Bool → OR} {xs : List V} {ds : List PyData} (s : Sub F H) (r : RBs K H F xs ds) (h : OPost K H F Q (onBools k ds)) : ∃ a ns, xs = [.ref a] ∧ Rd H a (.lst (ns.map V.bl)) ∧ OPost K H F Q (k ns) := by
  unfold onBools at h
  split at h
  · split at h
    · rename_i ds _ ns hn
      obtain ⟨v, rfl, rv⟩ := r.one
      obtain ⟨p, xs, rfl, q, r'⟩ := rv.lst s
      exact ⟨p, ns, rfl, by rw [← boolsOf_rds r' hn]; exact q, h⟩
    · exact h.elim
  · exact h.elim
def oSum : OpN := onInts fun ns => frzI ns.sum
theorem ok_sum : OpNOk K (rSum K) oSum := by
  intro xs ds H F Q s r h
  obtain ⟨a, ns, rfl, q, h⟩ := onInts_of s r h
  exact ⟨a, ns, rfl, .inl q, h.int s⟩
def oAll : OpN := onBools fun ns => frzB (ns.all id)
theorem ok_all : OpNOk K (rAll K) oAll := by
  intro xs ds H F Q s r h
  obtain ⟨a, ns, rfl, q, h⟩ := onBools_of s r h
  exact ⟨a, ns, rfl, .inl q, h.bl s⟩
def oAny : OpN := onBools fun ns => frzB (ns.any id)
theorem ok_any : OpNOk K (rAny K) oAny := by
  intro xs ds H F Q s r h
  obtain ⟨a, ns, rfl, q, h⟩ := onBools_of s r h
  exact ⟨a, ns, rfl, .inl q, h.bl s⟩
def maxI : List Int → Int
  | [] => 0
  | [x] => x
  | x :: y :: r => if x < maxI (y :: r) then maxI (y :: r) else x
def minI : List Int → Int
  | [] => 0
  | [x] => x
  | x :: y :: r => if minI (y :: r) < x then minI (y :: r) else x
theorem maxI_mem : ∀ {ns : List Int}, ns ≠ [] → maxI ns ∈ ns
  | [], h => (h rfl).elim
  | [x], _ => List.mem_singleton.mpr rfl
  | x :: y :: r, _ => by
    unfold maxI
    split
    · exact List.mem_cons_of_mem _ (maxI_mem (List.cons_ne_nil _ _))
    · exact List.mem_cons_self
theorem maxI_ge : ∀ {ns : List Int} {y : Int}, y ∈ ns → y ≤ maxI ns
  | [], _, h => nomatch h
  | [x], y, h => by rw [List.mem_singleton.mp h]; exact Int.le_refl _
  | x :: z :: r, y, h => by
    unfold maxI
    cases h with
    | head => split <;> omega
    | tail _ h =>
      have ih := maxI_ge h
      split <;> omega
theorem minI_mem : ∀ {ns : List Int}, ns ≠ [] → minI ns ∈ ns
  | [], h => (h rfl).elim
  | [x], _ => List.mem_singleton.mpr rfl
  | x :: y :: r, _ => by
    unfold minI
    split
    · exact List.mem_cons_of_mem _ (minI_mem (List.cons_ne_nil _ _))
    · exact List.mem_cons_self
theorem minI_le : ∀ {ns : List Int} {y : Int}, y ∈ ns → minI ns ≤ y
  | [], _, h => nomatch h
  | [x], y, h => by rw [List.mem_singleton.mp h]; exact Int.le_refl _
  | x :: z :: r, y, h => by
    unfold minI
    cases h with
    | head => split <;> omega
    | tail _ h =>
      have ih := minI_le h
      split <;> omega
def oMax : OpN := onInts fun ns => if ns.isEmpty then .no else frzI (maxI ns)
theorem ok_max : OpNOk K (rMax K) oMax := by
  intro xs ds H F Q s r h
  obtain ⟨a, ns, rfl, q, h⟩ := onInts_of s r h
  split at h
  · exact h.elim
  · rename_i hn
    have hne : ns ≠ [] := fun z => hn (by rw [z]; rfl)
    refine ⟨a, ns, rfl, .inl q, List.length_pos_iff.mpr hne, fun m hm hy => ?_⟩
    have e : m = maxI ns := Int.le_antisymm (maxI_ge hm) (hy _ (maxI_mem hne))
    rw [e]; exact h.int s
def oMin : OpN := onInts fun ns => if ns.isEmpty then .no else frzI (minI ns)
theorem ok_min : OpNOk K (rMin K) oMin := by
  intro xs ds H F Q s r h
  obtain ⟨a, ns, rfl, q, h⟩ := onInts_of s r h
  split at h
  · exact h.elim
  · rename_i hn
    have hne : ns ≠ [] := fun z => hn (by rw [z]; rfl)
    refine ⟨a, ns, rfl, .inl q, List.length_pos_iff.mpr hne, fun m hm hy => ?_⟩
    have e : m = minI ns := Int.le_antisymm (hy _ (minI_mem hne)) (minI_le hm)
    rw [e]; exact h.int s
/-- in order -/
def insI (x : Int) : List Int → List Int
  | [] => [x]
  | y :: r => if x ≤ y then x :: y :: r else y :: insI x r
def sortI : List Int → List Int
  | [] => []
  | x :: r => insI x (sortI r)
theorem insI_perm (x : Int) : ∀ l : List Int, (insI x l).Perm (x :: l)
  | [] => .refl _
  | y :: r => by
    unfold insI
    split
    · exact .refl _
    · exact ((insI_perm x r).cons y).trans (.swap x y r)
theorem sortI_perm : ∀ l : List Int, (sortI l).Perm l
  | [] => .refl _
  | x :: r => (insI_perm x _).trans ((sortI_perm r).cons x)
theorem insI_sorted (x : Int) : ∀ l : List Int, l.Pairwise (· ≤ ·) → (insI x l).Pairwise (· ≤ ·)
  | [], _ => by unfold insI; exact .cons (fun _ h => nomatch h) .nil
  | y :: r, h => by
    unfold insI
    cases h with
    | cons h1 h2 =>
      split
      · rename_i hx
        refine .cons (fun z hz => ?_) (.cons h1 h2)
        cases hz with
        | head => exact hx
        | tail _ hz => exact Int.le_trans hx (h1 z hz)
      · rename_i hx
        refine .cons (fun z hz => ?_) (insI_sorted x r h2)
        rcases List.mem_cons.mp ((insI_perm x r).mem_iff.mp hz) with e | hz
        · rw [e]; omega
        · exact h1 z hz
theorem sortI_sorted : ∀ l : List Int, (sortI l).Pairwise (· ≤ ·)
  | [] => .nil
  | x :: r => insI_sorted x _ (sortI_sorted r)
theorem sorted_unique : ∀ {a b : List Int}, a.Perm b → a.Pairwise (· ≤ ·) → b.Pairwise (· ≤ ·) → a = b := fun {a b} p h1 h2 =>
  p.eq_of_pairwise (fun x y _ _ h h' => Int.le_antisymm h h') h1 h2
def oSorted : OpN := onInts fun ns => .val (.own false (.list ((sortI ns).map .int)))
theorem ok_sorted : OpNOk K (rSortedI K) oSorted := by
  intro xs ds H F Q s r h
  obtain ⟨a, ns, rfl, q, h⟩ := onInts_of s r h
  refine ⟨a, ns, rfl, .inl q, fun ns' p hp hs hn => ?_⟩
  have e : ns' = sortI ns := sorted_unique (hp.trans (sortI_perm ns).symm) hs (sortI_sorted ns)
  subst e
  exact h.newL s (rds_ints _) p hn
def oInt : OpN
  | [.int i] => frzI i
  | [.bool b] => frzI (if b then 1 else 0)
  | _ => .no
theorem ok_int : OpNOk K (fun xs H Q => (∃ i, xs = [.int i] ∧ Q (.int i) H) ∨ ∃ k, xs = [.bl k] ∧ Q (.int (if k then 1 else 0)) H) oInt := by
  intro xs ds H F Q s r h
  unfold oInt at h
  split at h
  · obtain ⟨v, rfl, rv⟩ := r.one
    exact .inl ⟨_, by rw [rv.int], h.int s⟩
  · obtain ⟨v, rfl, rv⟩ := r.one
    exact .inr ⟨_, by rw [rv.bool], h.int s⟩
  · exact h.elim
def oStr : OpN
  | [.int i] => if i.natAbs < 2 ^ 200 then .val (.frz (.str (toString i))) else .no
  | _ => .no
theorem ok_str : OpNOk K (fun xs H Q => ∃ i, xs = [.int i] ∧ i.natAbs.log2 < 1920 ∧ Q (.str (toString i)) H) oStr := by
  intro xs ds H F Q s r h
  unfold oStr at h
  split at h
  · split at h
    · rename_i i hi
      obtain ⟨v, rfl, rv⟩ := r.one
      refine ⟨i, by rw [rv.int], ?_, h.str s⟩
      by_cases z : i.natAbs = 0
      · rw [z]; decide
      · have := (Nat.log2_lt z (k := 1920)).mpr (Nat.lt_of_lt_of_le hi (Nat.pow_le_pow_right (by decide) (by decide)))
        exact this
    · exact h.elim
  · exact h.elim

/-! ### isinstance -/
def isScr : List (PyData × PyData) → Bool
  | [(.none, _)] => true
  | _ => false
def isiD (T : String) : PyData → Option Bool
  | .none => some (T == "NoneType")
  | .bool _ => some (T == "bool" || T == "int")
  | .int _ => some (T == "int")
  | .str _ => some (T == "str")
  | .list _ => some (T == "list")
  | .tuple _ => some (T == "tuple")
  | .dict kvs => if isScr kvs then none else some (T == "dict")
def tyOf : PyData → String
  | .none => "NoneType"
  | .bool _ => "bool"
  | .int _ => "int"
  | .str _ => "str"
  | .list _ => "list"
  | .tuple _ => "tuple"
  | .dict _ => "dict"
def rIsiF : List V → Hp → VK → Prop := fun xs H Q => ∃ (a : Addr) (T : String) (ob : Obj) (kvs : List (List Key × V)) (b : Bool), xs = [.ref a, .ty T] ∧ H a = some (.frz ob (.dT kvs)) ∧ kitB "dict" T = some b ∧ Q (.bl b) H
theorem call_isiF : CallR X (.builtin "isinstance") rIsiF := by
  intro pins s σ H xs us Q I r h
  obtain ⟨a, T, ob, kvs, b, rfl, hH, e, q⟩ := h
  obtain ⟨u1, u2, rfl, r1, r2⟩ := vals2 r
  cases (show u1 = Value.ref a from r1)
  cases (show u2 = Value.type T from r2)
  obtain ⟨g, _, _, _, _, o, _, _, g1, g2, _⟩ := (show ObjOk X.prog X.w H s.heap a (.frz ob (.dT kvs)) from I.hok a _ hH)
  exact PySem.W.kia_one PySem.W.kitx_dict I.kIn ⟨o, g1, g2.1⟩ (kit_ty e) (fun z => nomatch z) fun tk => ⟨.bl b, H, I.tok tk, rfl, q⟩
def rIsiA (K : PySem.W.Frag) : List V → Hp → VK → Prop := fun xs H Q => rIsi K xs H Q ∨ rIsiF xs H Q
theorem call_isiA : CallR X (.builtin "isinstance") (rIsiA X.K) := CallR.or call_isi call_isiF
def cIsi (T : String) (o : Opd) : CE := fun env => (o.ev env).bind fun l env1 => match l.get env1 with
  | some d => match isiD T d with
    | some b => .ok (.frz (.bool b)) env1
    | none => .no
  | none => .no
/-- the classes that are asked here -/
def KitT (T : String) : Prop := ∀ d b, isiD T d = some b → kitB (tyOf d) T = some b
theorem kit_of_table {T : String} (h1 : kitB "NoneType" T = some (T == "NoneType")) (h2 : kitB "bool" T = some (T == "bool" || T == "int")) (h3 : kitB "int" T = some (T == "int")) (h4 : kitB "str" T = some (T == "str"))
    (h5 : kitB "list" T = some (T == "list")) (h6 : kitB "tuple" T = some (T == "tuple")) (h7 : kitB "dict" T = some (T == "dict")) : KitT T := by
  intro d b h
  cases d with
  | none => rw [← h]; exact h1
  | bool x => rw [← h]; exact h2
  | int x => rw [← h]; exact h3
  | str x => rw [← h]; exact h4
  | list x => rw [← h]; exact h5
  | tuple x => rw [← h]; exact h6
  | dict x =>
    unfold isiD at h
    dsimp only at h
    split at h
    · cases h
    · rw [← h]; exact h7
theorem kitT_int : KitT "int" := kit_of_table (by decide +kernel) (by decide +kernel) (by decide +kernel) (by decide +kernel) (by decide +kernel) (by decide +kernel) (by decide +kernel)
theorem kitT_bool : KitT "bool" := kit_of_table (by decide +kernel) (by decide +kernel) (by decide +kernel) (by decide +kernel) (by decide +kernel) (by decide +kernel) (by decide +kernel)
theorem kitT_str : KitT "str" := kit_of_table (by decide +kernel) (by decide +kernel) (by decide +kernel) (by decide +kernel) (by decide +kernel) (by decide +kernel) (by decide +kernel)
theorem kitT_list : KitT "list" := kit_of_table (by decide +kernel) (by decide +kernel) (by decide +kernel) (by decide +kernel) (by decide +kernel) (by decide +kernel) (by decide +kernel)
theorem kitT_tuple : KitT "tuple" := kit_of_table (by decide +kernel) (by decide +kernel) (by decide +kernel) (by decide +kernel) (by decide +kernel) (by decide +kernel) (by decide +kernel)
theorem kitT_dict : KitT "dict" := kit_of_table (by decide +kernel) (by decide +kernel) (by decide +kernel) (by decide +kernel) (by decide +kernel) (by decide +kernel) (by decide +kernel)
theorem tyx_of {v : V} {d : PyData} {T : String} {b : Bool} (r : RD K H v d) (h : isiD T d = some b) : TyX K H v (.type (tyOf d)) ∨ ∃ a ob kvs, v = .ref a ∧ H a = some (.frz ob (.dT kvs)) ∧ tyOf d = "dict" := by
  cases r with
  | non => exact .inl (.base .non)
  | bl b => exact .inl (.base (.bl b))
  | int i => exact .inl (.base (.int i))
  | str x => exact .inl (.base (.str x))
  | lst q _ =>
    rcases q with q | ⟨o, q⟩
    · exact .inl (.base (.lst q))
    · exact .inl (.base (.frz q))
  | tup q _ =>
    exact .inl (.base (.tup q))
  | scr q => cases h
  | adr a => cases h
  | dK _ q _ =>
    rcases q with q | ⟨o, q⟩
    · exact .inl (.base (.dK q))
    · exact .inl (.fDict q)
  | dT q _ =>
    rcases q with q | ⟨o, q⟩
    · exact .inl (.base (.dT q))
    · exact .inr ⟨_, _, _, rfl, q, rfl⟩
theorem de_isi {T : String} {p p2 pos : Pos} {ex : Expr} {o : Opd} {te : TE} (kt : KitT T) (hg : Gl X "isinstance") (hm : X.mg "isinstance" = none) (hgT : Gl X (Str.ofString T)) (hmT : X.mg (Str.ofString T) = none) (hvT : bootBuiltins (Str.ofString T) = some (.type T)) (h : DO X xp W ex o te)
    (hnT : (Str.ofString T) ≠ "__name__" := by decide) (hdT : ((Str.ofString T) == ("__debug__" : Str)) = false := by decide)
    (he : starEach [ex, .Name (Str.ofString T) p2] X.env = (false, eval ex X.env) :: starEach [.Name (Str.ofString T) p2] X.env := by rfl) (he2 : starEach [.Name (Str.ofString T) p2] X.env = (false, eval (.Name (Str.ofString T) p2) X.env) :: starEach [] X.env := by rfl)
    (hpl : (backTo pos (starEach [.Name (Str.ofString T) p2] X.env)).any (·.1) = false := by rfl) :
    DE X xp W (.Call (.Name "isinstance" p) [ex, .Name (Str.ofString T) p2] [] pos) (cIsi T o) (tCB (rIsiA X.K) (tCons te (tCons (tC (.ty T)) tNil))) := by
  refine ⟨pe_callB call_isiA hg hm (by decide +kernel) (pa_cons h.pe (pa_cons (pe_bltn hgT hmT hvT rfl hnT hdT) pa_nil he2) he) (by decide) (by decide) he hpl, fun e σ H F env Q w q => ?_⟩
  refine h.run w (fun x env1 H' F' cls d g w' s y => ?_) (fun g => ?_) fun l env1 v H1 F1 g w1 s1 l1 => ?_
  · unfold cIsi at q; rw [g] at q; exact q H' F' cls d w' s y
  · unfold cIsi at q; rw [g] at q; exact q
  · unfold cIsi at q; rw [g] at q; simp only [Res.bind] at q
    cases g1 : l.get env1 with
    | none => rw [g1] at q; exact q.elim
    | some d =>
      rw [g1] at q; dsimp only at q
      cases g2 : isiD T d with
      | none => rw [g2] at q; exact q.elim
      | some b =>
        rw [g2] at q
        have rd := (RB.of w1 l1 g1).rd w1.sub
        have fin : Q (.bl b) H1 := q (.bl b) H1 F1 w1 s1 (.bl b)
        show rIsiA X.K [v, .ty T] H1 Q
        rcases tyx_of rd g2 with t | ⟨a, ob, kvs, rfl, hH, e⟩
        · exact .inl ⟨v, .ty T, _, _, b, rfl, .ty T, t, kit_ty (kt d b g2), fin⟩
        · exact .inr ⟨a, T, ob, kvs, b, rfl, hH, by rw [← e]; exact kt d b g2, fin⟩

/-! ### slices -/
inductive POp where
  | none
  | some (o : Opd)
def POp.ev : POp → Cs → Res (Option Int)
  | .none, env => .ok Option.none env
  | .some o, env => (o.ev env).bind fun l env1 => match l.get env1 with
    | Option.some (.int i) => .ok (Option.some i) env1
    | _ => .no
def cutD (ds : List PyData) (lo hi : Option Int) : List PyData := (ds.drop (HT.sIx ds.length 0 lo)).take (HT.sIx ds.length ds.length hi - HT.sIx ds.length 0 lo)
def oSl (d : PyData) (lo hi : Option Int) : OR := match d with
  | .list ds => .val (.own false (.list (cutD ds lo hi)))
  | .tuple ds => .val (.frz (.tuple (cutD ds lo hi)))
  | .str z => if z.length ≤ lim then .val (.frz (.str (cutS z lo hi))) else .no
  | _ => .no
def cSl (o : Opd) (lo hi : POp) : CE := fun env => (o.ev env).bind fun l env1 => (lo.ev env1).bind fun ll env2 => (hi.ev env2).bind fun lh env3 => match l.get env3 with
  | some d => (oSl d ll lh).fin env3
  | _ => .no
theorem cut_rds {vs : List V} {ds : List PyData} (r : RDs K F vs ds) (lo hi : Option Int) : RDs K F (cutV vs lo hi) (cutD ds lo hi) := by
  unfold cutV cutD
  rw [r.length]
  exact (r.drop _).take _
abbrev rSlA3 (K : PySem.W.Frag) : V → Option Int → Option Int → Hp → VK → Prop := fun x lo hi H Q => rSlL K x lo hi H Q ∨ (fun x lo hi H Q => rSlA K x lo hi H Q ∨ rSlS x lo hi H Q) x lo hi H Q
theorem sl_any : SlR X (rSlA3 X.K) := SlR.or sl_list (SlR.or sl_tupA sl_str)
theorem ok_sl {x : V} {d : PyData} {lo hi : Option Int} (s : Sub F H) (rx : RB K H F x d) (h : OPost K H F Q (oSl d lo hi)) : rSlA3 K x lo hi H Q := by
  unfold oSl at h
  split at h
  · obtain ⟨p, xs, rfl, q, r⟩ := rx.lst s
    exact .inl ⟨p, xs, rfl, .inl q, h.newL s (cut_rds r lo hi)⟩
  · rename_i ds
    obtain ⟨p, xs, rfl, q, r⟩ := rx.tup s
    refine .inr (.inl ⟨p, xs, rfl, q, fun e => ?_, fun _ => h.newT s (cut_rds r lo hi)⟩)
    have e2 : cutD ds lo hi = ds := by
      unfold cutD
      rw [← r.length, e.1, e.2, List.drop_zero, Nat.sub_zero, r.length, List.take_length]
    rw [e2] at h
    refine h.here s ?_
    cases rx with
    | fz z => exact z
    | own h1 n1 k1 => cases k1
  · split at h
    · rename_i z hz
      exact .inr (.inr ⟨z, rx.str, lim_le hz, h.str s⟩)
    · exact h.elim
  · exact h.elim
def DP (X : Cx) (xp : XP) (W : WX) (ex : Option Expr) : POp → TO → Prop
  | .none, t => ex = Option.none ∧ t = tNoPart
  | .some o, t => ∃ e te, ex = Option.some e ∧ DO X xp W e o te ∧ t = tPart te
theorem DP.po {ex : Option Expr} {o : POp} {t : TO} (h : DP X xp W ex o t) : PO X ex t := by
  cases o with
  | none => obtain ⟨rfl, rfl⟩ := h; exact po_none
  | some o => obtain ⟨e, te, rfl, q, rfl⟩ := h; exact po_some q.pe
theorem dp_none : DP X xp W Option.none .none tNoPart := ⟨rfl, rfl⟩
theorem dp_some {ex : Expr} {o : Opd} {te : TE} (h : DO X xp W ex o te) : DP X xp W (Option.some ex) (.some o) (tPart te) := ⟨ex, te, rfl, h, rfl⟩
/-- run a part -/
theorem DP.run {ex : Option Expr} {o : POp} {t : TO} (h : DP X xp W ex o t) {e : Ent} {σ : L2.St} {H F : Hp} {env : Cs} {Q : Option Int → Hp → Prop} (w : Wl X.K e σ H F env)
    (hx : ∀ x env1 H' F' cls d, o.ev env = .ex x env1 → Wl X.K e σ H' F' env1 → Sub F F' → xp x cls d H' → W cls d σ H') (hn : o.ev env ≠ .no)
    (hq : ∀ i env1 H1 F1, o.ev env = .ok i env1 → Wl X.K e σ H1 F1 env1 → Sub F F1 → Q i H1) : t σ H Q := by
  cases o with
  | none =>
    obtain ⟨rfl, rfl⟩ := h
    exact hq Option.none env H F rfl w (.refl _)
  | some o =>
    obtain ⟨e1, te, rfl, q0, rfl⟩ := h
    have ev : (POp.some o).ev env = (o.ev env).bind fun l env1 => match l.get env1 with
      | Option.some (.int i) => .ok (Option.some i) env1
      | _ => .no := rfl
    refine q0.run w (fun x env1 H' F' cls d g w' s y => hx x env1 H' F' cls d (by rw [ev, g]; rfl) w' s y) (fun g => hn (by rw [ev, g]; rfl)) fun l env1 v H1 F1 g w1 s1 l1 => ?_
    rw [g] at ev
    simp only [Res.bind] at ev
    cases g2 : l.get env1 with
    | none => rw [g2] at ev; exact (hn ev).elim
    | some d =>
      have rb := RB.of w1 l1 g2
      rw [g2] at ev
      cases d with
      | int j => exact ⟨j, rb.int, hq (Option.some j) env1 H1 F1 ev w1 s1⟩
      | _ => exact (hn ev).elim
theorem de_sl {ex : Expr} {lo hi : Option Expr} {o : Opd} {plo phi : POp} {te : TE} {tl th : TO} {p2 pos : Pos} (h : DO X xp W ex o te) (hl : DP X xp W lo plo tl) (hh : DP X xp W hi phi th) :
    DE X xp W (.Subscript ex (.Slice lo hi none p2) pos) (cSl o plo phi) (tSl (rSlA3 X.K) te tl th) := by
  refine ⟨pe_slice sl_any h.pe hl.po hh.po, fun e σ H F env Q w q => ?_⟩
  unfold cSl at q
  refine h.run w (fun x env1 H' F' cls d g w' s y => ?_) (fun g => ?_) fun l env1 v H1 F1 g w1 s1 l1 => ?_
  · rw [g] at q; exact q H' F' cls d w' s y
  · rw [g] at q; exact q
  · rw [g] at q; simp only [Res.bind] at q
    refine hl.run w1 (fun x env1 H' F' cls d g2 w' s y => ?_) (fun g2 => ?_) fun i env2 H2 F2 g2 w2 s2 => ?_
    · rw [g2] at q; exact q H' F' cls d w' (s1.trans s) y
    · rw [g2] at q; exact q
    · rw [g2] at q; dsimp only at q
      refine hh.run w2 (fun x env1 H' F' cls d g3 w' s y => ?_) (fun g3 => ?_) fun j env3 H3 F3 g3 w3 s3 => ?_
      · rw [g3] at q; exact q H' F' cls d w' ((s1.trans s2).trans s) y
      · rw [g3] at q; exact q
      · rw [g3] at q; dsimp only at q
        cases g4 : l.get env3 with
        | none => rw [g4] at q; exact q.elim
        | some d =>
          rw [g4] at q
          exact ok_sl w3.sub (.of w3 ((l1.mono s2).mono s3) g4) (.of w3 ((s1.trans s2).trans s3) q)

/-! ### methods of lists -/
theorem Step.upd {a : Addr} {u u' : HO} (s : Sub F H) (h : H a = some u) (n : F a = none) : Step a H F (upd H a u') F where
  ex := fun b o nb hb => by rw [upd_ne nb]; exact hb
  fz := .refl _
  sub := by
    refine ⟨fun b x pl r => ?_, fun b q => ?_, fun b vs r => ?_⟩
    · have z : b ≠ a := fun z => by subst z; exact rd_dom r n
      exact rd_congr (upd_ne z).symm (s.rd _ _ pl r)
    · have z : b ≠ a := fun z => by subst z; exact q n
      rw [upd_ne z]; exact s.dom b q
    · have z : b ≠ a := fun z => by subst z; rw [n] at r; cases r
      rw [upd_ne z]; exact s.tp b vs r
  new := fun b q => .inl q
theorem MPost.non {a : Addr} {u : HO} {vs : List V} {ds : List PyData} (s : Sub F H) (h : H a = some u) (n : F a = none) (p : MPost K a H F Q (.ok (.frz .none) (.list ds))) (r : RDs K F vs ds) : Q .non (upd H a (.lst vs)) :=
  p .non _ F _ (Step.upd s h n) upd_same (.lst r) .non
def mAppend : OpM
  | .list ds, [d] => if ds.length < lim then .ok (.frz .none) (.list (ds ++ [d])) else .no
  | _, _ => .no
theorem ok_append : OpMOk K rAppend mAppend := by
  intro a u d xs ds H F Q s h n k r p
  unfold mAppend at p
  split at p
  · split at p
    · rename_i ds d hl
      cases k with
      | lst rk =>
        cases r with
        | cons r1 r2 =>
          cases r2
          exact ⟨a, _, _, rfl, rfl, h, lim_lt (by rw [rk.length]; exact hl), p.non s h n (rk.append (.one r1))⟩
    · exact p.elim
  · exact p.elim
/-- extend by a list or tuple read anyhow -/
def rExtL (K : PySem.W.Frag) : V → List V → Hp → VK → Prop := fun x vs H Q => ∃ l b xs zs, x = .ref l ∧ vs = [.ref b] ∧ H l = some (.lst xs) ∧ Rd H b (.lst zs) ∧ xs.length + zs.length ≤ sizeLine ∧ Q .non (upd H l (.lst (xs ++ zs)))
def mExtend : OpM
  | .list ds, [.list es] => if ds.length + es.length ≤ lim then .ok (.frz .none) (.list (ds ++ es)) else .no
  | .list ds, [.tuple es] => if ds.length + es.length ≤ lim then .ok (.frz .none) (.list (ds ++ es)) else .no
  | _, _ => .no
def mClear : OpM
  | .list ds, [] => .ok (.frz .none) (.list [])
  | _, _ => .no
theorem ok_clear : OpMOk K rClear mClear := by
  intro a u d xs ds H F Q s h n k r p
  unfold mClear at p
  split at p
  · cases k with
    | lst rk => cases r; exact ⟨a, _, rfl, rfl, h, p.non s h n .nil⟩
  · exact p.elim
def mReverse : OpM
  | .list ds, [] => .ok (.frz .none) (.list ds.reverse)
  | _, _ => .no
theorem ok_reverse : OpMOk K rReverse mReverse := by
  intro a u d xs ds H F Q s h n k r p
  unfold mReverse at p
  split at p
  · cases k with
    | lst rk => cases r; exact ⟨a, _, rfl, rfl, h, p.non s h n rk.reverse⟩
  · exact p.elim
def mInsert : OpM
  | .list ds, [.int i, d] => if ds.length < lim ∧ 0 ≤ i ∧ i < 1000000 then .ok (.frz .none) (.list (ds.take i.toNat ++ [d] ++ ds.drop i.toNat)) else .no
  | _, _ => .no
theorem ok_insert : OpMOk K (fun x vs H Q => ∃ (l : Addr) (xs : List V) (i : Int) (y : V), x = .ref l ∧ vs = [.int i, y] ∧ H l = some (.lst xs) ∧ xs.length < sizeLine ∧ 0 ≤ i ∧ i < 2 ^ 63 ∧ Q .non (upd H l (.lst (xs.take i.toNat ++ [y] ++ xs.drop i.toNat)))) mInsert := by
  intro a u d xs ds H F Q s h n k r p
  unfold mInsert at p
  split at p
  · split at p
    · rename_i ds i d hl
      cases k with
      | lst rk =>
        cases r with
        | cons r1 r2 =>
          cases r2 with
          | cons r2 r3 =>
            cases r3
            cases r1
            exact ⟨a, _, i, _, rfl, rfl, h, lim_lt (by rw [rk.length]; exact hl.1), hl.2.1, by omega, p.non s h n (((rk.take _).append (.one r2)).append (rk.drop _))⟩
    · exact p.elim
  · exact p.elim
def mPop : OpM
  | .list ds, [] => match ds[ds.length - 1]? with
    | some d => .ok (.frz d) (.list ds.dropLast)
    | none => .no
  | _, _ => .no
theorem RDs.dropLast {vs : List V} {ds : List PyData} (r : RDs K F vs ds) : RDs K F vs.dropLast ds.dropLast := by
  rw [List.dropLast_eq_take, List.dropLast_eq_take, r.length]
  exact r.take _
theorem ok_pop : OpMOk K rPop mPop := by
  intro a u d xs ds H F Q s h n k r p
  unfold mPop at p
  split at p
  · split at p
    · rename_i ds _ d hd
      cases k with
      | lst rk =>
        cases r
        obtain ⟨v, hv, rv⟩ := rk.get' hd
        exact ⟨a, _, v, rfl, rfl, h, by rw [rk.length]; exact hv, p v _ F _ (Step.upd s h n) upd_same (.lst rk.dropLast) rv⟩
    · exact p.elim
  · exact p.elim
def mPopAt : OpM
  | .list ds, [.int 0] => match ds with
    | d :: ds' => .ok (.frz d) (.list ds')
    | [] => .no
  | _, _ => .no
theorem ok_popAt : OpMOk K rPopAt mPopAt := by
  intro a u d xs ds H F Q s h n k r p
  unfold mPopAt at p
  split at p
  · split at p
    · rename_i d ds'
      cases k with
      | lst rk =>
        cases rk with
        | cons r1 r2 =>
          rename_i v vs
          cases r with
          | cons q1 q2 =>
            cases q2
            cases q1
            refine ⟨a, v :: vs, 0, 0, v, rfl, rfl, h, by decide, by decide, ?_, rfl, p v _ F _ (Step.upd s h n) upd_same (.lst r2) r1⟩
            unfold seqIndex?
            simp
    · exact p.elim
  · exact p.elim
/-! ### xs[i] = v -/
def sList : OpS
  | .list ds, .int i, d => match ixN ds.length i with
    | some j => some (.list (ds.set j d))
    | none => none
  | _, _, _ => none
theorem ok_setL : OpSOk K rSetL sList := by
  intro a u d ix dx x dv d' H F Q s h n k ri rx e q
  unfold sList at e
  split at e
  · split at e
    · rename_i ds i _ j hj
      cases e
      cases k with
      | lst rk => exact ⟨a, _, i, j, rfl, ri.int, h, by rw [rk.length]; exact hj, q _ F _ (Step.upd s h n) upd_same (.lst (RDs.set rx j rk))⟩
    · cases e
  · cases e
end
end DL

/-! DLQ: enumerate of lists and tuples; extend. -/
namespace PySem
open Sem (wp)
open AutoSeq1 (wpAny_loadPart')
theorem meets_enumerate_newT (t : Addr) (items : Array Value) (n : Nat) (dct : Option Addr) (sl : Array (Option Value)) :
    Meets (Builtin.«enumerate.__new__» ⟨[.type "enumerate", .ref t], []⟩) (fun _ R s => s.heap.get? t = some { cls := .type "tuple", dict := dct, data := .seq items n, slots := sl } ∧
      R (.ok (.ret (.ref (s.heap.objs.size + 1))))
        { s with heap := (s.heap.push { cls := .type "tuple_iterator", data := .fields #[.ref t, .int 0 0] }).push { cls := .type "enumerate", data := .fields #[.none, .bool false, .ref s.heap.objs.size, rawInt 0, .none, .none] } }) :=
  .of_wp fun prog w A R s h => by
    obtain ⟨hp, g, d, tk, os⟩ := s
    obtain ⟨hl, h⟩ := h
    have hsub := sub_enumerate
    have hT : Heap.IsTuple (Shared.heap ⟨hp, g, d, tk, os⟩) t items := ⟨_, hl, rfl, n, rfl⟩
    have hz : (hp.push { cls := .type "tuple_iterator", data := .fields #[.ref t, .int 0 0] }).objs.size = hp.objs.size + 1 := Heap.size_push ..
    wp_walk using wpAny_loadPart' hl
    refine wpAny_stack_any fun st => wpAny_pure ?_
    split
    · rename_i c _ _ _ _ _
      cases (c == Value.type "enumerate")
      · wp_walk using wpAny_loadPart' hl, wpAny_pyIter_tuple hT
        exact ⟨_, rfl, by rw [← hz] at h; exact h⟩
      · wp_walk using wpAny_loadPart' hl, wpAny_pyIter_tuple hT
        exact ⟨_, rfl, by rw [← hz] at h; exact h⟩
    · wp_walk using wpAny_loadPart' hl, wpAny_pyIter_tuple hT
      exact ⟨_, rfl, by rw [← hz] at h; exact h⟩
end PySem
namespace DL
open PySem PySem.Spec PyProof.Rows L2
theorem call_enum_tup {prog : Program} {w : World} {A : Around} {E : Value → Shared → Prop} {s : Shared} {t : Addr} {items : Array Value} {Q : Value → Shared → Prop} (hL : s.heap.IsTuple t items)
    (h : ∀ h', IsEnum h' (s.heap.objs.size + 1) s.heap.objs.size 0 .none → h'.IsTupleIter s.heap.objs.size t 0 → (∀ b o, s.heap.get? b = some o → h'.get? b = some o) → Q (.ref (s.heap.objs.size + 1)) { s with heap := h' }) :
    wpAny (model prog w) A (call (.type "enumerate") [.ref t]) Q E s := by
  obtain ⟨⟨c, dct, dt, sl⟩, hl, hc, n, hd⟩ := hL
  cases (show c = .type "tuple" from hc)
  cases (show dt = .seq items n from hd)
  have z1 : (s.heap.push { cls := .type "tuple_iterator", data := .fields #[.ref t, .int 0 0] }).objs.size = s.heap.objs.size + 1 := Heap.size_push ..
  have he := Heap.get?_push_size (s.heap.push { cls := .type "tuple_iterator", data := .fields #[.ref t, .int 0 0] }) (o := { cls := .type "enumerate", data := .fields #[.none, .bool false, .ref s.heap.objs.size, rawInt 0, .none, .none] }) rfl
  rw [z1] at he
  refine callType_new F.called_enumerate (by decide) (F.typeCall_enumerate_1 _) (F.newCall_enumerate_1 _) (fun obj => F.args_object_init_2 obj _) F.entry_enumerate_new (meets_enumerate_newT t items n dct sl) ⟨hl, ?_⟩
  exact ⟨⟨_, he, rfl⟩, h _ he ⟨_, Heap.get?_push_of_some _ (Heap.get?_push_size _ rfl), rfl, rfl⟩ fun b o x => Heap.get?_push_of_some _ (Heap.get?_push_of_some _ x)⟩
/-- the tuple at a, each item in a new pair -/
def IteT (K : PySem.W.Frag) (a : Addr) : It where
  go := fun i H => ∃ (xs : List V) (x : V), SqT K H a xs ∧ xs[i]? = some x
  yld := fun i H v H' => ∃ T x, v = .ref T ∧ H T = none ∧ H' = upd H T (.tup [.int (i : Nat), x]) ∧ ∀ xs, SqT K H a xs → xs[i]? = some x
  stop := fun i H => ∃ xs : List V, SqT K H a xs ∧ xs.length = i
theorem tup_inj {X : Cx} {pins : List (Addr × Obj)} {σ : L2.St} {H : Hp} {s : Shared} {a : Addr} {xs ys : List V} (I : Inv X pins σ H s) (h : SqT X.K H a xs) (h' : SqT X.K H a ys) : xs = ys := by
  exact I.tuple_inj h h'
theorem turn_enumT {P : Program} {w : World} {K : PySem.W.Frag} {elts : List Expr} {kk : Nat} {tpos : Pos} (a e it : Addr) (hea : e ≠ a) (hia : a ≠ it) :
    Turn P w K (.Tuple elts kk tpos) (IteT K a) [e, it] e (fun i h => (∃ old, IsEnum h e it ((i : Nat) : Int) old) ∧ h.IsTupleIter it a i ∧ e ≠ it) where
  mem := List.mem_cons_self
  obj := fun i h ⟨⟨old, he⟩, ⟨o, ho, hc, hd⟩, _⟩ b hb => by
    rcases List.mem_cons.mp hb with rfl | hb
    · exact ⟨_, he, fun v q => nomatch q⟩
    · cases List.mem_singleton.mp hb
      exact ⟨o, ho, fun v q => by rw [hd] at q; cases q⟩
  keep := fun i h h' ⟨⟨old, he⟩, ⟨o, ho, r⟩, ne⟩ k => ⟨⟨old, k e List.mem_cons_self _ he⟩, ⟨o, k it (List.mem_cons_of_mem _ List.mem_cons_self) o ho, r⟩, ne⟩
  item := by
    intro X hP hw hK hc i pins s σ H E I hf st hg
    subst hP hw hK
    obtain ⟨⟨old, he⟩, hit, hne⟩ := st
    obtain ⟨xs, x, hq, hx⟩ := hg
    obtain ⟨its, rv, p, hz⟩ := I.tuple hq
    obtain ⟨u, hu, ru⟩ := rv.get hx
    have hi : i < its.toArray.size := by
      rw [List.size_toArray, ← rv.length]; exact (List.getElem?_eq_some_iff.mp hx).1
    have hel : e < s.heap.objs.size := Heap.lt_size he
    have hil : it < s.heap.objs.size := by obtain ⟨_, q, _⟩ := hit; exact Heap.lt_size q
    refine wpAny_pyNext_enum_itemD (Draws.tuple (A := X.A.in1) (I.ok.hd hc) it a hia its.toArray) he ⟨hit, p⟩ hi hne (fun z => ?_) fun v h' tk hv ho hit' hT hsz hk => ?_
    · rcases List.mem_cons.mp z with z | z
      · exact hne z
      · exact hea (List.mem_singleton.mp z)
    have ev : v = u := by
      have q : its.toArray[i]? = some v := hv
      rw [List.getElem?_toArray, hu] at q; exact (Option.some.inj q).symm
    subst ev
    refine ⟨_, rfl, wpAny_letOwnedTupleGo_enum (s := { s with heap := h', toks := tk + 1 }) ho fun h2 he' sb => ?_⟩
    have hT2 : h2.get? s.heap.objs.size = some { cls := .type "tuple", data := .seq #[.int i tk, v] } := (sb.2 _ (Nat.ne_of_gt hel)).trans hT
    have I1 : Inv X pins σ (upd H s.heap.objs.size (.tup [.int (i : Nat), x])) { s with heap := h2, toks := tk + 1 } :=
      I.turnedNew (ch := [e, it]) (fun b ob hb q => (sb.2 b (fun z => hb (z ▸ List.mem_cons_self))).trans (hk b ob (fun z => hb (z ▸ List.mem_cons_self)) (fun z => hb (z ▸ List.mem_cons_of_mem _ List.mem_cons_self)) q)) hf (Nat.le_refl _)
        ⟨(by show 2 ≤ sizeLine; decide), [.int i tk, v], .cons ⟨_, rfl⟩ (.cons ru .nil), ⟨_, hT2, rfl, _, rfl⟩⟩
    refine ⟨.ref s.heap.objs.size, _, I1, rfl, ⟨_, x, rfl, I.hok.fresh (Nat.le_refl _), rfl, fun ys hy => by rw [tup_inj I hy hq]; exact hx⟩, ⟨⟨v, ?_⟩, ?_, hne⟩, fun b hb => ?_⟩
    · rw [show ((i + 1 : Nat) : Int) = (i : Int) + 1 by omega]; exact he'
    · obtain ⟨o, q, r⟩ := hit'.1
      exact ⟨o, (sb.2 it (Ne.symm hne)).trans q, r⟩
    · have hb' : b ≠ s.heap.objs.size := by
        rcases List.mem_cons.mp hb with z | z
        · rw [z]; exact Nat.ne_of_lt hel
        · rw [List.mem_singleton.mp z]; exact Nat.ne_of_lt hil
      rw [upd_ne hb']; exact (hf b hb).1
  done := by
    intro X hP hw hK hc i pins s σ H E I hf st hg
    subst hP hw hK
    obtain ⟨⟨old, he⟩, hit, hne⟩ := st
    obtain ⟨xs, hq, hx⟩ := hg
    obtain ⟨its, rv, p, hz⟩ := I.tuple hq
    obtain ⟨f0, f1, f2, f3, f4, f5⟩ := hf it (List.mem_cons_of_mem _ List.mem_cons_self)
    have ei : i = its.toArray.size := by rw [List.size_toArray, ← rv.length]; exact hx.symm
    subst ei
    exact wpAny_pyNext_enum_endD (Draws.tuple (A := X.A.in1) (I.ok.hd hc) it a hia its.toArray) he ⟨hit, p⟩ fun h' eb => ⟨rfl, I.turned (t' := s.toks) (fun b o hb q => eb b o hb q) f0 f1 f3 f4 f5⟩
  self := fun A i s Q E ⟨⟨_, he⟩, _⟩ h => wpAny_pyIter_enum he h
def iEnumT (K : PySem.W.Frag) (ta : TA) : TI := fun σ H R => ta σ H fun vs H1 => ∃ a xs, vs = [.ref a] ∧ SqT K H1 a xs ∧ R (IteT K a) H1
theorem pi_enumT {X : Cx} {e : Expr} {ta : TA} {p pos tpos : Pos} {elts : List Expr} {kk : Nat} (hg : Gl X "enumerate") (hm : X.mg "enumerate" = none) (ha : PA X [e] ta) (hs : starEach [e] X.env = [(false, eval e X.env)] := by rfl) :
    PI X (.Tuple elts kk tpos) (.Call (.Name "enumerate" p) [e] [] pos) (iEnumT X.K ta) := by
  refine ⟨fun pins s σ H R I h => Call_ (ld_blt I hg hm boot_enumerate (PyProof.Rows.callWith_type1 (thn (ha.run pos pins s σ H _ I h) fun us s1 ⟨vs, H1, I1, r1, a, xs, ex, hq, q⟩ => ?_) hs rfl))⟩
  subst ex
  cases r1 with
  | cons r rr =>
    cases rr
    cases (show _ = Value.ref a from r)
    obtain ⟨its, rv, p', hz⟩ := I1.tuple hq
    have al : a < s1.heap.objs.size := by obtain ⟨_, q', _⟩ := p'; exact Heap.lt_size q'
    refine call_enum_tup p' fun h' he hit hk => wpAny_pyIter_enum he ?_
    have I2 : Inv X pins σ H1 { s1 with heap := h' } := I1.kept (t' := s1.toks) hk
    refine ⟨s1.heap.objs.size + 1, [s1.heap.objs.size + 1, s1.heap.objs.size], _, _, H1, rfl, I2, turn_enumT a (s1.heap.objs.size + 1) s1.heap.objs.size (Nat.ne_of_gt (Nat.lt_succ_of_lt al)) (Nat.ne_of_lt al), ⟨⟨.none, he⟩, hit, Nat.succ_ne_self _⟩, fun b hb => ?_, q⟩
    have hle : s1.heap.objs.size ≤ b := by
      rcases List.mem_cons.mp hb with z | z
      · rw [z]; exact Nat.le_succ _
      · rw [List.mem_singleton.mp z]; exact Nat.le_refl _
    exact I1.fpOk hle (I1.hok.fresh hle)
section
variable {X : Cx} {xp : XP} {W : WX} {K : PySem.W.Frag}
def enumD (k : Nat) : List PyData → List PyData
  | [] => []
  | d :: ds => .tuple [.int (k : Nat), d] :: enumD (k + 1) ds
theorem enumD_len : ∀ (k : Nat) (ds : List PyData), (enumD k ds).length = ds.length
  | _, [] => rfl
  | k, d :: ds => by unfold enumD; rw [List.length_cons, List.length_cons, enumD_len]
theorem enumD_get : ∀ (k : Nat) (ds : List PyData) (i : Nat), (enumD k ds)[i]? = (ds[i]?).map fun d => .tuple [.int ((k + i : Nat) : Int), d]
  | _, [], i => by unfold enumD; simp
  | k, d :: ds, 0 => rfl
  | k, d :: ds, i + 1 => by
    unfold enumD
    rw [List.getElem?_cons_succ, List.getElem?_cons_succ, enumD_get, show k + 1 + i = k + (i + 1) by omega]
def enumOf : List PyData → Option (List PyData)
  | [.list ds] => some (enumD 0 ds)
  | [.tuple ds] => some (enumD 0 ds)
  | _ => none
theorem pair_grow {e : Ent} {σ : L2.St} {H F : Hp} {env : Cs} {T : Addr} {x : V} {d : PyData} {i : Nat} (w : Wl K e σ H F env) (hT : H T = none) (r : RD K F x d) :
    ∃ F', Grow H F (upd H T (.tup [.int (i : Nat), x])) F' ∧ RD K F' (.ref T) (.tuple [.int (i : Nat), d]) :=
  ⟨_, w.grow_frz hT, .tup upd_same (.cons (.int _) (.one (r.mono (upd_sub (w.fresh hT)))))⟩
theorem ite_ok {e : Ent} {F₁ : Hp} {a : Addr} {vs : List V} {ds : List PyData} (h : SqL K F₁ a vs) (r : RDs K F₁ vs ds) : ItOk K (Ite K a) (enumD 0 ds) e F₁ := by
  intro σ H F env w s i
  have hH : SqL K H a vs := w.sub.sqL (s.sqL h)
  refine ⟨fun d hd => ?_, fun hl => ⟨vs, hH, by rw [enumD_len] at hl; rw [r.length]; exact Nat.le_of_eq hl⟩⟩
  rw [enumD_get] at hd
  cases g : ds[i]? with
  | none => rw [g] at hd; cases hd
  | some d0 =>
    rw [g] at hd; cases hd
    obtain ⟨v, hv, rv⟩ := r.get' g
    refine ⟨⟨vs, v, hH, hv⟩, fun x H' y => ?_⟩
    obtain ⟨T, x0, rfl, hT, rfl, f⟩ := y
    have ev := (f vs hH).symm.trans hv
    cases ev
    rw [Nat.zero_add]
    exact pair_grow w hT (rv.mono s)
theorem iteT_ok {e : Ent} {F₁ : Hp} {a : Addr} {vs : List V} {ds : List PyData} (h : SqT K F₁ a vs) (r : RDs K F₁ vs ds) : ItOk K (IteT K a) (enumD 0 ds) e F₁ := by
  intro σ H F env w s i
  have hH : SqT K H a vs := w.sub.sqT (s.sqT h)
  refine ⟨fun d hd => ?_, fun hl => ⟨vs, hH, by rw [enumD_len] at hl; rw [r.length]; exact hl⟩⟩
  rw [enumD_get] at hd
  cases g : ds[i]? with
  | none => rw [g] at hd; cases hd
  | some d0 =>
    rw [g] at hd; cases hd
    obtain ⟨v, hv, rv⟩ := r.get' g
    refine ⟨⟨vs, v, hH, hv⟩, fun x H' y => ?_⟩
    obtain ⟨T, x0, rfl, hT, rfl, f⟩ := y
    have ev := (f vs hH).symm.trans hv
    cases ev
    rw [Nat.zero_add]
    exact pair_grow w hT (rv.mono s)
/-- what is walked is evaluated and frozen -/
def iEnumC (c : CE) : CI := fun env => (c env).bind fun c env1 => match c.val with
  | some d => match seqOf d with
    | some ds => .ok (enumD 0 ds) env1
    | none => .no
  | none => .no
theorem di_enum {elts : List Expr} {kk : Nat} {ex : Expr} {p pos tpos : Pos} {c : CE} {t : TE} (hg : Gl X "enumerate") (hm : X.mg "enumerate" = none) (h : DE X xp W ex c t) (hs : starEach [ex] X.env = (false, eval ex X.env) :: starEach [] X.env := by rfl) :
    DI X xp W (.Tuple elts kk tpos) (.Call (.Name "enumerate" p) [ex] [] pos) (iEnumC c) (fun σ H R => iEnum X.K (tCons t tNil) σ H (fun J H1 => Fact X.K H1 → R J H1) ∨ iEnumT X.K (tCons t tNil) σ H (fun J H1 => Fact X.K H1 → R J H1)) := by
  refine ⟨PI.or (PI.fact (pi_enum hg hm (pa_cons h.1 pa_nil hs) hs)) (PI.fact (pi_enumT hg hm (pa_cons h.1 pa_nil hs) hs)), fun e σ H F env R w p => ?_⟩
  unfold iEnumC at p
  cases g : c env with
  | no => rw [g] at p; exact p.elim
  | ex x env1 => rw [g] at p; exact .inl (h.2 e σ H F env _ w (by rw [g]; exact p))
  | ok c1 env1 =>
    rw [g] at p; simp only [Res.bind] at p
    cases g2 : c1.val with
    | none => rw [g2] at p; exact p.elim
    | some d =>
      rw [g2] at p; dsimp only at p
      cases g3 : seqOf d with
      | none => rw [g3] at p; exact p.elim
      | some ds =>
        rw [g3] at p
        cases d with
        | list ds' =>
          cases g3
          refine .inl (h.2 e σ H F env _ w ?_)
          rw [g]
          intro v H' F' w' s r
          obtain ⟨F2, d2, e2, w2, s2, r2⟩ := r.freeze w'
          rw [g2] at e2; cases e2
          cases r2 with
          | lst q rs => exact ⟨_, _, rfl, w2.sub.sqL (.inl q), fun ff => p _ H' F2 w2 (s.trans s2) (ite_ok (.inl q) rs) (by rw [enumD_len, ← rs.length]; exact ff.1 _ _ (w2.sub.sqL (.inl q)))⟩
        | tuple ds' =>
          cases g3
          refine .inr (h.2 e σ H F env _ w ?_)
          rw [g]
          intro v H' F' w' s r
          obtain ⟨F2, d2, e2, w2, s2, r2⟩ := r.freeze w'
          rw [g2] at e2; cases e2
          cases r2 with
          | tup q0 rs => exact (fun q : SqT X.K F2 _ _ => ⟨_, _, rfl, w2.sub.sqT q, fun ff => p _ H' F2 w2 (s.trans s2) (iteT_ok q rs) (by rw [enumD_len, ← rs.length]; exact ff.2 _ _ (w2.sub.sqT q))⟩) (.inl (.inl q0))
        | none => cases g3
        | bool b => cases g3
        | int b => cases g3
        | str b => cases g3
        | dict b => cases g3

/-! ### xs.extend(list or tuple) -/
theorem mt_extL : MtR X "list.extend" (rExtL X.K) := by
  intro pins s σ H x vs v us Q I rx rv h
  obtain ⟨l, b, xs, zs, rfl, rfl, hH, hB, hz, q⟩ := h
  cases (show v = Value.ref l from rx)
  obtain ⟨u, rfl, ru⟩ := rv.one
  cases (show u = Value.ref b from ru)
  obtain ⟨z, its, n, r, hl, e⟩ := I.lstM hH
  obtain ⟨z2, its2, n2, r2, hl2, e2⟩ := lst_of I hB
  have sz : its.toArray.size + its2.toArray.size ≤ sizeLine := by simp only [List.size_toArray]; omega
  refine call_meets F.slot_list_extend ⟨_, e, rfl⟩ F.entry_list_extend (F.args_list_extend_2 _ _)
    (AutoSeq1.list_extend_list_list_0 l its.toArray n b its2.toArray n2 (by rw [notLongL sz, Bool.and_false]; decide) (by simp only [List.size_toArray]; omega) (by omega)) ⟨e, e2, .non, _, I.lset (its' := its ++ its2) hH e (by simp) (r.append r2) (by rw [List.length_append]; exact hz), rfl, q⟩
def rExtT (K : PySem.W.Frag) : V → List V → Hp → VK → Prop := fun x vs H Q => ∃ l b xs zs, x = .ref l ∧ vs = [.ref b] ∧ H l = some (.lst xs) ∧ SqT K H b zs ∧ xs.length + zs.length ≤ sizeLine ∧ Q .non (upd H l (.lst (xs ++ zs)))
theorem meets_extT (l : Addr) (items : Array Value) (n : Nat) (b : Addr) (items2 : Array Value) (n2 : Nat) (dct : Option Addr) (sl : Array (Option Value)) (h0 : ¬(!items.isEmpty && Builtin.List.listTooLong (items.size + items2.size)) = true) (h1 : items.size ≤ sizeLine) (h2 : items.size + items2.size ≤ sizeLine + 1) :
    Meets (Builtin.«list.extend» ⟨[.ref l, .ref b], []⟩) (fun _ R s => s.heap.get? l = some { cls := .type "list", data := .seq items n } ∧ s.heap.get? b = some { cls := .type "tuple", dict := dct, data := .seq items2 n2, slots := sl } ∧ R (.ok (.ret Value.none)) { s with heap := s.heap.update l (Obj.mapSeq fun x => x ++ items2) }) := by
  refine .of_wp fun prog w A R s h => ?_
  obtain ⟨hp, g, d, tk, os⟩ := s
  obtain ⟨hl, hb, h⟩ := h
  have g1 := AutoSeq1.idx_int
  have g2 := AutoSeq1.sub_tuple_tuple
  have g3 := AutoSeq1.sub_list_list
  have g4 := AutoSeq1.sub_tuple_list
  have g5 := AutoSeq1.sub_list_tuple
  have hz : (items ++ items2).size ≤ sizeLine + 1 := Nat.le_trans (Nat.le_of_eq Array.size_append) h2
  wp_walk using (PySem.wpAny_updateSeq hl rfl (hz := h1) (_hz' := hz)), AutoSeq1.wpAny_loadPart' hl, AutoSeq1.wpAny_loadPart' hb
  exact ⟨_, rfl, h⟩
theorem mt_extT : MtR X "list.extend" (rExtT X.K) := by
  intro pins s σ H x vs v us Q I rx rv h
  obtain ⟨l, b, xs, zs, rfl, rfl, hH, hB, hz, q⟩ := h
  cases (show v = Value.ref l from rx)
  obtain ⟨u, rfl, ru⟩ := rv.one
  cases (show u = Value.ref b from ru)
  obtain ⟨z, its, n, r, hl, e⟩ := I.lstM hH
  obtain ⟨its2, r2, ⟨⟨c, dc, dt, sl⟩, g1, g2, n2, g3⟩, z2⟩ := I.tuple hB
  cases (show c = .type "tuple" from g2)
  cases (show dt = .seq its2.toArray n2 from g3)
  have l2 := r2.length
  have sz : its.toArray.size + its2.toArray.size ≤ sizeLine := by simp only [List.size_toArray]; omega
  refine call_meets F.slot_list_extend ⟨_, e, rfl⟩ F.entry_list_extend (F.args_list_extend_2 _ _)
    (meets_extT l its.toArray n b its2.toArray n2 dc sl (by rw [notLongL sz, Bool.and_false]; decide) (by simp only [List.size_toArray]; omega) (by omega)) ⟨e, g1, .non, _, I.lset (its' := its ++ its2) hH e (by simp) (r.append r2) (by rw [List.length_append]; exact hz), rfl, q⟩
theorem mt_ext : MtR X "list.extend" (fun x xs H Q => rExtL X.K x xs H Q ∨ rExtT X.K x xs H Q) := MtR.or mt_extL mt_extT
theorem ok_extend : OpMOk K (fun x xs H Q => rExtL K x xs H Q ∨ rExtT K x xs H Q) mExtend := by
  intro a u d xs ds H F Q s h n k r p
  unfold mExtend at p
  split at p
  · split at p
    · rename_i ds es hl
      cases k with
      | lst rk =>
        cases r with
        | cons r1 r2 =>
          cases r2
          cases r1 with
          | lst q rs => exact .inl ⟨a, _, _, _, rfl, rfl, h, s.rd _ _ trivial q, lim_le (by rw [rk.length, rs.length]; exact hl), p.non s h n (rk.append rs)⟩
    · exact p.elim
  · split at p
    · rename_i ds es hl
      cases k with
      | lst rk =>
        cases r with
        | cons r1 r2 =>
          cases r2
          cases r1 with
          | tup q rs => exact .inr ⟨a, _, _, _, rfl, rfl, h, .inl (.inl (s.tp _ _ q)), lim_le (by rw [rk.length, rs.length]; exact hl), p.non s h n (rk.append rs)⟩
    · exact p.elim
  · exact p.elim
end
end DL

/-! DLR: a, b = .. ; constants of the module; names of built-ins. -/
namespace DL
open PySem PySem.Spec PyProof.Rows L2
section
variable {X : Cx} {xp : XP} {W : WX} {K : PySem.W.Frag}
theorem hu64 {k : Nat} {A : Around} (hr : Room k A) : A.units + 64 < cLine := by have := hr.un; omega
theorem hu65 {k : Nat} {A : Around} (hr : Room k A) : A.units + 65 < cLine := by have := hr.un; omega
/-- a, b = a tuple -/
def cUnp (g : Tg) (c : CE) : CS := fun env => match c env with
  | .ok c env1 => match c.val with
    | some d => match g.put d env1 with
      | some env2 => .nx env2
      | none => .no
    | none => .no
  | .ex x env1 => .ex x env1
  | .no => .no
theorem ds_unp {tg ex : Expr} {g : Tg} {gt : TG} {c : CE} {t : TE} {pos : Pos} (h : DE X xp W ex c t) (hg : DG X tg g gt) (hs : swapsWithSole [tg] ex pos.line X.env = pure false := by rfl) (hw : swappedStores [tg] ex X.env = pure none := by rfl)
    (h1 : (assignEach [tg] X.env).map (·.2) = [assign tg X.env] := by rfl) : DS X xp W (.Assign [tg] ex pos) (cUnp g c) := by
  refine ⟨_, ps_asg h.1 hg.1 hs hw h1, fun e σ H F env D w q => h.2 e σ H F env _ w ?_⟩
  unfold cUnp at q
  cases gc : c env with
  | no => rw [gc] at q; exact q
  | ex x env1 => rw [gc] at q; exact fun H' F' cls d w' s y => q σ H' F' cls d w' s y
  | ok c1 env1 =>
    rw [gc] at q; dsimp only at q
    intro v H' F' w' s r
    obtain ⟨F2, d, ev, w2, s2, r2⟩ := r.freeze w'
    rw [ev] at q; dsimp only at q
    cases gp : g.put d env1 with
    | none => rw [gp] at q; exact q.elim
    | some env2 =>
      rw [gp] at q
      exact hg.2 e σ H' F2 env1 env2 v d _ w2 r2 gp fun σ' w3 _ => q σ' H' F2 w3 (s.trans s2)
/-- a, b = e1, e2 -/
def cPar (i j : Nat) (c d : CE) : CS := fun env => match c env with
  | .ok c1 env1 => match d env1 with
    | .ok d1 env2 => match isLck (env2.getD i .emp) || isLck (env2.getD j .emp) with
      | true => .no
      | false => .nx ((env2.set i c1.asg).set j d1.asg)
    | .ex x env2 => .ex x env2
    | .no => .no
  | .ex x env1 => .ex x env1
  | .no => .no
/-- what was given lives through what comes -/
theorem RC.live {e : Ent} {σ : L2.St} {H F H' F' : Hp} {env env' : Cs} {v : V} {c : Cell} (w : Wl K e σ H F env) (w' : Wl K (turnE e σ H F env) σ H' F' env') (s : Sub F F') (h : RC K e σ H F env v c) : RC K e σ H' F' env' v c := by
  cases c with
  | frz d => exact RD.mono s h
  | own b d =>
    obtain ⟨p, u, rfl, h1, n1, k1, m, no⟩ := h
    have np : ¬ (turnE e σ H F env).P p := fun ⟨j, b, d, hc, hx⟩ => no j _ hc rfl hx
    refine ⟨p, u, rfl, w'.keep p u h1 np, ?_, k1.mono s, m, fun j c hc hm hx => ?_⟩
    · cases z : F' p with
      | none => rfl
      | some o =>
        rcases w'.new p (by rw [z]; exact fun y => nomatch y) with y | y | y
        · exact absurd n1 y
        · exact (NewA.no (H := H) y h1 k1.mut).elim
        · exact (np y).elim
    · cases c with
      | own b2 d2 =>
        rcases w'.mine j b2 d2 p hc hx with y | y
        · have y' : H p = none := y
          rw [h1] at y'; cases y'
        · exact np y
      | lck d2 => exact no j _ (w.lk j d2 (w'.lk2 j d2 hc)) rfl hx
      | emp => cases hm
      | frz d2 => cases hm
      | exc x => cases hm
  | emp => exact h.elim
  | lck d => exact h.elim
  | exc x => exact h.elim
theorem RC.set {e : Ent} {σ : L2.St} {H F : Hp} {env : Cs} {v u : V} {c c2 : Cell} {i : Nat} (h : RC K e σ H F env v c) (h2 : RC K e σ H F env u c2) (ne : ∀ b d b2 d2, c = .own b d → c2 = .own b2 d2 → v ≠ u) : RC K e (σ.set i (some u)) H F (env.set i c2.asg) v c := by
  cases c with
  | frz d => exact h
  | own b d =>
    obtain ⟨p, o, rfl, h1, n1, k1, m, no⟩ := h
    refine ⟨p, o, rfl, h1, n1, k1, m, fun j c hc hm hx => ?_⟩
    by_cases z : i = j
    · subst z
      have hi : i < env.length := by simpa using (List.getElem?_eq_some_iff.mp hc).1
      have hj : i < σ.length := by simpa using (List.getElem?_eq_some_iff.mp hx).1
      rw [List.getElem?_set_self hi] at hc
      rw [List.getElem?_set_self hj] at hx
      cases hc
      cases hx
      cases c2 with
      | own b2 d2 => exact ne b d b2 d2 rfl rfl rfl
      | frz d2 => cases hm
      | emp => exact h2.elim
      | lck d2 => exact h2.elim
      | exc x => exact h2.elim
    · rw [List.getElem?_set_ne z] at hc hx
      exact no j c hc hm hx
  | emp => exact h.elim
  | lck d => exact h.elim
  | exc x => exact h.elim
theorem ds_par {i j : Nat} {x y : Str} {a b : Expr} {ca cb : CE} {ta tb : TE} {px py pt : Pos} {kt k2 pt2} {pos : Pos} (hc : X.calm = true) (hN : X.N.Nodup) (hi : X.N[i]? = some x) (hj : X.N[j]? = some y) (hij : i ≠ j)
    (hx : X.env.scope.names.lookup x = some .local) (hy : X.env.scope.names.lookup y = some .local) (ha : DE X xp W a ca ta) (hb : DE X xp W b cb tb)
    (hw : swappedStores [.Tuple [.Name x px, .Name y py] kt pt] (.Tuple [a, b] k2 pt2) X.env = pure (some [x, y]))
    (hs1 : starEach [a, b] X.env = (false, eval a X.env) :: starEach [b] X.env := by rfl) (hs2 : starEach [b] X.env = (false, eval b X.env) :: starEach [] X.env := by rfl)
    (hs : swapsWithSole [.Tuple [.Name x px, .Name y py] kt pt] (.Tuple [a, b] k2 pt2) pos.line X.env = pure false := by rfl) :
    DS X xp W (.Assign [.Tuple [.Name x px, .Name y py] kt pt] (.Tuple [a, b] k2 pt2) pos) (cPar i j ca cb) := by
  refine ⟨_, ps_par hc hN hi hj hij hx hy (pa_cons ha.1 (pa_cons hb.1 pa_nil hs2) hs1) hw hs, fun e σ H F env D w q => ha.2 e σ H F env _ w ?_⟩
  unfold cPar at q
  cases gc : ca env with
  | no => rw [gc] at q; exact q
  | ex x env1 => rw [gc] at q; exact fun H' F' cls d w' s y => q σ H' F' cls d w' s y
  | ok c1 env1 =>
    rw [gc] at q; dsimp only at q
    intro v H1 F1 w1 s1 r1
    refine hb.2 (turnE e σ H1 F1 env1) σ H1 F1 env1 _ w1.enter ?_
    cases gd : cb env1 with
    | no => rw [gd] at q; exact q
    | ex x env2 => rw [gd] at q; exact fun H' F' cls d w' s y => q σ H' F' cls d (w1.leave w') (s1.trans s) y
    | ok d1 env2 =>
      rw [gd] at q; dsimp only at q
      intro u H2 F2 w2 s2 r2
      have wl := w1.leave w2
      have rv := RC.live w1 w2 s2 r1
      have ru : RC X.K e σ H2 F2 env2 u d1 := by
        cases d1 with
        | frz d => exact r2
        | own b d =>
          obtain ⟨p, o, rfl, h1, n1, k1, m, no⟩ := r2
          refine ⟨p, o, rfl, h1, n1, k1, ?_, no⟩
          rcases m with m | ⟨j, b, d, hc, hx⟩
          · exact w1.old m
          · exact w1.mine j b d p hc hx
        | emp => exact r2.elim
        | lck d => exact r2.elim
        | exc x => exact r2.elim
      have ne : ∀ b d b2 d2, d1 = .own b d → c1 = .own b2 d2 → u ≠ v := by
        rintro b d b2 d2 rfl rfl z
        obtain ⟨p, o, e1, h1, n1, k1, m, no⟩ := r1
        obtain ⟨p2, o2, e2, h2, n2, k2', m2, no2⟩ := r2
        rw [e1, e2] at z
        have ep : p2 = p := V.ref.inj z
        rw [ep] at m2
        rcases m2 with m2 | ⟨j, b, d, hc, hx⟩
        · have y' : H1 p = none := m2
          rw [h1] at y'; cases y'
        · exact no j _ hc rfl hx
      cases gl : isLck (env2.getD i .emp) || isLck (env2.getD j .emp) with
      | true => rw [gl] at q; exact q.elim
      | false =>
        rw [gl] at q
        rw [Bool.or_eq_false_iff] at gl
        refine ⟨v, u, rfl, q _ H2 F2 ?_ (s1.trans s2)⟩
        have wi := wl.putC (nolck wl gl.1) rv
        refine wi.putC ?_ (RC.set ru rv ne)
        have n2 : isLck ((env2.set i c1.asg).getD j .emp) = false := by
          rw [List.getD_eq_getElem?_getD, List.getElem?_set_ne hij, ← List.getD_eq_getElem?_getD]; exact gl.2
        exact nolck wi n2
/-! ### constants of the module -/
theorem de_glI {x : Str} {i : Int} {pos : Pos} (hg : Gl X x) (hm : ∃ t, X.mg x = some (.int i t)) (hd : (x == ("__debug__" : Str)) = false := by decide) : DE X xp W (.Name x pos) (cK (.int i)) (tC (.int i)) :=
  let ⟨t, h⟩ := hm; de_k (pe_glob hg h ⟨t, rfl⟩ hd) fun _ => .int i
theorem de_glS {x : Str} {i : Str} {pos : Pos} (hg : Gl X x) (hm : ∃ t, X.mg x = some (.str i t)) (hd : (x == ("__debug__" : Str)) = false := by decide) : DE X xp W (.Name x pos) (cK (.str i)) (tC (.str i)) :=
  let ⟨t, h⟩ := hm; de_k (pe_glob hg h ⟨t, rfl⟩ hd) fun _ => .str i
def cNeg (o : Opd) : CE := fun env => (o.ev env).bind fun l env1 => match l.get env1 with
  | some (.int i) => .ok (.frz (.int (-i))) env1
  | _ => .no
theorem de_neg {a : Expr} {o : Opd} {ta : TE} {pos : Pos} (ha : DO X xp W a o ta) : DE X xp W (.UnaryOp .USub a pos) (cNeg o) (tUn (rU fun i => .int (-i)) ta) := by
  refine ⟨pe_un un_neg ha.pe, fun e σ H F env Q w q => ?_⟩
  unfold cNeg at q
  refine ha.run w (fun x env1 H' F' cls d g w' s y => ?_) (fun g => ?_) fun l env1 v H1 F1 g w1 s1 l1 => ?_
  · rw [g] at q; exact q H' F' cls d w' s y
  · rw [g] at q; exact q
  · rw [g] at q; simp only [Res.bind] at q
    cases g1 : l.get env1 with
    | none => rw [g1] at q; exact q.elim
    | some d =>
      rw [g1] at q
      cases d with
      | int i => exact ⟨i, (RB.of w1 l1 g1).int, q _ H1 F1 w1 s1 (.int _)⟩
      | _ => exact q.elim
end
def xp0 : XP := fun _ _ _ _ => False
theorem bt_abs : bootBuiltins "abs" = some (.builtin "abs") := by decide +kernel
theorem bt_max : bootBuiltins "max" = some (.builtin "max") := by decide +kernel
theorem bt_min : bootBuiltins "min" = some (.builtin "min") := by decide +kernel
theorem bt_sum : bootBuiltins "sum" = some (.builtin "sum") := by decide +kernel
theorem bt_all : bootBuiltins "all" = some (.builtin "all") := by decide +kernel
theorem bt_any : bootBuiltins "any" = some (.builtin "any") := by decide +kernel
theorem bt_len : bootBuiltins "len" = some (.builtin "len") := by decide +kernel
theorem bt_divmod : bootBuiltins "divmod" = some (.builtin "divmod") := by decide +kernel
theorem bt_sorted : bootBuiltins "sorted" = some (.builtin "sorted") := by decide +kernel
theorem bt_repr : bootBuiltins "repr" = some (.builtin "repr") := by decide +kernel
theorem bt_list : bootBuiltins "list" = some (.type "list") := by decide +kernel
theorem bt_tuple : bootBuiltins "tuple" = some (.type "tuple") := by decide +kernel
theorem bt_int : bootBuiltins "int" = some (.type "int") := by decide +kernel
theorem bt_str : bootBuiltins "str" = some (.type "str") := by decide +kernel
theorem bt_bool : bootBuiltins "bool" = some (.type "bool") := by decide +kernel
theorem bt_dict : bootBuiltins "dict" = some (.type "dict") := by decide +kernel
theorem bt_set : bootBuiltins "set" = some (.type "set") := by decide +kernel
end DL

/-! DLS: range with a step of -1, list(range), walks of the def's own list. -/
namespace DL
open PySem PySem.Spec PyProof.Rows L2
section
variable {X : Cx} {xp : XP} {W : WX} {K : PySem.W.Frag}
/-- downwards from a, as long as it is above b -/
def rgDown (a : Int) (n : Nat) : List PyData := (List.range n).map fun i => .int (a - (i : Nat))
theorem rgDown_len (a : Int) (n : Nat) : (rgDown a n).length = n := by unfold rgDown; simp
theorem itc_ok {e : Ent} {F₁ : Hp} (a : Int) (n : Nat) : ItOk K (Itc a (-1) n) (rgDown a n) e F₁ := by
  intro σ H F env w s i
  refine ⟨fun d hd => ?_, fun hl => by rw [rgDown_len] at hl; exact Nat.le_of_eq hl⟩
  unfold rgDown at hd
  rw [List.getElem?_map] at hd
  by_cases h : i < n
  · rw [List.getElem?_range h] at hd; cases hd
    refine ⟨h, fun x H' y => ?_⟩
    obtain ⟨rfl, rfl⟩ := y
    refine ⟨F, .refl w.sub, ?_⟩
    have e1 : a + ((i : Nat) : Int) * (-1) = a - (i : Nat) := by omega
    rw [e1]; exact .int _
  · rw [List.getElem?_eq_none (by simp; omega)] at hd; cases hd
def rg3 : List PyData → Option (List PyData)
  | [.int a, .int b, .int c] => if c = -1 ∧ (-1000000 ≤ a ∧ a ≤ 1000000) ∧ -1000000 ≤ b ∧ b ≤ 1000000 then some (rgDown a (a - b).toNat) else none
  | _ => none
theorem RBs.three {H F : Hp} {vs : List V} {d d' d2 : PyData} (h : RBs K H F vs [d, d', d2]) : ∃ v v' u, vs = [v, v', u] ∧ RB K H F v d ∧ RB K H F v' d' ∧ RB K H F u d2 := by
  cases h with | cons a b => cases b with | cons c e => cases e with | cons f g => cases g; exact ⟨_, _, _, rfl, a, c, f⟩
theorem di_range3 {tg a b c : Expr} {p pos : Pos} {os : List Opd} {ta : TA} (hg : Gl X "range") (hm : X.mg "range" = none) (ha : DA X xp W [a, b, c] os ta)
    (hs : starEach [a, b, c] X.env = (false, eval a X.env) :: starEach [b, c] X.env := by rfl) (hpl : (backTo pos (starEach [b, c] X.env)).any (·.1) = false := by rfl) :
    DI X xp W tg (.Call (.Name "range" p) [a, b, c] [] pos) (iArgs rg3 os) (iRng3 ta) := by
  refine ⟨pi_range3 hg hm ha.1 hs hpl, fun e σ H F env R w q => ?_⟩
  refine iArgs_run (wr := fun R vs H1 => ∃ (i j c : Int) (n : Nat), vs = [.int i, .int j, .int c] ∧ RgC i j c n ∧ R (Itc i c n) H1) ha (fun R vs ds items e σ H F env w r k h => ?_) w q
  unfold rg3 at k
  split at k
  · rename_i a b c
    obtain ⟨v, v', u, rfl, rv, rv', ru⟩ := r.three
    split at k
    · rename_i hn
      cases k
      obtain ⟨rfl, hn⟩ := hn
      exact ⟨a, b, -1, _, by rw [rv.int, rv'.int, ru.int], RgC.neg (by omega) (by omega) (by omega) (by omega), h _ F (.refl _) w (itc_ok a _) (by rw [rgDown_len]; exact Nat.le_trans (show (a - b).toNat ≤ 2000000 by omega) (by decide))⟩
    · cases k
  · cases k
/-! ### list(range(..)), tuple(range(..)) -/
def rgL (a b : Int) : List PyData := rgD a (b - a).toNat
def cRg1 (k : List PyData → OR) (o : Opd) : CE := fun env => (o.ev env).bind fun l env1 => match l.get env1 with
  | some (.int n) => if -1000000 ≤ n ∧ n ≤ 1000000 then (k (rgL 0 n)).fin env1 else .no
  | _ => .no
theorem rgV_rds {F : Hp} (a b : Int) : RDs K F (rgV a b) (rgL a b) := by
  have e : rgV a b = (List.range (b - a).toNat).map fun i => V.int (a + (i : Nat)) := by
    unfold rgV; first | rfl | simp
  rw [e]
  unfold rgL rgD
  generalize List.range (b - a).toNat = l
  induction l with
  | nil => exact .nil
  | cons x l ih => exact .cons (.int _) ih
theorem cRg1_run {a : Expr} {o : Opd} {ta : TE} {k : List PyData → OR} {kk : Int → Int → Hp → VK → Prop} (ha : DO X xp W a o ta) (hk : ∀ n H F Q, Sub F H → -1000000 ≤ n → n ≤ 1000000 → OPost X.K H F Q (k (rgL 0 n)) → kk 0 n H Q)
    {e : Ent} {σ : L2.St} {H F : Hp} {env : Cs} {Q : VK} (w : Wl X.K e σ H F env) (q : Post X.K xp W e σ F Q (cRg1 k o env)) : tRg1 ta σ H (fun a b H1 => kk a b H1 Q) := by
  unfold cRg1 at q
  refine ha.run w (fun x env1 H' F' cls d g w' s y => ?_) (fun g => ?_) fun l env1 v H1 F1 g w1 s1 l1 => ?_
  · rw [g] at q; exact q H' F' cls d w' s y
  · rw [g] at q; exact q
  · rw [g] at q; simp only [Res.bind] at q
    cases g1 : l.get env1 with
    | none => rw [g1] at q; exact q.elim
    | some d =>
      rw [g1] at q
      cases d with
      | int n =>
        dsimp only at q
        split at q
        · rename_i hn
          exact ⟨n, (RB.of w1 l1 g1).int, hk n H1 F1 Q w1.sub hn.1 hn.2 (.of w1 s1 q)⟩
        · exact q.elim
      | _ => exact q.elim
theorem de_listRg1 {a : Expr} {o : Opd} {ta : TE} {p p2 pos pos2 : Pos} (hc : X.calm = true) (hg : Gl X "list") (hm : X.mg "list" = none) (hg2 : Gl X "range") (hm2 : X.mg "range" = none) (ha : DO X xp W a o ta)
    (na : starEach [a] X.env = (false, eval a X.env) :: starEach [] X.env := by rfl) (nb : starEach [.Call (.Name "range" p2) [a] [] pos2] X.env = (false, eval (.Call (.Name "range" p2) [a] [] pos2) X.env) :: starEach [] X.env := by rfl) :
    DE X xp W (.Call (.Name "list" p) [.Call (.Name "range" p2) [a] [] pos2] [] pos) (cRg1 (fun ds => .val (.own false (.list ds))) o) (tLstRg (tRg1 ta)) :=
  ⟨pe_listRg hc hg hm (prg_1 hg2 hm2 ha.pe na) nb, fun e σ H F env Q w q => cRg1_run (kk := fun a b H1 Q => RgOk a b ∧ ∀ q, H1 q = none → Q (.ref q) (upd H1 q (.lst (rgV a b)))) ha (fun n H F Q s h1 h2 h => ⟨⟨by omega, by omega, by omega, by omega, by omega⟩, h.newL s (rgV_rds 0 n)⟩) w q⟩
theorem de_tupRg1 {a : Expr} {o : Opd} {ta : TE} {p p2 pos pos2 : Pos} (hc : X.calm = true) (hg : Gl X "tuple") (hm : X.mg "tuple" = none) (hg2 : Gl X "range") (hm2 : X.mg "range" = none) (ha : DO X xp W a o ta)
    (na : starEach [a] X.env = (false, eval a X.env) :: starEach [] X.env := by rfl) (nb : starEach [.Call (.Name "range" p2) [a] [] pos2] X.env = (false, eval (.Call (.Name "range" p2) [a] [] pos2) X.env) :: starEach [] X.env := by rfl) :
    DE X xp W (.Call (.Name "tuple" p) [.Call (.Name "range" p2) [a] [] pos2] [] pos) (cRg1 (fun ds => .val (.frz (.tuple ds))) o) (tTupRg (tRg1 ta)) :=
  ⟨pe_tupRg hc hg hm (prg_1 hg2 hm2 ha.pe na) nb, fun e σ H F env Q w q => cRg1_run (kk := fun a b H1 Q => RgOk a b ∧ ∀ q, H1 q = none → Q (.ref q) (upd H1 q (.tup (rgV a b)))) ha (fun n H F Q s h1 h2 h => ⟨⟨by omega, by omega, by omega, by omega, by omega⟩, h.newT s (rgV_rds 0 n)⟩) w q⟩

/-! ### the def's own list is walked: locked meanwhile -/
def lockE (e : Ent) (i : Nat) (d : PyData) (v : V) : Ent := { e with pin := fun j => if j = i then some v else e.pin j, lk := fun j => if j = i then some d else e.lk j }
section
variable {e : Ent} {σ σ' : L2.St} {H F H' F' : Hp} {env env' : Cs} {i : Nat} {b : Bool} {d : PyData} {v : V}
theorem Wl.lock (w : Wl K e σ H F env) (h : env[i]? = some (.own b d)) (hx : σ[i]? = some (some v)) : Wl K (lockE e i d v) σ H F (env.set i (.lck d)) := by
  have hl : i < env.length := (List.getElem?_eq_some_iff.mp h).1
  have mn : ∀ {j : Nat} {c : Cell}, (env.set i (.lck d))[j]? = some c → c.mine = true → ∃ c', env[j]? = some c' ∧ c'.mine = true := fun {j c} hc hm => by
    by_cases z : i = j
    · subst z; exact ⟨_, h, rfl⟩
    · rw [List.getElem?_set_ne z] at hc; exact ⟨c, hc, hm⟩
  refine ⟨by rw [List.length_set]; exact w.len, w.sub, ?_, ?_, w.keep, w.new, ?_, ?_, ?_, ?_⟩
  · intro j c x hc hx'
    by_cases z : i = j
    · subst z; rw [List.getElem?_set_self hl] at hc; cases hc; have q := w.cell i _ x h hx'; exact q
    · rw [List.getElem?_set_ne z] at hc; exact w.cell j c x hc hx'
  · intro j k c1 c2 a n h1 h2 m1 m2 x1 x2
    obtain ⟨c1', g1, n1⟩ := mn h1 m1
    obtain ⟨c2', g2, n2⟩ := mn h2 m2
    exact w.apart j k c1' c2' a n g1 g2 n1 n2 x1 x2
  · intro j b2 d2 a hc hx'
    by_cases z : i = j
    · subst z; rw [List.getElem?_set_self hl] at hc; cases hc
    · rw [List.getElem?_set_ne z] at hc; exact w.mine j b2 d2 a hc hx'
  · intro j c hc hk
    by_cases z : i = j
    · subst z; exact ⟨v, if_pos rfl, hx⟩
    · rw [List.getElem?_set_ne z] at hc
      obtain ⟨u, h1, h2⟩ := w.pin j c hc hk
      exact ⟨u, (if_neg (Ne.symm z)).trans h1, h2⟩
  · intro j d2 hj
    by_cases z : j = i
    · have hj' : some d = some d2 := (if_pos z).symm.trans hj
      cases hj'
      rw [z, List.getElem?_set_self hl]
    · have hj' : e.lk j = some d2 := (if_neg z).symm.trans hj
      rw [List.getElem?_set_ne (Ne.symm z)]; exact w.lk j d2 hj'
  · intro j d2 hc
    by_cases z : j = i
    · rw [z, List.getElem?_set_self hl] at hc; cases hc
      exact if_pos z
    · rw [List.getElem?_set_ne (Ne.symm z)] at hc
      exact (if_neg z).trans (w.lk2 j d2 hc)
theorem Wl.unlock (w : Wl K e σ H F env) (h : env[i]? = some (.own b d)) (hx : σ[i]? = some (some v)) (w' : Wl K (lockE e i d v) σ' H' F' env') : Wl K e σ' H' F' (env'.set i (.own b d)) := by
  have hi : env'[i]? = some (.lck d) := w'.lk i d (if_pos rfl)
  have hl : i < env'.length := (List.getElem?_eq_some_iff.mp hi).1
  obtain ⟨u0, p1, p2⟩ := w'.pin i _ hi (.inr ⟨d, rfl⟩)
  have ev : u0 = v := (Option.some.inj ((if_pos rfl).symm.trans p1)).symm
  subst ev
  have nk : e.lk i = none := w.lkn fun d z => by rw [h] at z; cases z
  have mn : ∀ {j : Nat} {c : Cell}, (env'.set i (.own b d))[j]? = some c → c.mine = true → ∃ c', env'[j]? = some c' ∧ c'.mine = true := fun {j c} hc hm => by
    by_cases z : i = j
    · subst z; exact ⟨_, hi, rfl⟩
    · rw [List.getElem?_set_ne z] at hc; exact ⟨c, hc, hm⟩
  refine ⟨by rw [List.length_set]; exact w'.len, w'.sub, ?_, ?_, w'.keep, w'.new, ?_, ?_, ?_, ?_⟩
  · intro j c x hc hx'
    by_cases z : i = j
    · subst z; rw [List.getElem?_set_self hl] at hc; cases hc; have q := w'.cell i _ x hi hx'; exact q
    · rw [List.getElem?_set_ne z] at hc; exact w'.cell j c x hc hx'
  · intro j k c1 c2 a n h1 h2 m1 m2 x1 x2
    obtain ⟨c1', g1, n1⟩ := mn h1 m1
    obtain ⟨c2', g2, n2⟩ := mn h2 m2
    exact w'.apart j k c1' c2' a n g1 g2 n1 n2 x1 x2
  · intro j b2 d2 a hc hx'
    by_cases z : i = j
    · subst z
      rw [p2] at hx'; cases hx'
      exact w.mine i b d a h hx
    · rw [List.getElem?_set_ne z] at hc; exact w'.mine j b2 d2 a hc hx'
  · intro j c hc hk
    by_cases z : i = j
    · subst z
      rw [List.getElem?_set_self hl] at hc; cases hc
      rcases hk with ⟨d2, q⟩ | ⟨d2, q⟩
      · cases q
        obtain ⟨v2, q1, q2⟩ := w.pin i _ h (.inl ⟨d, rfl⟩)
        rw [hx] at q2; cases q2
        exact ⟨u0, q1, p2⟩
      · cases q
    · rw [List.getElem?_set_ne z] at hc
      obtain ⟨u, h1, h2⟩ := w'.pin j c hc hk
      exact ⟨u, (if_neg (Ne.symm z)).symm.trans h1, h2⟩
  · intro j d2 hj
    have z : j ≠ i := fun z => by rw [z, nk] at hj; cases hj
    rw [List.getElem?_set_ne (Ne.symm z)]
    exact w'.lk j d2 ((if_neg z).trans hj)
  · intro j d2 hc
    by_cases z : j = i
    · rw [z, List.getElem?_set_self hl] at hc; cases hc
    · rw [List.getElem?_set_ne (Ne.symm z)] at hc
      exact (if_neg z).symm.trans (w'.lk2 j d2 hc)
theorem itlck_ok {a : Addr} {ds : List PyData} {F₁ : Hp} (hk : e.lk i = some (.list ds)) (hp : e.pin i = some (.ref a)) : ItOk K (Itl K a) ds e F₁ := by
  intro σ H F env w s j
  have hc := w.lk i _ hk
  obtain ⟨u, p1, p2⟩ := w.pin i _ hc (.inr ⟨_, rfl⟩)
  rw [hp] at p1; cases p1
  obtain ⟨a', o, e1, h1, n1, k1⟩ := w.cell i _ _ hc p2
  cases e1
  cases k1 with
  | lst r =>
    rename_i vs
    have hH : SqL K H a vs := .inl (.inl h1)
    refine ⟨fun d hd => ?_, fun hl => ⟨vs, hH, by rw [r.length]; exact Nat.le_of_eq hl⟩⟩
    obtain ⟨v, hv, rv⟩ := r.get' hd
    refine ⟨⟨vs, v, hH, hv⟩, fun x H' y => ?_⟩
    obtain ⟨rfl, f⟩ := y
    have ev := (f vs hH).symm.trans hv
    cases ev
    exact ⟨F, .refl w.sub, rv⟩
end
/-- [e for .. in x ..], x a name of the def's -/
def cCompO (i : Nat) (g : Tg) (ct : CT) (ce : CE) (vs : List Nat) : CE := fun env => match anyMineS env vs || vs.contains i with
  | true => .no
  | false => match env.getD i .emp with
    | .frz d => match seqOf d with
      | some ds => match compL g ct ce vs ds env with
        | .ok xs env2 => .ok (.own false (.list xs)) (backE env vs env2)
        | _ => .no
      | none => .no
    | .own b (.list ds) => match compL g ct ce vs ds (env.set i (.lck (.list ds))) with
      | .ok xs env2 => .ok (.own false (.list xs)) ((backE (env.set i (.lck (.list ds))) vs env2).set i (.own b (.list ds)))
      | _ => .no
    | .lck (.list ds) => match compL g ct ce vs ds env with
      | .ok xs env2 => .ok (.own false (.list xs)) (backE env vs env2)
      | _ => .no
    | _ => .no
theorem compO_post {tg iter : Expr} {i : Nat} {g : Tg} {gt : TG} {ct : CT} {tt : TT} {ce : CE} {te : TE} {vs : List Nat}
    (hg : ∀ e σ H F env env' v d Q, Wl X.K e σ H F env → RD X.K F v d → g.put d env = some env' → (∀ σ', Wl X.K e σ' H F env' → Off g.slots σ σ' → Q σ' H) → gt v σ H Q) (hgs : ∀ i ∈ g.slots, i ∈ vs)
    (ht : ∀ e σ H F env Q, Wl X.K e σ H F env → PostT X.K xp WF e σ F Q (ct env) → tt σ H Q) (he : ∀ e σ H F env Q, Wl X.K e σ H F env → Post X.K xp WF e σ F Q (ce env) → te σ H Q)
    {e : Ent} {σ : L2.St} {H F : Hp} {env : Cs} {Q : VK} (w : Wl X.K e σ H F env) (h : Post X.K xp W e σ F Q (cCompO i g ct ce vs env)) :
    tLc (fun σ H R => iList X.K (tVar i) σ H (fun J H1 => Fact X.K H1 → R J H1) ∨ iTup X.K (tVar i) σ H (fun J H1 => Fact X.K H1 → R J H1)) gt tt te vs σ H Q := by
  unfold cCompO at h
  cases ga : anyMineS env vs || vs.contains i with
  | true => rw [ga] at h; exact h.elim
  | false =>
    rw [ga] at h; dsimp only at h
    rw [Bool.or_eq_false_iff] at ga
    have hiv : i ∉ vs := fun z => by
      have := List.contains_iff_mem.mpr z
      rw [ga.2] at this; cases this
    cases gi : env.getD i .emp with
    | emp => rw [gi] at h; exact h.elim
    | exc x => rw [gi] at h; exact h.elim
    | frz d =>
      rw [gi] at h; dsimp only at h
      have hc := of_getD gi (fun z => nomatch z)
      obtain ⟨x, hx⟩ := w.slot hc
      obtain ⟨v, rfl, r⟩ := w.cell i _ _ hc hx
      cases gs : seqOf d with
      | none => rw [gs] at h; exact h.elim
      | some ds =>
        rw [gs] at h; dsimp only at h
        cases gc : compL g ct ce vs ds env with
        | no => rw [gc] at h; exact h.elim
        | ex x env2 => rw [gc] at h; exact h.elim
        | ok xs env2 =>
          rw [gc] at h
          have fin : ∀ J, ItOk X.K J ds e F → ds.length ≤ sizeLine → ∀ D, H D = none → _ := fun J it hz D hD =>
            comp_run (X := X) (tg := tg) (xp' := xp) (Q := Q) hg hgs ht he w it hz hD (anyMineS_no ga.1) gc fun H' F' w' s' _ vx hd hn r no => h (.ref D) H' F' w' s' ⟨D, _, rfl, hd, hn, .lst r, w.old hD, no⟩
          cases d with
          | list ds' =>
            cases gs
            cases r with
            | lst q rs => exact .inl ⟨_, hx, _, rfl, ⟨_, w.sub.sqL (.inl q)⟩, fun ff D hD => fin _ (itl_ok (.inl q) rs) (by rw [← rs.length]; exact ff.1 _ _ (w.sub.sqL (.inl q))) D hD⟩
          | tuple ds' =>
            cases gs
            cases r with
            | tup q0 rs => exact (fun q : SqT X.K F _ _ => .inr ⟨_, hx, _, rfl, ⟨_, w.sub.sqT q⟩, fun ff D hD => fin _ (itt_ok q rs) (by rw [← rs.length]; exact ff.2 _ _ (w.sub.sqT q)) D hD⟩) (.inl (.inl q0))
          | _ => cases gs
    | own b d =>
      rw [gi] at h
      have hc := of_getD gi (fun z => nomatch z)
      obtain ⟨x, hx⟩ := w.slot hc
      obtain ⟨a, u, rfl, h1, n1, k1⟩ := w.cell i _ _ hc hx
      cases d with
      | list ds =>
        dsimp only at h
        cases gc : compL g ct ce vs ds (env.set i (.lck (.list ds))) with
        | no => rw [gc] at h; exact h.elim
        | ex x env2 => rw [gc] at h; exact h.elim
        | ok xs env2 =>
          rw [gc] at h
          cases k1 with
          | lst rs =>
            have wk := w.lock hc hx
            have hm : ∀ v ∈ vs, ((env.set i (.lck (.list ds))).getD v .emp).mine = false := fun v hv => by
              have ne : i ≠ v := fun z => hiv (by rw [z]; exact hv)
              rw [List.getD_eq_getElem?_getD, List.getElem?_set_ne ne, ← List.getD_eq_getElem?_getD]; exact anyMineS_no ga.1 v hv
            refine .inl ⟨_, hx, a, rfl, ⟨_, .inl (.inl h1)⟩, fun ff D hD => ?_⟩
            refine comp_run (X := X) (tg := tg) (xp' := xp) hg hgs ht he wk (itlck_ok (i := i) (if_pos rfl) (if_pos rfl)) (by rw [← rs.length]; exact ff.1 _ _ (.inl (.inl h1))) hD hm gc fun H' F' w' s' _ vx hd hn r no => ?_
            have wu := w.unlock hc hx w'
            refine h (.ref D) H' F' wu s' ⟨D, _, rfl, hd, hn, .lst r, w.old hD, fun j c hj hmn hxj => ?_⟩
            have hi : (backE (env.set i (.lck (.list ds))) vs env2)[i]? = some (.lck (.list ds)) := w'.lk i _ (if_pos rfl)
            by_cases z : i = j
            · subst z; exact no i _ hi rfl hxj
            · rw [List.getElem?_set_ne z] at hj; exact no j c hj hmn hxj
      | _ => exact h.elim
    | lck d =>
      rw [gi] at h
      have hc := of_getD gi (fun z => nomatch z)
      obtain ⟨x, hx⟩ := w.slot hc
      obtain ⟨a, u, rfl, h1, n1, k1⟩ := w.cell i _ _ hc hx
      cases d with
      | list ds =>
        dsimp only at h
        cases gc : compL g ct ce vs ds env with
        | no => rw [gc] at h; exact h.elim
        | ex x env2 => rw [gc] at h; exact h.elim
        | ok xs env2 =>
          rw [gc] at h
          cases k1 with
          | lst rs =>
            obtain ⟨u2, p1, p2⟩ := w.pin i _ hc (.inr ⟨_, rfl⟩)
            rw [hx] at p2; cases p2
            refine .inl ⟨_, hx, a, rfl, ⟨_, .inl (.inl h1)⟩, fun ff D hD => ?_⟩
            exact comp_run (X := X) (tg := tg) (xp' := xp) hg hgs ht he w (itlck_ok (w.lk2 i _ hc) p1) (by rw [← rs.length]; exact ff.1 _ _ (.inl (.inl h1))) hD (anyMineS_no ga.1) gc fun H' F' w' s' _ vx hd hn r no => h (.ref D) H' F' w' s' ⟨D, _, rfl, hd, hn, .lst r, w.old hD, no⟩
      | _ => exact h.elim
theorem de_compO {elt tg iter : Expr} {ifs : List Expr} {scope : Scope} {own : List (Str × Nat)} {pos : Pos} {i : Nat} {g : Tg} {gt : TG} {ct : CT} {tt : TT} {ce : CE} {te : TE} (hc : X.calm = true) (hN : X.N.Nodup) (hi : PE X iter (tVar i)) (ok : BlkOk X.N X.env.scope scope own)
    (hg : ∀ (s : Shared) (H : Hp) (C : Addr) (cl : List (Str × Addr)) (fp : List Addr), DG (X.blk s H scope (compEnvC scope cl C X.env) fp) tg g gt) (ht : ∀ (s : Shared) (H : Hp) (C : Addr) (cl : List (Str × Addr)) (fp : List Addr), DTs (X.blk s H scope (compEnvC scope cl C X.env) fp) xp WF ifs ct tt)
    (he : ∀ (s : Shared) (H : Hp) (C : Addr) (cl : List (Str × Addr)) (fp : List Addr), DE (X.blk s H scope (compEnvC scope cl C X.env) fp) xp WF elt ce te) (hgs : ∀ i ∈ g.slots, i ∈ own.map (·.2) := by decide) (hs : ∀ x, foldedSetIterable iter X.env x = pure x := by intro _; rfl) :
    DE X xp W (.ListComp elt [⟨tg, iter, ifs, 0⟩] scope pos) (cCompO i g ct ce (own.map (·.2))) (tLc (fun σ H R => iList X.K (tVar i) σ H (fun J H1 => Fact X.K H1 → R J H1) ∨ iTup X.K (tVar i) σ H (fun J H1 => Fact X.K H1 → R J H1)) gt tt te (own.map (·.2))) :=
  ⟨pe_lc hc hN (PI.or (PI.fact (pi_list hi)) (PI.fact (pi_tup hi))) ok (fun s H C cl fp => (hg s H C cl fp).1) (fun s H C cl fp => (ht s H C cl fp).1) (fun s H C cl fp => (he s H C cl fp).1) hs,
    fun e σ H F env Q w h => compO_post (tg := tg) (iter := iter) (hg X.s_0 X.H_0 0 [] []).2 hgs (ht X.s_0 X.H_0 0 [] []).2 (he X.s_0 X.H_0 0 [] []).2 w h⟩
theorem ds_setCompO {i : Nat} {y : Str} {py : Pos} {elt tg iter : Expr} {ifs : List Expr} {scope : Scope} {own : List (Str × Nat)} {pos spos : Pos} {j : Nat} {g : Tg} {gt : TG} {ct : CT} {tt : TT} {ce : CE} {te : TE} (hc : X.calm = true) (hN : X.N.Nodup) (hy : X.N[i]? = some y) (hyl : X.env.scope.names.lookup y = some .local)
    (hsw : swapsWith (.ListComp elt [⟨tg, iter, ifs, 0⟩] scope pos) (some (.Name y py)) spos.line X.env = pure true) (hi : PE X iter (tVar j)) (ok : BlkOk X.N X.env.scope scope own)
    (hg : ∀ (s : Shared) (H : Hp) (C : Addr) (cl : List (Str × Addr)) (fp : List Addr), DG (X.blk s H scope (compEnvC scope cl C X.env) fp) tg g gt) (ht : ∀ (s : Shared) (H : Hp) (C : Addr) (cl : List (Str × Addr)) (fp : List Addr), DTs (X.blk s H scope (compEnvC scope cl C X.env) fp) xp WF ifs ct tt)
    (he : ∀ (s : Shared) (H : Hp) (C : Addr) (cl : List (Str × Addr)) (fp : List Addr), DE (X.blk s H scope (compEnvC scope cl C X.env) fp) xp WF elt ce te) (hgs : ∀ i ∈ g.slots, i ∈ own.map (·.2) := by decide) (hs : ∀ x, foldedSetIterable iter X.env x = pure x := by intro _; rfl) :
    DS X xp W (.Assign [.Name y py] (.ListComp elt [⟨tg, iter, ifs, 0⟩] scope pos) spos) (cSet i (cCompO j g ct ce (own.map (·.2)))) :=
  ⟨_, ps_setLc hc hN hy hyl hsw (PI.or (PI.fact (pi_list hi)) (PI.fact (pi_tup hi))) ok (fun s H C cl fp => (hg s H C cl fp).1) (fun s H C cl fp => (ht s H C cl fp).1) (fun s H C cl fp => (he s H C cl fp).1) hs,
    fun e σ H F env D w h => compO_post (tg := tg) (iter := iter) (hg X.s_0 X.H_0 0 [] []).2 hgs (ht X.s_0 X.H_0 0 [] []).2 (he X.s_0 X.H_0 0 [] []).2 w (set_run h)⟩
end
theorem takesF {X : Cx} : L2N.Takes X WF := fun _ _ q => by
  obtain ⟨_, _, _, _, _, _, _, _, _, _, _, _, _, _, _, _, z⟩ := q
  exact z.elim
/-! ### calls inside a comprehension: K is told -/
section
variable {K : PySem.W.Frag} {X : Cx} {xp : XP}
theorem de_callK {k n : Nat} {m : Fn} {f : Addr} {fd : FuncData} {ps : List Str} {x : Str} {p pos : Pos} {ex : Expr} {es : List Expr} {os : List Opd} {t : TA}
    (F : FnOk X.prog X.w X.K X.mg X.base (L2N.CX X.prog X.w) k f fd ps (spB K xp n m)) (hr : Room k X.A) (hg : Gl X x) (hm : X.mg x = some (.ref f)) (hk : PySem.W.keepIn X.K (.ref f) = true) (hb : Binds X.K fd ps [])
    (ha : DA X xp WF (ex :: es) os t) (eK : X.K = K := by rfl) (hn : os.length = n := by rfl) (hdb : (x == ("__debug__" : Str)) = false := by decide) (he : starEach (ex :: es) X.env = (false, eval ex X.env) :: starEach es X.env := by rfl) (hpl : (backTo pos (starEach es X.env)).any (·.1) = false := by rfl) :
    DE X xp WF (.Call (.Name x p) (ex :: es) [] pos) (cCall m os) (tCallS (spB K xp n m) (WE WF) t) := by
  subst eK
  exact de_call takesF F hr hg hm hk hb ha hn hdb he hpl
theorem de_callIK {k n : Nat} {m : Fm} {f : Addr} {fd : FuncData} {ps : List Str} {x : Str} {p pos : Pos} {ex : Expr} {es : List Expr} {i : Nat} {os : List Opd} {t : TA}
    (F : FnOk X.prog X.w X.K X.mg X.base (L2N.CX X.prog X.w) k f fd ps (spI K n m)) (hr : Room k X.A) (hg : Gl X x) (hm : X.mg x = some (.ref f)) (hk : PySem.W.keepIn X.K (.ref f) = true) (hb : Binds X.K fd ps [])
    (ho : PE X ex (tVar i)) (ha : DA X xp WF es os t) (eK : X.K = K := by rfl) (hn : os.length + 1 = n := by rfl) (hdb : (x == ("__debug__" : Str)) = false := by decide) (he : starEach (ex :: es) X.env = (false, eval ex X.env) :: starEach es X.env := by rfl) (hpl : (backTo pos (starEach es X.env)).any (·.1) = false := by rfl) :
    DE X xp WF (.Call (.Name x p) (ex :: es) [] pos) (cCallI m i os) (tCallS (spI K n m) (WE WF) (tCons (tVar i) t)) := by
  subst eK
  exact de_callI takesF F hr hg hm hk hb ho ha hn hdb he hpl
end
end DL

/-! DLT: sorted of a tuple. -/
namespace SrtO
open PySem PyProof.Rows Srt
section
variable {prog : Program} {w : World} {A : Around} {E : Value → Shared → Prop} {s : Shared}
theorem collect_tup {l : Addr} {vs : List Value} {Q : List Value → Shared → Prop} (hl : s.heap.IsTuple l vs.toArray)
    (h : Q vs { s with heap := (s.heap.push (seqObj "list" #[] 0)).update s.heap.objs.size (Obj.mapSeq (· ++ vs.toArray)) }) (hsz : vs.length ≤ sizeLine) :
    wpAny (model prog w) A (collect (.ref l)) Q E s := by
  obtain ⟨o, ho, hc, n, hd⟩ := id hl
  unfold collect
  refine wpAny_bind (wpAny_runValue (codeAny_builtin entry_proto_collect' ?_))
  show wpAny _ _ (do again (.builtin "list.__iadd__" ⟨[← newList [], .ref l], []⟩)) _ _ s
  refine wpAny_bind (wpAny_newList (wpAny_pure ⟨Code.quiet_builtin _ (by decide +kernel), codeAny_builtin entry_list_iadd' ?_⟩))
  show wpAny _ _ (Builtin.List.listExtendWith (.ref s.heap.objs.size) (.ref l) (.ref s.heap.objs.size)) _ _ { s with heap := s.heap.push (seqObj "list" #[] 0) }
  unfold Builtin.List.listExtendWith
  have ho' : (s.heap.push (seqObj "list" #[] 0)).get? l = some o := Heap.get?_push_of_some _ ho
  refine wpAny_bind (wpAny_typeOf (T := "tuple") ⟨o, ho', hc⟩ ?_)
  have ht : (Value.type "tuple" == Value.type "tuple") = true := by rfl
  rw [if_pos (by rw [ht]; simp)]
  refine wpAny_bind (listItems_at ho' hd ?_)
  refine wpAny_bind (listItems_at (xs := #[]) (n := 0) (Heap.get?_push_size _ rfl) rfl ?_)
  rw [if_neg (by simp)]
  refine wpAny_bind (listUpdate_at (xs := #[]) (n := 0) (Heap.get?_push_size _ rfl) rfl ?_ (Nat.zero_le _) (by show (#[] ++ vs.toArray).size ≤ sizeLine + 1; simp only [Array.size_append, List.size_toArray, List.length_nil]; omega))
  refine wpAny_pure ?_
  show wpAny (model prog w) A (do
      let o ← load s.heap.objs.size
      match o.data with
      | .seq xs _ => pure xs.toList
      | _ => unsupported "internal:collect") Q E { s with heap := (s.heap.push (seqObj "list" #[] 0)).update s.heap.objs.size (Obj.mapSeq (· ++ vs.toArray)) }
  refine wpAny_bind (wpAny_load (get?_update_seq (Heap.get?_push_size _ rfl) _) ?_)
  show wpAny _ _ (pure ((#[] : Array Value) ++ vs.toArray).toList) Q E _
  rw [show ((#[] : Array Value) ++ vs.toArray).toList = vs by simp]
  exact wpAny_pure h
theorem sorted_ordT {l : Addr} {vs : List Value} {ltv : Value → Value → Bool} {Q : Value → Shared → Prop} (O : Swo ltv) (hl : s.heap.IsTuple l vs.toArray) (hz : vs.length ≤ sizeLine)
    (hS : 2 ≤ vs.length → ∀ (h₁ : Heap) (a : Addr), h₁.get? a = some (seqObj "list" vs.toArray 0) → (∀ b o, s.heap.get? b = some o → b ≠ a ∧ h₁.get? b = some o) → SortableO prog w A.in1.in1 { s with heap := h₁ } a vs ltv)
    (h : ∀ out : List Value, Srtd ltv out → Stb ltv out vs → Q (.ref (s.heap.objs.size + 1)) { s with heap := sortedAll s.heap vs out.toArray }) :
    wpAny (model prog w) A (call (.builtin "sorted") [.ref l]) Q E s := by
  refine Calls.call_function_entry kind_sorted plain_sorted entry_sorted (args_sorted1 _) ?_
  unfold Builtin.«sorted»
  refine wpAny_bind (m := checkCount "sorted" 1 1 _) (wpAny_pure ?_)
  refine wpAny_bind (collect_tup hl ?_ hz)
  refine wpAny_bind (wpAny_newList ?_ hz)
  have hsz : ((s.heap.push (seqObj "list" #[] 0)).update s.heap.objs.size (Obj.mapSeq (· ++ vs.toArray))).objs.size = s.heap.objs.size + 1 := by
    rw [Heap.size_update, size_push']
  have hoL : (((s.heap.push (seqObj "list" #[] 0)).update s.heap.objs.size (Obj.mapSeq (· ++ vs.toArray))).push (seqObj "list" vs.toArray 0)).get? (s.heap.objs.size + 1) = some (seqObj "list" vs.toArray 0) := by
    rw [← hsz]; exact Heap.get?_push_size _ rfl
  have keep : ∀ b o, s.heap.get? b = some o → b ≠ s.heap.objs.size + 1 ∧ (((s.heap.push (seqObj "list" #[] 0)).update s.heap.objs.size (Obj.mapSeq (· ++ vs.toArray))).push (seqObj "list" vs.toArray 0)).get? b = some o := fun b o q => by
    have hlt : b < s.heap.objs.size := Heap.lt_size q
    refine ⟨Nat.ne_of_lt (Nat.lt_succ_of_lt hlt), Heap.get?_push_of_some _ ?_⟩
    rw [Heap.get?_update_ne _ _ _ _ (Nat.ne_of_lt hlt)]
    exact Heap.get?_push_of_some _ q
  show wpAny _ _ _ _ _ { s with heap := ((s.heap.push (seqObj "list" #[] 0)).update s.heap.objs.size (Obj.mapSeq (· ++ vs.toArray))).push (seqObj "list" vs.toArray 0) }
  rw [hsz]
  refine wpAny_bind (wpAny_holding (wpAny_call_entry slot_list_sort ⟨_, hoL, rfl⟩ entry_list_sort (list_sort_ord O hoL hz (fun h2 => hS h2 _ _ hoL keep) fun out hs hb => ⟨_, rfl, ?_⟩) (args_list_sort _)))
  exact wpAny_pure ⟨_, rfl, h out hs hb⟩
end
end SrtO
namespace DL
open PySem PySem.Spec PyProof.Rows L2
section
variable {X : Cx} {xp : XP} {W : WX} {K : PySem.W.Frag}
def rSortedTI (K : PySem.W.Frag) : List V → Hp → VK → Prop := fun vs H Q => ∃ (a : Addr) (ns : List Int), vs = [V.ref a] ∧ SqT K H a (ns.map V.int) ∧
  ∀ (ns' : List Int) (p : Addr), ns'.Perm ns → ns'.Pairwise (· ≤ ·) → H p = none → Q (.ref p) (upd H p (.lst (ns'.map V.int)))
theorem cr_sortedTI : CallR X (.builtin "sorted") (rSortedTI X.K) := by
  intro pins s σ H vs us Q I r h
  obtain ⟨a, ns, rfl, hs, q⟩ := h
  obtain ⟨its, rv, hl, hz⟩ := I.tuple hs
  rw [Vals.ref1 r]
  have hi := rv.ints
  refine SrtO.sorted_ordT SrtO.swo_int hl (by rw [← rv.length]; exact hz) (fun h2 h₁ a' _ _ => SrtO.ints_sortable hi h2) fun out h1 h2 => ?_
  obtain ⟨k1, k2, k3⟩ := SrtO.ints_out hi h1 h2
  obtain ⟨ep, he'⟩ := PyProof.Rows.sortedAll_at s.heap its out.toArray
  have hlen : ((out.map SrtO.iv).map V.int).length ≤ sizeLine := by
    rw [List.length_map, k2.length_eq]
    rw [List.length_map] at hz
    exact hz
  exact ⟨.ref _, upd H (s.heap.objs.size + 1) (.lst ((out.map SrtO.iv).map V.int)), I.laid (t' := s.toks) (fun _ _ => PyProof.Rows.sortedAll_old) (Nat.le_succ _) ⟨hlen, out, ep, vals_of_ints k1, he'⟩, rfl, q _ _ k2 k3 (I.hok.fresh (Nat.le_succ _))⟩
/-- sorted of a list or tuple of whole numbers -/
def oSortedA : OpN
  | [.list ds] => match intsOf ds with
    | some ns => .val (.own false (.list ((sortI ns).map .int)))
    | none => .no
  | [.tuple ds] => match intsOf ds with
    | some ns => .val (.own false (.list ((sortI ns).map .int)))
    | none => .no
  | _ => .no
theorem cr_sortedA : CallR X (.builtin "sorted") (fun vs H Q => rSortedI X.K vs H Q ∨ rSortedTI X.K vs H Q) := CallR.or cr_sortedI cr_sortedTI
theorem ok_sortedA : OpNOk K (fun vs H Q => rSortedI K vs H Q ∨ rSortedTI K vs H Q) oSortedA := by
  intro xs ds H F Q s r h
  unfold oSortedA at h
  split at h
  · rename_i ds
    cases g : intsOf ds with
    | none => rw [g] at h; exact h.elim
    | some ns =>
      rw [g] at h
      have h' : OPost K H F Q (oSorted [.list ds]) := by unfold oSorted onInts; simp only [g]; exact h
      exact .inl (ok_sorted xs [.list ds] H F Q s r h')
  · rename_i ds
    cases g : intsOf ds with
    | none => rw [g] at h; exact h.elim
    | some ns =>
      rw [g] at h
      obtain ⟨v, rfl, rv⟩ := r.one
      obtain ⟨p, ys, rfl, q, r'⟩ := rv.tup s
      have e := intsOf_rds r' g
      subst e
      refine .inr ⟨p, ns, rfl, q, fun ns' a hp hs hn => ?_⟩
      have e2 : ns' = sortI ns := sorted_unique (hp.trans (sortI_perm ns).symm) hs (sortI_sorted ns)
      subst e2
      exact h.newL s (rds_ints _) a hn
  · exact h.elim
end
end DL

/-! DLU: for x in a name of the def's: its own list is locked while it is walked. -/
namespace DL
open PySem PySem.Spec PyProof.Rows L2
section
variable {X : Cx} {xp : XP} {W : WX} {K : PySem.W.Frag}
def openR (i : Nat) (c : Cell) : SRes → SRes
  | .nx env => .nx (env.set i c)
  | .rt r env => .rt r (env.set i c)
  | .bk env => .bk (env.set i c)
  | .ct env => .ct (env.set i c)
  | .ex x env => .ex x (env.set i c)
  | .no => .no
def cForO (i : Nat) (g : Tg) (body : CS) : CS := fun env => match g.slots.contains i with
  | true => .no
  | false => match env.getD i .emp with
    | .frz d => match seqOf d with
      | some ds => forL g body ds env
      | none => .no
    | .own b (.list ds) => openR i (.own b (.list ds)) (forL g body ds (env.set i (.lck (.list ds))))
    | .lck (.list ds) => forL g body ds env
    | _ => .no
theorem RC.unlock {e : Ent} {σ' : L2.St} {H' F' : Hp} {env env' : Cs} {i : Nat} {b : Bool} {d : PyData} {a : Addr} {v : V} {c : Cell} (h : env[i]? = some (.own b d)) (w' : Wl K (lockE e i d (.ref a)) σ' H' F' env') (r : RC K (lockE e i d (.ref a)) σ' H' F' env' v c) : RC K e σ' H' F' (env'.set i (.own b d)) v c := by
  cases c with
  | frz d => exact r
  | own b2 d2 =>
    obtain ⟨p, u, rfl, h1, n1, k1, m, no⟩ := r
    refine ⟨p, u, rfl, h1, n1, k1, m, fun j c hc hm hx => ?_⟩
    have hi : env'[i]? = some (.lck d) := w'.lk i d (if_pos rfl)
    by_cases z : i = j
    · subst z; exact no i _ hi rfl hx
    · rw [List.getElem?_set_ne z] at hc; exact no j c hc hm hx
  | emp => exact r.elim
  | lck d => exact r.elim
  | exc x => exact r.elim
theorem SPost.unlock {e : Ent} {σ : L2.St} {H F F0 : Hp} {env : Cs} {i : Nat} {b : Bool} {d : PyData} {a : Addr} {D : Ends} {r : SRes} (w : Wl K e σ H F env) (h : env[i]? = some (.own b d)) (hx : σ[i]? = some (some (.ref a))) (q : SPost K xp W e F0 D (openR i (.own b d) r)) : SPost K xp W (lockE e i d (.ref a)) F0 D r := by
  cases r with
  | nx env' => exact fun σ' H' F' w' s => q σ' H' F' (w.unlock h hx w') s
  | rt c env' => exact fun v σ' H' F' w' s r => q v σ' H' F' (w.unlock h hx w') s (RC.unlock h w' r)
  | bk env' => exact fun σ' H' F' w' s => q σ' H' F' (w.unlock h hx w') s
  | ct env' => exact fun σ' H' F' w' s => q σ' H' F' (w.unlock h hx w') s
  | ex x env' => exact fun σ' H' F' cls d w' s y => q σ' H' F' cls d (w.unlock h hx w') s y
  | no => exact q
theorem ds_forO {tg iter : Expr} {body : List Stmt} {i : Nat} {g : Tg} {gt : TG} {cb : CS} {pos : Pos} (hp : PassesOwn (PySem.model X.prog X.w) X.A X.env X.xe) (hc : X.calm = true) (hi : PE X iter (tVar i)) (hg : DG X tg g gt) (hb : DSs X xp W body cb)
    (hs : ∀ x, foldedSetIterable iter X.env x = pure x := by intro _; rfl) : DS X xp W (.For tg iter body [] pos) (cForO i g cb) := by
  obtain ⟨tb, pb, qb⟩ := hb
  refine ⟨_, ps_for hp hc (PI.or (PI.fact (pi_list hi)) (PI.fact (pi_tup hi))) hg.1 pb hs, fun e σ H F env D w h => ?_⟩
  unfold cForO at h
  cases gs : g.slots.contains i with
  | true => rw [gs] at h; exact h.elim
  | false =>
    rw [gs] at h; dsimp only at h
    cases gi : env.getD i .emp with
    | emp => rw [gi] at h; exact h.elim
    | exc x => rw [gi] at h; exact h.elim
    | frz d =>
      rw [gi] at h; dsimp only at h
      have hc := of_getD gi (fun z => nomatch z)
      obtain ⟨x, hx⟩ := w.slot hc
      obtain ⟨v, rfl, r⟩ := w.cell i _ _ hc hx
      cases g3 : seqOf d with
      | none => rw [g3] at h; exact h.elim
      | some ds =>
        rw [g3] at h; dsimp only at h
        cases d with
        | list ds' =>
          cases g3
          cases r with
          | lst q rs => exact .inl ⟨_, hx, _, rfl, ⟨_, w.sub.sqL (.inl q)⟩, fun ff => for_run (body := body) hg qb w (itl_ok (.inl q) rs) h⟩
        | tuple ds' =>
          cases g3
          cases r with
          | tup q0 rs => exact (fun q : SqT X.K F _ _ => .inr ⟨_, hx, _, rfl, ⟨_, w.sub.sqT q⟩, fun ff => for_run (body := body) hg qb w (itt_ok q rs) h⟩) (.inl (.inl q0))
        | _ => cases g3
    | own b d =>
      rw [gi] at h
      have hc := of_getD gi (fun z => nomatch z)
      obtain ⟨x, hx⟩ := w.slot hc
      obtain ⟨a, u, rfl, h1, n1, k1⟩ := w.cell i _ _ hc hx
      cases d with
      | list ds =>
        dsimp only at h
        cases k1 with
        | lst rs =>
          have wk := w.lock hc hx
          refine .inl ⟨_, hx, a, rfl, ⟨_, .inl (.inl h1)⟩, fun ff => ?_⟩
          exact for_run (body := body) hg qb wk (itlck_ok (i := i) (if_pos rfl) (if_pos rfl)) (SPost.unlock w hc hx h)
      | _ => exact h.elim
    | lck d =>
      rw [gi] at h
      have hc := of_getD gi (fun z => nomatch z)
      obtain ⟨x, hx⟩ := w.slot hc
      obtain ⟨a, u, rfl, h1, n1, k1⟩ := w.cell i _ _ hc hx
      cases d with
      | list ds =>
        dsimp only at h
        cases k1 with
        | lst rs =>
          obtain ⟨u2, p1, p2⟩ := w.pin i _ hc (.inr ⟨_, rfl⟩)
          rw [hx] at p2; cases p2
          exact .inl ⟨_, hx, a, rfl, ⟨_, .inl (.inl h1)⟩, fun ff => for_run (body := body) hg qb w (itlck_ok (w.lk2 i _ hc) p1) h⟩
      | _ => exact h.elim
end
end DL

/-! DLV: dicts of the module with text keys. -/
namespace DL
open PySem PySem.Spec PyProof.Rows L2
/-- what a written value is as data -/
inductive KVal : Value → PyData → Prop
  | int (i : Int) (t : Tok) : KVal (.int i t) (.int i)
  | str (x : Str) (t : Tok) : KVal (.str x t) (.str x)
  | non : KVal .none .none
def KVal.v {u : Value} {d : PyData} (h : KVal u d) : ∃ v : V, RelV v u ∧ ∀ K F, RD K F v d := by
  cases h with
  | int i t => exact ⟨.int i, ⟨t, rfl⟩, fun _ _ => .int i⟩
  | str x t => exact ⟨.str x, ⟨t, rfl⟩, fun _ _ => .str x⟩
  | non => exact ⟨.non, rfl, fun _ _ => .non⟩
inductive KEnt : List DictEntry → List (Str × PyData) → Prop
  | nil : KEnt [] []
  | cons {k : Str} {t : Tok} {e : DictEntry} {d : PyData} {r : List DictEntry} {s : List (Str × PyData)} : e.key = .str k t → KVal e.val d → KEnt r s → KEnt (e :: r) ((k, d) :: s)
def lookS (kvs : List (Str × PyData)) (x : Str) : Option PyData := match kvs with
  | [] => none
  | (k, d) :: r => if k = x then some d else lookS r x
theorem KEnt.find : ∀ {es : List DictEntry} {kvs : List (Str × PyData)} (x : Str), KEnt es kvs → match lookS kvs x with
    | some d => ∃ u, findBy Value.isStrOf es.toArray x = some u ∧ KVal u d
    | none => findBy Value.isStrOf es.toArray x = none
  | _, _, x, .nil => by simp [lookS, findBy]
  | _, _, x, .cons (k := k) (t := t) (e := e) (d := d) (r := r) (s := s) ek ev h => by
    have ih := KEnt.find x h
    have hk : Value.isStrOf x e.key = decide (k = x) := by
      rw [ek]
      show (match Value.str k t with | .str y _ => y == x | _ => false) = _
      rw [Bool.eq_iff_iff]; simp
    unfold lookS
    by_cases q : k = x
    · rw [if_pos q]
      refine ⟨e.val, ?_, ev⟩
      unfold findBy
      simp [List.find?_toArray, List.find?_cons, hk, q]
    · rw [if_neg q]
      have : findBy Value.isStrOf (e :: r).toArray x = findBy Value.isStrOf r.toArray x := by
        unfold findBy
        simp [List.find?_toArray, List.find?_cons, hk, q]
      rw [this]; exact ih
def KDc (K : PySem.W.Frag) (w : World) (a : Addr) (es : List DictEntry) (kvs : List (Str × PyData)) : Prop := ∃ n, KDict K w a es.toArray n ∧ KEnt es kvs
theorem KDc.mk' {K : PySem.W.Frag} {w : World} {a : Addr} {es : List DictEntry} {n : Nat} {kvs : List (Str × PyData)} (h1 : K.lookup a = some ⟨.type "dict", none, .dict es.toArray n, #[]⟩) (h2 : PySem.W.KeysLit w.params es.toArray.toList) (h3 : (a == sysModules) = false) (h4 : KEnt es kvs) : KDc K w a es kvs := ⟨n, ⟨h1, h2, h3⟩, h4⟩
section
variable {X : Cx} {xp : XP} {W : WX}
def tKGet (ty : TE) (es : List DictEntry) : TE := fun σ H Q => ty σ H fun y H1 => ∃ z : Str, y = .str z ∧ ∀ v : V, L2.RelV v ((findBy Value.isStrOf es.toArray z).getD .none) → Q v H1
theorem pe_kget {d : Addr} {es : List DictEntry} {n : Nat} {o e : Expr} {ty : TE} {apos cpos : Pos} (D : KDict X.K X.w d es.toArray n) (hv : ∀ z : Str, ∃ v : V, L2.RelV v ((findBy Value.isStrOf es.toArray z).getD .none)) (ho : PE X o (tC (.ref d))) (he : PE X e ty) (m : M1 X o "get" apos e cpos) : PE X (.Call (.Attribute o "get" apos) [e] [] cpos) (tKGet ty es) := by
  refine ⟨fun pins s σ H Q I h => ?_⟩
  refine wpAny_Call_method m.base m.few m.line PySem.F.plainAttrs_dict PySem.F.slot_dict_get PySem.F.type_dict_get (thn (ho.run pins s σ H (fun v H1 => v = .ref d ∧ H1 = H) I ⟨rfl, rfl⟩) fun u s1 ⟨x, H1, I1, rx, ex, eH⟩ => ?_)
  subst ex eH
  obtain rfl : u = Value.ref d := rx
  have hm := PySem.W.mapOf_K (prog := X.prog) (w := X.w) I1.kIn D.at_ D.lit
  refine ⟨hm.typeIs, fun b q => ?_, ?_⟩
  · cases q
    exact ⟨_, I1.kIn _ _ D.at_, rfl⟩
  rw [m.trees]
  refine Calls.callWith_builtin rfl (Calls.evalArgs_plain (Calls.spliced_cons (thn (he.run pins s1 σ H1 _ I1 h) fun iv s2 ⟨y, H2, I2, ry, z, ey, q2⟩ => Calls.spliced_nil ?_)))
  subst ey
  obtain ⟨t, rfl⟩ := ry
  have hm2 := PySem.W.mapOf_K (prog := X.prog) (w := X.w) I2.kIn D.at_ D.lit
  obtain ⟨v, rv⟩ := hv z
  exact call_meetsIn PySem.F.slot_dict_get hm2.typeIs PySem.F.entry_dict_get (PySem.F.args_dict_get_2 _ _) (meets_dict_get (strKind X.prog X.w) d (strKind_is X.prog X.w z t) D.low) ⟨_, hm2, v, H2, I2.tok _, rv, q2 v rv⟩
/-- NAME.get(e): there or None -/
def cKGet (kvs : List (Str × PyData)) (o : Opd) : CE := fun env => (o.ev env).bind fun l env1 => match l.get env1 with
  | some (.str x) => .ok (.frz ((lookS kvs x).getD .none)) env1
  | _ => .no
theorem KEnt.getv {es : List DictEntry} {kvs : List (Str × PyData)} (h : KEnt es kvs) (x : Str) : KVal ((findBy Value.isStrOf es.toArray x).getD .none) ((lookS kvs x).getD .none) := by
  have f := h.find x
  cases g : lookS kvs x with
  | none => rw [g] at f; dsimp only at f; rw [f]; exact .non
  | some d => rw [g] at f; obtain ⟨u, e, k⟩ := f; rw [e]; exact k
theorem KVal.rd {u : Value} {d : PyData} {v : V} {K : PySem.W.Frag} {F : Hp} (h : KVal u d) (r : L2.RelV v u) : RD K F v d := by
  cases h with
  | int i t => cases v <;> unfold L2.RelV at r <;> first | (obtain ⟨_, e⟩ := r; cases e; exact .int i) | (obtain ⟨_, e⟩ := r; cases e; done) | (cases r; done)
  | str x t => cases v <;> unfold L2.RelV at r <;> first | (obtain ⟨_, e⟩ := r; cases e; exact .str x) | (obtain ⟨_, e⟩ := r; cases e; done) | (cases r; done)
  | non => cases v <;> unfold L2.RelV at r <;> first | exact .non | (obtain ⟨_, e⟩ := r; cases e; done) | (cases r; done)
theorem de_kget {x : Str} {a : Addr} {es : List DictEntry} {kvs : List (Str × PyData)} {e : Expr} {o : Opd} {te : TE} {p apos cpos : Pos} (D : KDc X.K X.w a es kvs) (hg : Gl X x) (hm : X.mg x = some (.ref a)) (h : DO X xp W e o te) (m : M1 X (.Name x p) "get" apos e cpos) (hd : (x == ("__debug__" : Str)) = false := by decide) :
    DE X xp W (.Call (.Attribute (.Name x p) "get" apos) [e] [] cpos) (cKGet kvs o) (tKGet te es) := by
  obtain ⟨n, D, k⟩ := D
  refine ⟨pe_kget D (fun z => let ⟨v, r, _⟩ := (k.getv z).v; ⟨v, r⟩) (pe_glob hg hm rfl hd) h.pe m, fun en σ H F env Q w q => ?_⟩
  unfold cKGet at q
  refine h.run w (fun x env1 H' F' cls d g w' s y => ?_) (fun g => ?_) fun l env1 v H1 F1 g w1 s1 l1 => ?_
  · rw [g] at q; exact q H' F' cls d w' s y
  · rw [g] at q; exact q
  · rw [g] at q; simp only [Res.bind] at q
    cases g1 : l.get env1 with
    | none => rw [g1] at q; exact q.elim
    | some d =>
      rw [g1] at q
      cases d with
      | str z => exact ⟨z, (RB.of w1 l1 g1).str, fun v r => q v H1 F1 w1 s1 ((k.getv z).rd r)⟩
      | _ => exact q.elim
end
end DL

/-! DLW: the law's own def, where no repr is under way; repr. -/
namespace DL
open PySem PySem.Spec PyProof.Rows L2

/-! ### a def's promise where no repr is under way -/
structure FnG (P : Program) (w : World) (K : PySem.W.Frag) (mg : Str → Option Value) (base : Heap) (k : Nat) (f : Addr) (fd : FuncData) (ps : List Str) (sp : Sp) : Prop where
  run : ∀ (A : Around) (fr : List Env) (s : Shared) (H : Hp) (us : List Value) (vs : List V) (Q : VK) (E : XK), A.guards = some [] → Room k A → Env0 P w K mg base A fr s H → vs.length = ps.length →
    BindsTo s fd ⟨us, []⟩ (ps.zip us) → Vals vs us → sp vs H Q E → codeAny (model P w) A (.call (.ref f) ⟨us, []⟩) (CR (L2N.CX P w) fr P w H s Q E) s
section
variable {P : Program} {w : World} {K : PySem.W.Frag} {mg : Str → Option Value} {base : Heap} {xp : XP}
theorem fn_bodyG {x qual : Str} {st : Stmt} {f : Addr} {fd : FuncData} {N ps : List Str} {k : Nat} {sp : Sp} (F : Fun K x qual st f fd) (S : FnScope N ps (defScope st))
    (hb : ∀ (cdv : Value) (A : Around) (fr : List Env) (s : Shared) (H : Hp) (vs : List V) (Q : VK) (E : XK), A.guards = some [] → Room k (A.deeper (envOfC qual (defScope st) s.heap.objs.size f cdv)) → sp vs H Q E →
      ∃ t, PSs (cxOf (L2N.CX P w) P w K mg base N qual (defScope st) f cdv A fr s H E) (defBody st) t ∧ t { nx := fun _ H' => Q .non H', rt := Q } (L2.start N vs) H) :
    FnG P w K mg base (k + 1) f fd ps sp := by
  obtain ⟨oc, od, kV, doc, pm, an, cdv, ct, osl, rfl, lk, hcd⟩ := F.ex
  constructor
  intro A fr s H us vs Q E hg room env len bnd rel wish
  have inS : K.In s.heap := env.mod.kin.keeps fun b o q => (env.bs b o q).1
  have free : s.heap.NoLimit := env.mod.nolimit.keeps fun b o q => (env.bs b o q).1
  refine codeAny_call_function room.depth (inS _ _ lk) rfl S.co S.gen rfl (PySem.W.codeRec_of inS hcd) (bnd _ _ _ _ (wpAny_newFunctionEnv_cells S.kind ?kinds fun en he s1 x => ?go))
  case kinds =>
    rintro ⟨n, v⟩ hy
    have hn := S.par n (List.of_mem_zip hy).1
    exact hn.imp (fun q => q) (fun q => ⟨q, PySem.W.cellsFrom_some _ _ _ (.inl q)⟩)
  case go =>
    subst he
    refine ⟨free.keeps x.toInCall.keep, codeAny_func ?_⟩
    obtain ⟨t, body, wish2⟩ := hb cdv A fr s H vs Q E hg (room.deeper _) wish
    have J := inv_start (CX := L2N.CX P w) (E := E) S room.hd env len rel x
    refine wpAny_mono (body.run [] s1 (L2.start N vs) H _ J wish2) ?_ (fun _ _ z => z)
    intro fl s' z
    match fl, z with
    | .ret u, ⟨v, σ2, H2, I2, rv, q⟩ => exact ⟨v, H2, I2.os, I2.bare, I2.base, I2.hok, rv, q⟩
    | .next, ⟨σ2, H2, I2, q⟩ => exact ⟨.non, H2, I2.os, I2.bare, I2.base, I2.hok, rfl, q⟩
    | .brk, ⟨_, _, _, q⟩ => exact q.elim
    | .cont, ⟨_, _, _, q⟩ => exact q.elim
theorem FnG.imp {k : Nat} {f : Addr} {fd : FuncData} {ps : List Str} {sp sp' : Sp} (F : FnG P w K mg base k f fd ps sp) (h : ∀ vs H Q E, sp' vs H Q E → sp vs H Q E) : FnG P w K mg base k f fd ps sp' :=
  ⟨fun A fr s H us vs Q E g r e l b v q => F.run A fr s H us vs Q E g r e l b v (h _ _ _ _ q)⟩
/-- as fn_B -/
theorem fn_BG {x qual : Str} {st : Stmt} {f : Addr} {fd : FuncData} {N ps : List Str} {k n : Nat} {c : CS} (F : Fun K x qual st f fd) (S : FnScope N ps (defScope st)) (hn : ps.length = n) (hN : n ≤ N.length)
    (hb : ∀ (cdv : Value) (A : Around) (outer : List Env) (s : Shared) (H : Hp) (E : XK), A.guards = some [] → Room k (A.deeper (envOfC qual (defScope st) s.heap.objs.size f cdv)) → DSs (bodyX P w K mg base N qual st f cdv A outer s H E) xp (fun cls d _ H => E cls d H) (defBody st) c) :
    FnG P w K mg base (k + 1) f fd ps (spB K xp n (runDef N.length c)) := by
  refine fn_bodyG F S (fun cdv A outer s H vs Q E hg hr h => ?_)
  obtain ⟨hl, F0, ds, s0, r0, p⟩ := h
  obtain ⟨t, pt, q⟩ := hb cdv A outer s H E hg hr
  refine ⟨t, pt, q ⟨H, F0, fun _ => False, fun _ => none, fun _ => none⟩ (L2.start N vs) H F0 (ds.map Cell.frz ++ emps (N.length - ds.length)) _ (start_wl (N := N) (by rw [hl]; exact hN) s0 r0) ?_⟩
  have gr : ∀ {σ' H' F' env}, Wl K ⟨H, F0, fun _ => False, fun _ => none, fun _ => none⟩ σ' H' F' env → Sub F0 F' → Grow H F0 H' F' := fun {σ' H' F' env} w s => ⟨fun a o h => w.keep a o h (fun z => z), s, w.sub, fun a h => by
    rcases w.new a h with y | y | y
    · exact .inl y
    · exact .inr y
    · exact y.elim⟩
  unfold runDef at p
  cases g : c (ds.map .frz ++ emps (N.length - ds.length)) with
  | nx env => rw [g] at p; exact fun σ' H' F' w s => p .non H' F' (gr w s) .non
  | rt r env =>
    rw [g] at p
    intro v σ' H' F' w s rc
    refine p v H' F' (gr w s) ?_
    cases r with
    | frz d => exact rc
    | own b d =>
      obtain ⟨a, u, e1, h1, n1, k1, m, _⟩ := rc
      rcases m with m | m
      · exact ⟨a, u, e1, m, h1, n1, k1⟩
      · exact m.elim
    | emp => exact rc.elim
    | lck d => exact rc.elim
    | exc x => exact rc.elim
  | ex x env => rw [g] at p; exact fun σ' H' F' cls d w s y => p H' F' cls d (gr w s) y
  | bk env => rw [g] at p; exact p.elim
  | ct env => rw [g] at p; exact p.elim
  | no => rw [g] at p; exact p
theorem law_ofG {k : Nat} {f : Addr} {fd : FuncData} {ps : List Str} {m : Fn} (F : FnG P w K mg base k f fd ps (spB K xp 1 m)) (h : ∀ ns : List Int, ns.length ≤ 63 → m [scriptD ns] = .ok (.frz (.bool true))) :
    FnG P w K mg base k f fd ps (spLaw K) := F.imp fun vs H Q E q => by
  obtain ⟨a, ns, rfl, hS, hl, hq⟩ := q
  refine ⟨rfl, H, [scriptD ns], .refl _, .one (.scr hS), ?_⟩
  rw [h ns hl]
  intro v H' F' _ rn
  cases rn
  exact hq H'
/-- the first abstract heap: at most the script -/
theorem first_heap {s₁ : Shared} {a : Addr} {vs : List Value} {ns : List Int} (KX : K.In s₁.heap) (ha : s₁.heap.get? a = some { cls := .type "list", data := .seq vs.toArray }) (hi : IntsAre vs ns) (hl : ns.length ≤ sizeLine) :
    ∃ H : Hp, Only H ∧ SqL K H a (ns.map V.int) ∧ HOk P w H s₁.heap ∧ (∀ b, H b ≠ none → b = a ∧ K.lookup b = none) := by
  have rv := vals_ints hi
  cases hk : K.lookup a with
  | some o =>
    have e := KX a o hk
    rw [ha] at e
    injection e with e
    subst e
    refine ⟨fun _ => none, fun _ => .inl rfl, .inr ⟨_, vs.toArray, _, hk, rfl, rfl, rfl, ?_, by simpa using rv⟩, ?_, ?_⟩
    · rw [List.size_toArray, hi.length]; exact hl
    · intro b u z; cases (show (none : Option HO) = some u from z)
    · intro b z; exact (z rfl).elim
  | none =>
    let ob : Obj := { cls := .type "list", data := .seq vs.toArray }
    have at_ : ∀ b, upd (fun _ => none) a (.frz ob (.lst (ns.map V.int))) b ≠ none → b = a := fun b z => by
      apply Classical.byContradiction
      intro n
      rw [upd_ne n] at z
      exact z rfl
    refine ⟨upd (fun _ => none) a (.frz ob (.lst (ns.map V.int))), fun b => ?_, .inl (.inr ⟨ob, upd_same⟩), fun b u z => ?_, fun b z => ?_⟩
    · by_cases e : b = a
      · subst e; exact .inr ⟨_, _, upd_same⟩
      · exact .inl (by rw [upd_ne e])
    · have e := at_ b (by rw [z]; exact fun y => nomatch y)
      subst e
      rw [upd_same] at z
      cases z
      exact ⟨ha, by rw [List.length_map]; exact hl, vs, _, rv, ha⟩
    · have e := at_ b z
      subst e
      exact ⟨rfl, hk⟩
theorem law_callG {mb : Str → Option Value} {k : Nat} {fa a : Addr} {fd : FuncData} {x : Str} {s₁ : Shared} {vs : List Value} {ns : List Int} (KX : K.In s₁.heap) (hns : s₁.heap.Ns mainGlobals mg) (hb : s₁.heap.Ns builtinsNs mb)
    (hbb : ∀ x : Str, x ≠ "__name__" → mb x = bootBuiltins x) (free : s₁.heap.NoLimit) (hg : s₁.gens = #[]) (ha : s₁.heap.get? a = some { cls := .type "list", data := .seq vs.toArray }) (hi : IntsAre vs ns) (hl : ns.length ≤ 63) (hr : Room k callerA)
    (F : ∀ base : Heap, K.In base → base.Ns mainGlobals mg → FnG P w K mg base k fa fd [x] (spLaw K)) (bnd : ∀ (s : Shared) (u : Value), BindsTo s fd ⟨[u], []⟩ [(x, u)]) :
    codeAny (model P w) callerA (.call (.ref fa) ⟨[.ref a], []⟩) (fun r z => r = .ok (.ret (.bool true)) ∧ OldK s₁.heap z.heap ∧ z.os = s₁.os ∧ AllBare z.gens) s₁ := by
  obtain ⟨H, only, hS, hok, hK⟩ := first_heap (P := P) (w := w) KX ha hi (Nat.le_trans hl (by decide))
  have isl : ∀ {b : Addr} {o : Obj}, s₁.heap.get? b = some o → H b ≠ none → ∃ q n, o.data = .seq q n := fun {b o} e n => by
    obtain ⟨rfl, _⟩ := hK b n
    rw [ha] at e
    cases e
    exact ⟨_, _, rfl⟩
  have noD : ∀ {b : Addr} {o : Obj} {es : Array DictEntry} {ep : Nat}, s₁.heap.get? b = some o → o.data = .dict es ep → H b = none := fun {b o es ep} e d => by
    apply Classical.byContradiction
    intro n
    obtain ⟨q, m, z⟩ := isl e n
    rw [z] at d
    cases d
  have ns' : ∀ {b : Addr} {m : Str → Option Value}, s₁.heap.Ns b m → (hidT s₁.heap H).Ns b m := fun {b m} q => by
    obtain ⟨o, es, ep, e, d, r⟩ := q
    exact ⟨o, es, ep, hidT_get e (noD e d), d, r⟩
  have kin : K.In (hidT s₁.heap H) := fun b o e => hidT_get (KX b o e) (by
    apply Classical.byContradiction
    intro n
    rw [(hK b n).2] at e
    cases e)
  have lim : (hidT s₁.heap H).NoLimit := by
    obtain ⟨mc, h1, h2⟩ := free
    exact ⟨mc, ns' h1, h2⟩
  have env : Env0 P w K mg (hidT s₁.heap H) callerA [] s₁ H := {
    frames := rfl
    mod := ⟨kin, ns' hns, ⟨mb, ns' hb, hbb⟩, lim⟩
    bs := fun b o e => of_hidT e
    bsz := Nat.le_of_eq (hidT_size _ _)
    funs := trivial
    frf := fun b z => nomatch (show b ∈ ([] : List Addr) from z)
    hok := hok
    bare := .of_eq hg }
  have wish : spLaw K [.ref a] H (fun v _ => v = .bl true) (fun _ _ _ => False) := ⟨a, ns, rfl, hS, hl, fun _ => rfl⟩
  refine codeAny_mono ((F _ kin (ns' hns)).run callerA [] s₁ H [.ref a] [.ref a] _ _ rfl hr env rfl (bnd s₁ (.ref a)) (.cons rfl .nil) wish) ?_
  intro r z h
  match r, h with
  | .error e, h => obtain ⟨_, _, _, _, _, _, _, _, _, _, _, _, y⟩ := h; exact y.elim
  | .ok .next, h => exact h.elim
  | .ok .brk, h => exact h.elim
  | .ok .cont, h => exact h.elim
  | .ok (.ret u), ⟨v, H2, os, bare, un, hok2, rel, e⟩ =>
    subst e
    cases (show u = Value.bool true from rel)
    refine ⟨rfl, OldK.of_keep ?_, os, bare⟩
    intro b o e
    by_cases n : H b = none
    · exact un.keep b o e n (fun y => nomatch (show b ∈ ([] : List Addr) from y)) (fun y => nomatch y)
    · rcases only b with y | ⟨ob, xs, y⟩
      · exact (n y).elim
      · have e1 := (hok b _ y).1
        have e2 := (hok2 b _ (un.frzs b ob _ y)).1
        rw [e] at e1
        cases e1
        exact e2
end
theorem walk_ofG {l : PySem.W.OpenLaw} {k : Nat} {q : Program} {loose : List Str} {XP : (Str → Option Value) → Heap → Prop} {YP : World → Heap → Prop} {d : DefRec} {K : Params → PySem.W.Frag} {x : Str}
    (hn : l.most = some 63) (plain : d.params.defaults = []) (hr : Room k callerA) (hY : ∀ (w : World) (h : Heap), YP w h → (K w.params).In h)
    (F : ∀ (w : World) (mg : Str → Option Value) (fa : Addr) (h : Heap), (K w.params).In h → h.Ns mainGlobals mg → mg d.name = some (.ref fa) → ∃ fd : FuncData, (∀ (s : Shared) (v : Value), BindsTo s fd ⟨[v], []⟩ [(x, v)]) ∧
      ∀ base : Heap, (K w.params).In base → base.Ns mainGlobals mg → FnG l.prog w (K w.params) mg base k fa fd [x] (spLaw (K w.params))) :
    PySem.W.WalkO q loose XP YP l.row.toRowW d [] (fun f vs => PySem.call f vs) := by
  refine Att.attach_call hn plain ?_
  intro w s₀ s₁ mg mb fa o pm cd doc a vs ns G Y ho hd hcd hmg hobj hints hlen hg
  obtain ⟨fd, bnd, run⟩ := F w mg fa _ (hY w _ Y) G.T.g hmg
  exact law_callG (hY w _ Y) G.T.g G.T.b G.T.builtins G.T.nolimit hg hobj hints hlen hr run bnd

/-! ### repr -/
mutual
/-- how many nodes and signs -/
def cnt : PyData → Nat
  | .str x => x.length + 1
  | .list xs => cnts xs + 1
  | .tuple xs => cnts xs + 1
  | .dict kvs => cntk kvs + 1
  | _ => 1
def cnts : List PyData → Nat
  | [] => 0
  | x :: xs => cnt x + cnts xs
def cntk : List (PyData × PyData) → Nat
  | [] => 0
  | (a, b) :: xs => cnt a + cnt b + cntk xs
end
def showOk (d : PyData) : Bool := d.canLay0 && d.showable && decide (d.depth ≤ 40) && decide (d.shown.length ≤ lim)
def oRepr : OpN
  | [d] => if showOk d then .val (.frz (.str d.shown)) else .no
  | _ => .no
def rRepr (K : PySem.W.Frag) : List V → Hp → VK → Prop := fun xs H Q => ∃ x d, xs = [x] ∧ Dp K H x d ∧ showOk d = true ∧ Q (.str d.shown) H
theorem cr_repr {X : Cx} (hg : X.A.guards = some []) (hu : X.A.units + 64 < cLine) : CallR X (.builtin "repr") (rRepr X.K) := by
  intro pins s σ H xs us Q I r h
  obtain ⟨x, d, rfl, hd, ok, q⟩ := h
  cases r with
  | cons r1 r2 =>
    rename_i u us
    cases r2
    obtain ⟨as, rd⟩ := Dp.reads I d x u hd r1
    unfold showOk at ok
    simp only [Bool.and_eq_true, decide_eq_true_eq] at ok
    obtain ⟨⟨⟨o1, o2⟩, o3⟩, o4⟩ := ok
    have hz : d.shown.length ≤ sizeLine := lim_le o4
    have fin : ∀ h' (t : Tok) tk, (∀ b o, s.heap.get? b = some o → h'.get? b = some o) → EP X pins σ Q (.str d.shown t) { s with heap := h', toks := tk } := fun h' t tk k => ⟨.str d.shown, H, I.kept (t' := tk) k, ⟨t, rfl⟩, q⟩
    cases d with
    | none => cases rd; exact PySem.P.repr_of_none (fin s.heap _ _ (fun _ _ z => z))
    | bool b => cases rd; exact PySem.P.repr_of_bool (fin s.heap _ _ (fun _ _ z => z))
    | int i => cases rd; exact PySem.P.repr_of_int (by simpa [PyData.showable] using o2) (fin s.heap _ _ (fun _ _ z => z))
    | str y => cases rd; exact PySem.P.repr_of_str (fin s.heap _ _ (fun _ _ z => z)) hz
    | list ds => cases rd with | list h1 h2 h3 h4 => exact repr_of_reads' (.list h1 h2 h3 h4) o2 (fun e => by rw [PyData.hasDict_of_canLay _ o1] at e; cases e) hg (by omega) (fun _ _ z => z) fin hz
    | tuple ds => cases rd with | tuple h1 h2 h3 h4 => exact repr_of_reads' (.tuple h1 h2 h3 h4) o2 (fun e => by rw [PyData.hasDict_of_canLay _ o1] at e; cases e) hg (by omega) (fun _ _ z => z) fin hz
    | dict ds => simp [PyData.canLay0] at o1
theorem ok_repr {K : PySem.W.Frag} : OpNOk K (rRepr K) oRepr := by
  intro xs ds H F Q s r p
  match ds, p with
  | [], p => exact p.elim
  | _ :: _ :: _, p => exact p.elim
  | [d], p =>
    obtain ⟨v, rfl, rv⟩ := RBs.one r
    have e : oRepr [d] = if showOk d then .val (.frz (.str d.shown)) else .no := rfl
    rw [e] at p
    cases ok : showOk d with
    | false => rw [ok] at p; exact p.elim
    | true =>
      rw [ok] at p
      refine ⟨v, d, rfl, RD.dp (by unfold showOk at ok; simp only [Bool.and_eq_true] at ok; exact ok.1.1.1) (rv.rd s), ok, ?_⟩
      exact OPost.str s p
end DL

/-! DLX: dicts whose keys are tuples of whole numbers and texts. -/
namespace DL
open PySem PySem.Spec PyProof.Rows L2

/-! ### keys as data -/
def keyOf : PyData → Option Key
  | .int i => some (.inl i)
  | .str x => some (.inr x)
  | _ => none
def keysOf : List PyData → Option (List Key)
  | [] => some []
  | d :: ds => match keyOf d, keysOf ds with
    | some k, some ks => some (k :: ks)
    | _, _ => none
def tkOf : PyData → Option (List Key)
  | .tuple ds => keysOf ds
  | _ => none
theorem keyOf_keyD (k : Key) : keyOf (keyD k) = some k := by cases k <;> rfl
theorem keysOf_keyD : ∀ ks : List Key, keysOf (ks.map keyD) = some ks
  | [] => rfl
  | k :: ks => by rw [List.map_cons]; unfold keysOf; rw [keyOf_keyD, keysOf_keyD ks]
theorem tkOf_keyD (k : List Key) : tkOf (tkeyD k) = some k := keysOf_keyD k
section
variable {K : PySem.W.Frag} {H F : Hp}
theorem keyOf_rd {v : V} {d : PyData} {k : Key} (r : RD K F v d) (h : keyOf d = some k) : v = kV k := by
  cases d with
  | int i => cases h; cases r; rfl
  | str x => cases h; cases r; rfl
  | _ => cases h
theorem keysOf_rds : ∀ {ds : List PyData} {vs : List V} {ks : List Key}, RDs K F vs ds → keysOf ds = some ks → vs = ks.map kV
  | [], _, _, .nil, h => by cases h; rfl
  | d :: ds, _, _, .cons a b, h => by
    unfold keysOf at h
    cases e1 : keyOf d with
    | none => rw [e1] at h; cases h
    | some k =>
      cases e2 : keysOf ds with
      | none => rw [e1, e2] at h; cases h
      | some ks => rw [e1, e2] at h; cases h; rw [keyOf_rd a e1, keysOf_rds b e2]; rfl
theorem tkOf_rd {v : V} {d : PyData} {k : List Key} (r : RD K F v d) (h : tkOf d = some k) : ∃ b, v = .ref b ∧ F b = some (.tup (k.map kV)) := by
  cases d with
  | tuple ds => cases r with | tup q rs => exact ⟨_, rfl, by rw [← keysOf_rds rs h]; exact q⟩
  | _ => cases h
theorem tkOf_rb {v : V} {d : PyData} {k : List Key} (s : Sub F H) (r : RB K H F v d) (h : tkOf d = some k) : ∃ b, v = .ref b ∧ H b = some (.tup (k.map kV)) := tkOf_rd (r.rd s) h
theorem rds_keys : ∀ k : List Key, RDs K F (k.map kV) (k.map keyD)
  | [] => .nil
  | .inl i :: k => .cons (.int i) (rds_keys k)
  | .inr x :: k => .cons (.str x) (rds_keys k)
end

/-! ### what a dict holds -/
def dget : List (PyData × PyData) → List Key → Option PyData
  | [], _ => none
  | p :: r, k => if tkOf p.1 = some k then some p.2 else dget r k
def dput (kvs : List (PyData × PyData)) (k : List Key) (v : PyData) : List (PyData × PyData) :=
  if (dget kvs k).isSome then kvs.map (fun p => if tkOf p.1 = some k then (p.1, v) else p) else kvs ++ [(tkeyD k, v)]
def zipT (kvs : List (List Key × V)) (ds : List PyData) : List (PyData × PyData) := (kvs.map fun p => tkeyD p.1).zip ds
section
variable {K : PySem.W.Frag} {H F : Hp}
theorem dget_some {k : List Key} {d : PyData} : ∀ {kvs : List (List Key × V)} {ds : List PyData}, RDs K F (kvs.map (·.2)) ds → dget (zipT kvs ds) k = some d → ∃ v, valV kvs k = some v ∧ RD K F v d
  | [], _, .nil, h => by cases h
  | p :: kvs, d0 :: ds, .cons a b, h => by
    have h' : (if tkOf (tkeyD p.1) = some k then some d0 else dget (zipT kvs ds) k) = some d := h
    rw [tkOf_keyD] at h'
    by_cases e : p.1 = k
    · rw [if_pos (by rw [e])] at h'; cases h'; exact ⟨p.2, valV_pos e, a⟩
    · rw [if_neg (fun z => e (Option.some.inj z))] at h'
      obtain ⟨v, h1, h2⟩ := dget_some b h'
      exact ⟨v, by rw [valV_neg e]; exact h1, h2⟩
theorem dget_none {k : List Key} : ∀ {kvs : List (List Key × V)} {ds : List PyData}, RDs K F (kvs.map (·.2)) ds → dget (zipT kvs ds) k = none → valV kvs k = none
  | [], _, .nil, h => rfl
  | p :: kvs, d0 :: ds, .cons a b, h => by
    have h' : (if tkOf (tkeyD p.1) = some k then some d0 else dget (zipT kvs ds) k) = none := h
    rw [tkOf_keyD] at h'
    by_cases e : p.1 = k
    · rw [if_pos (by rw [e])] at h'; cases h'
    · rw [if_neg (fun z => e (Option.some.inj z))] at h'
      rw [valV_neg e]; exact dget_none b h'
theorem dget_isSome {k : List Key} {kvs : List (List Key × V)} {ds : List PyData} (r : RDs K F (kvs.map (·.2)) ds) : (dget (zipT kvs ds) k).isSome = (valV kvs k).isSome := by
  cases e : dget (zipT kvs ds) k with
  | none => rw [dget_none r e]; rfl
  | some d => obtain ⟨v, h, _⟩ := dget_some r e; rw [h]; rfl
theorem dmap_rel {k : List Key} {v : V} {d : PyData} (rv : RD K F v d) : ∀ {kvs : List (List Key × V)} {ds : List PyData}, RDs K F (kvs.map (·.2)) ds →
    ∃ es, (zipT kvs ds).map (fun p => if tkOf p.1 = some k then (p.1, d) else p) = zipT (kvs.map fun kv => if kv.1 = k then (kv.1, v) else kv) es ∧ RDs K F ((kvs.map fun kv => if kv.1 = k then (kv.1, v) else kv).map (·.2)) es
  | [], _, .nil => ⟨[], rfl, .nil⟩
  | p :: kvs, d0 :: ds, .cons a b => by
    obtain ⟨es, h1, h2⟩ := dmap_rel rv b
    have hz : zipT (p :: kvs) (d0 :: ds) = (tkeyD p.1, d0) :: zipT kvs ds := rfl
    rw [hz, List.map_cons, h1]
    simp only [tkOf_keyD]
    by_cases e : p.1 = k
    · rw [if_pos (by rw [e])]
      refine ⟨d :: es, ?_, ?_⟩
      · rw [List.map_cons, if_pos e]; rfl
      · rw [List.map_cons, List.map_cons, if_pos e]; exact .cons rv h2
    · rw [if_neg (fun z => e (Option.some.inj z))]
      refine ⟨d0 :: es, ?_, ?_⟩
      · rw [List.map_cons, if_neg e]; rfl
      · rw [List.map_cons, List.map_cons, if_neg e]; exact .cons a h2
theorem dput_rel {k : List Key} {v : V} {d : PyData} {kvs : List (List Key × V)} {ds : List PyData} (r : RDs K F (kvs.map (·.2)) ds) (rv : RD K F v d) :
    ∃ es, dput (zipT kvs ds) k d = zipT (putK kvs k v) es ∧ RDs K F ((putK kvs k v).map (·.2)) es := by
  unfold dput putK
  rw [dget_isSome r, valV_any]
  cases e : (valV kvs k).isSome with
  | true => rw [if_pos rfl, if_pos rfl]; exact dmap_rel rv r
  | false =>
    rw [if_neg (by simp), if_neg (by simp)]
    have hl : (kvs.map (·.2)).length = ds.length := r.length
    refine ⟨ds ++ [d], ?_, ?_⟩
    · unfold zipT
      rw [List.map_append, List.zip_append (by simpa using hl)]; rfl
    · rw [List.map_append]; exact r.append (.one rv)
/-- keys are tuples, or there are none -/
def isTD : List (PyData × PyData) → Bool
  | [] => true
  | (.tuple _, _) :: _ => true
  | _ => false
theorem isTD_dK {kvs : List (Key × V)} {ds : List PyData} (n : kvs ≠ []) (r : RDs K F (kvs.map (·.2)) ds) : isTD ((kvs.map fun p => keyD p.1).zip ds) = false := by
  cases kvs with
  | nil => exact (n rfl).elim
  | cons p kvs =>
    cases ds with
    | nil => cases r
    | cons d ds =>
      rw [List.map_cons, List.zip_cons_cons]
      cases p.1 <;> rfl
theorem rb_dT {v : V} {kvd : List (PyData × PyData)} (s : Sub F H) (h : RB K H F v (.dict kvd)) (t : isTD kvd = true) :
    ∃ a kvs ds, v = .ref a ∧ Rd H a (.dT kvs) ∧ RDs K F (kvs.map (·.2)) ds ∧ kvd = zipT kvs ds := by
  generalize e : PyData.dict kvd = dd at h
  cases h with
  | own h1 n1 k1 =>
    cases k1 with
    | lst r => cases e
    | dK n r => injection e with e; rw [e, isTD_dK n r] at t; cases t
    | dT r => injection e with e; exact ⟨_, _, _, rfl, .inl h1, r, e⟩
  | fz r =>
    cases r with
    | scr q => injection e with e; rw [e] at t; cases t
    | adr a => injection e with e; rw [e] at t; cases t
    | dK n _ r => injection e with e; rw [e, isTD_dK n r] at t; cases t
    | dT q r => injection e with e; exact ⟨_, _, _, rfl, s.rd _ _ trivial q, r, e⟩
    | _ => cases e
end

/-! ### in, d[k], d[k] = v -/
def dictOf : PyData → Option (List (PyData × PyData))
  | .dict kvd => if isTD kvd then some kvd else none
  | _ => none
theorem dictOf_is {d : PyData} {kvd : List (PyData × PyData)} (h : dictOf d = some kvd) : d = .dict kvd ∧ isTD kvd = true := by
  cases d with
  | dict k =>
    have h' : (if isTD k then some k else none) = some kvd := h
    cases e : isTD k with
    | true => rw [e] at h'; cases h'; exact ⟨rfl, e⟩
    | false => rw [e] at h'; cases h'
  | _ => cases h
def oInT (neg : Bool) : Op2 := fun x y => match dictOf y, tkOf x with
  | some kvd, some k => frzB (if neg then !(dget kvd k).isSome else (dget kvd k).isSome)
  | _, _ => .no
def oIxT : Op2 := fun x y => match dictOf x, tkOf y with
  | some kvd, some k => match dget kvd k with
    | some d => .val (.frz d)
    | none => .no
  | _, _ => .no
def rInT (neg : Bool) : R2 := fun x y H Q => ∃ a o, y = .ref a ∧ DGet H a x o ∧ Q (.bl (if neg then !o.isSome else o.isSome)) H
def rIxD : R2 := fun x y H Q => ∃ a v, x = .ref a ∧ DGet H a y (some v) ∧ Q v H
section
variable {X : Cx} {K : PySem.W.Frag} {H F : Hp} {Q : VK}
theorem op_inT (hu : X.A.units + 1 < cLine) : OpR X (compareOp .In) (rInT false) := by
  intro pins s σ H x y v u Q I rx ry h
  obtain ⟨a, o, rfl, g, q⟩ := h
  cases (show u = Value.ref a from ry)
  exact d_in hu I g rx fun s' I' => ⟨.bl o.isSome, H, I', rfl, q⟩
theorem op_notInT (hu : X.A.units + 1 < cLine) : OpR X (compareOp .NotIn) (rInT true) := by
  intro pins s σ H x y v u Q I rx ry h
  obtain ⟨a, o, rfl, g, q⟩ := h
  cases (show u = Value.ref a from ry)
  exact d_notIn hu I g rx fun s' I' => ⟨.bl (!o.isSome), H, I', rfl, q⟩
theorem ok_inT {neg : Bool} : Op2Ok K (rInT neg) (oInT neg) := by
  intro x y dx dy H F Q s rx ry h
  unfold oInT at h
  cases e1 : dictOf dy with
  | none => rw [e1] at h; exact h.elim
  | some kvd =>
    cases e2 : tkOf dx with
    | none => rw [e1, e2] at h; exact h.elim
    | some k =>
      rw [e1, e2] at h
      obtain ⟨rfl, t⟩ := dictOf_is e1
      obtain ⟨a, kvs, ds, rfl, hr, rs, rfl⟩ := rb_dT s ry t
      obtain ⟨b, rfl, hb⟩ := tkOf_rb s rx e2
      refine ⟨a, valV kvs k, rfl, .inr ⟨kvs, k, b, hr, rfl, hb, rfl⟩, ?_⟩
      rw [← dget_isSome rs]
      exact h.bl s
theorem pe_ixT {a b : Expr} {ta tb : TE} {pos : Pos} (hu : X.A.units + 1 < cLine) (hs : NoSl b) (ha : PE X a ta) (hb : PE X b tb) : PE X (.Subscript a b pos) (tOp rIxD ta tb) := by
  refine ⟨fun pins s σ H Q I h => (pe_dget hu ha hb hs).run pins s σ H Q I ?_⟩
  exact h
theorem ok_ixT : Op2Ok K rIxD oIxT := by
  intro x y dx dy H F Q s rx ry h
  unfold oIxT at h
  cases e1 : dictOf dx with
  | none => rw [e1] at h; exact h.elim
  | some kvd =>
    cases e2 : tkOf dy with
    | none => rw [e1, e2] at h; exact h.elim
    | some k =>
      rw [e1, e2] at h
      obtain ⟨rfl, t⟩ := dictOf_is e1
      obtain ⟨a, kvs, ds, rfl, hr, rs, rfl⟩ := rb_dT s rx t
      obtain ⟨b, rfl, hb⟩ := tkOf_rb s ry e2
      dsimp only at h
      cases e3 : dget (zipT kvs ds) k with
      | none => rw [e3] at h; exact h.elim
      | some d =>
        rw [e3] at h
        obtain ⟨v, hv, rv⟩ := dget_some rs e3
        refine ⟨a, v, rfl, .inr ⟨kvs, k, b, hr, rfl, hb, hv.symm⟩, ?_⟩
        exact h.here s rv
end
section
variable {X : Cx} {xp : XP} {W : WX}
theorem de_ixT {a b : Expr} {oa ob : Opd} {ta tb : TE} {pos : Pos} (hu : X.A.units + 1 < cLine) (ha : DO X xp W a oa ta) (hb : DO X xp W b ob tb) (hs : NoSl b) :
    DE X xp W (.Subscript a b pos) (cOp2 oIxT oa ob) (tOp rIxD ta tb) := ⟨pe_ixT hu hs ha.pe hb.pe, fun _ _ _ _ _ _ w h => tOp_run ha hb ok_ixT w h⟩
def sDict : OpS := fun d dx dv => match dictOf d, tkOf dx with
  | some kvd, some k => if kvd.length < lim then some (.dict (dput kvd k dv)) else none
  | _, _ => none
theorem cont_dT {K : PySem.W.Frag} {F : Hp} {u : HO} {kvd : List (PyData × PyData)} (k : Cont K F u (.dict kvd)) (t : isTD kvd = true) : ∃ kvs ds, u = .dT kvs ∧ RDs K F (kvs.map (·.2)) ds ∧ kvd = zipT kvs ds := by
  generalize e : PyData.dict kvd = dd at k
  cases k with
  | lst r => cases e
  | dK n r => injection e with e; rw [e, isTD_dK n r] at t; cases t
  | dT r => injection e with e; exact ⟨_, _, rfl, r, e⟩
theorem zipT_len {K : PySem.W.Frag} {F : Hp} {kvs : List (List Key × V)} {ds : List PyData} (r : RDs K F (kvs.map (·.2)) ds) : (zipT kvs ds).length = kvs.length := by
  have hl : (kvs.map (·.2)).length = ds.length := r.length
  rw [List.length_map] at hl
  unfold zipT
  rw [List.length_zip, List.length_map, ← hl, Nat.min_self]
theorem ok_setT {K : PySem.W.Frag} : OpSOk K rSetD sDict := by
  intro a u d ix dx x dv d' H F Q s h n k rx rv e hq
  unfold sDict at e
  cases e1 : dictOf d with
  | none => rw [e1] at e; cases e
  | some kvd =>
    cases e2 : tkOf dx with
    | none => rw [e1, e2] at e; cases e
    | some ks =>
      rw [e1, e2] at e
      dsimp only at e
      split at e
      · rename_i hl
        cases e
        obtain ⟨rfl, t⟩ := dictOf_is e1
        obtain ⟨kvs, ds, rfl, rs, rfl⟩ := cont_dT k t
        obtain ⟨b, rfl, hb⟩ := tkOf_rb s rx e2
        obtain ⟨es, p1, p2⟩ := dput_rel (k := ks) rs rv
        rw [zipT_len rs] at hl
        unfold rSetD
        refine ⟨a, upd H a (.dT (putK kvs ks x)), rfl, .inr ⟨kvs, ks, b, h, rfl, hb, lim_lt hl, rfl⟩, ?_⟩
        refine hq _ F _ (Step.upd s h n) upd_same ?_
        rw [p1]
        exact .dT p2
      · cases e

/-! ### {}, {key: value} -/
def cDict0 : CE := fun env => .ok (.own false (.dict [])) env
theorem de_dict0 {pos : Pos} : DE X xp W (.Dict [] [] pos) cDict0 tDNewT :=
  ⟨pe_dnewT, fun e σ H F env Q w p q hq => p _ _ _ (w.grow (w.grow_new hq)) (.refl _) (RN.rc (c := .own false (.dict [])) w (w.grow_new hq) ⟨q, _, rfl, hq, upd_same, w.fresh hq, .dT (kvs := []) (ds := []) .nil⟩)⟩
/-- one pair, its key a tuple -/
def tDict1 (tk tv : TE) : TE := fun σ H Q => ∀ p, H p = none → tPairs [(tk, tv)] σ (upd H p (.dT [])) fun ps H2 => H2 p = some (.dT []) ∧ ∃ b k v, ps = [(.ref b, v)] ∧ H2 b = some (.tup (k.map kV)) ∧ Q (.ref p) (upd H2 p (.dT [(k, v)]))
theorem pe_dict1 {pos : Pos} {k v : Expr} {tk tv : TE} (hu : X.A.units + 1 < cLine) (hk : PE X k tk) (hv : PE X v tv) : PE X (.Dict [some k] [v] pos) (tDict1 tk tv) := by
  refine ⟨fun pins s σ H Q I q => ?_⟩
  have hn := I.hok.fresh (Nat.le_refl s.heap.objs.size)
  have I1 := I.laid (a := s.heap.objs.size) (o := .dT []) (h' := s.heap.push { cls := .type "dict", data := .dict #[] }) (t' := s.toks) (fun _ _ z => Heap.get?_push_of_some _ z) (Nat.le_refl _) (dt_empty s.heap I.big)
  have pp : PPs X pos [some k] [v] [(tk, tv)] := pps_cons hk hv pps_nil
  rw [arm_eval_Dict, zip_pairTrees [some k] [v] X.env pos rfl rfl, dictDisplay_pairs (pairTrees [some k] [v] X.env pos) (fun z => by have := congrArg List.length z; rw [pairTrees_length _ _ _ _ rfl rfl] at this; cases this) (by rw [pairTrees_length _ _ _ _ rfl rfl]; show 1 < 17; decide)]
  refine wpAny_bind (wpAny_standAt (wpAny_bind (wpAny_subDictH (knd := tupleKind (mixKind X.prog X.w)) (by show X.A.units < cLine; omega) (by rw [pairTrees_length _ _ _ _ rfl rfl]; show 1 ≤ 15; decide) ?_)))
  refine thn (pp.run pins _ σ _ _ I1 (q _ hn)) fun ws s2 ⟨ps, H2, I2, rel, e, b, ks, y, ep, hb, q2⟩ => ?_
  subst ep
  cases rel with
  | @cons _ w1 _ ws2 r1 r2 =>
    cases r2
    obtain ⟨u1, u2⟩ := w1
    obtain ⟨ra, rb⟩ := r1
    cases (show u1 = Value.ref b from ra)
    obtain ⟨z, hd, xs0, r0, dd⟩ := dt_of I2.hok e
    cases r0
    refine ⟨[(ks, b, u2)], ⟨rfl, rfl, key_of I2.hok hb, trivial⟩, dd, fun h' tk' dd' hs => wpAny_pure ?_⟩
    have he : ∃ z, h'.get? s.heap.objs.size = some z := let ⟨z, _, _, hz, _⟩ := dd'; ⟨z, hz⟩
    have ne : b ≠ s.heap.objs.size := fun z => by rw [z, e] at hb; cases hb
    refine ⟨.ref s.heap.objs.size, _, d_write I2 (by rw [e]; exact trivial) hs he ?_, rfl, q2⟩
    rw [storedAllH_nil_of_nodup [(ks, b, u2)] (by simp)] at dd'
    obtain ⟨o, es, ep, h1, h2, h3, h4, h5, h6⟩ := dd'
    refine ⟨show 1 ≤ sizeLine by decide, hd, [(ks, b, u2)], .cons ⟨rfl, by rw [upd_ne ne]; exact hb, rb⟩ .nil, o, es, ep, h1, h2, h3, h4, h6⟩
end
section
variable {X : Cx} {xp : XP} {W : WX}
def cDict1 (k v : Opd) : CE := fun env => (k.ev env).bind fun lk env1 => (v.ev env1).bind fun lv env2 => match lk, lv with
  | .now dk, .now dv => match tkOf dk with
    | some _ => .ok (.own false (.dict [(dk, dv)])) env2
    | none => .no
  | _, _ => .no
theorem keyD_of {d : PyData} {k : Key} (h : keyOf d = some k) : d = keyD k := by
  cases d <;> first | (cases h; rfl) | cases h
theorem keysD_of : ∀ {ds : List PyData} {k : List Key}, keysOf ds = some k → ds = k.map keyD
  | [], _, h => by cases h; rfl
  | d :: ds, _, h => by
    unfold keysOf at h
    cases e1 : keyOf d with
    | none => rw [e1] at h; cases h
    | some k =>
      cases e2 : keysOf ds with
      | none => rw [e1, e2] at h; cases h
      | some ks => rw [e1, e2] at h; cases h; rw [keyD_of e1, keysD_of e2]; rfl
theorem tkD_of {d : PyData} {k : List Key} (h : tkOf d = some k) : d = tkeyD k := by
  cases d with
  | tuple ds => exact congrArg PyData.tuple (keysD_of h)
  | _ => cases h
theorem Wl.lay (w : Wl X.K e σ H F env) {p : Addr} {o : HO} (h : H p = none) : Wl X.K e σ (upd H p o) F env := w.grow (w.grow_new h)
theorem de_dict1 {k v : Expr} {ok ov : Opd} {tk tv : TE} {pos : Pos} (hu : X.A.units + 1 < cLine) (hk : DO X xp W k ok tk) (hv : DO X xp W v ov tv) : DE X xp W (.Dict [some k] [v] pos) (cDict1 ok ov) (tDict1 tk tv) := by
  refine ⟨pe_dict1 hu hk.pe hv.pe, fun e σ H F env Q w h p hp => ?_⟩
  have w0 : Wl X.K e σ (upd H p (.dT [])) F env := w.grow (w.grow_new hp)
  -- the new dict lives through the operands
  let e2 : Ent := turnE e σ (upd H p (.dT [])) F env
  have np : ¬ e2.P p := fun ⟨j, b, d, hc, hx⟩ => by
    obtain ⟨u, d, h1, _, _⟩ := mine_cont w hc rfl hx
    rw [hp] at h1; cases h1
  have live : ∀ {H' F' env'}, Wl X.K e2 σ H' F' env' → H' p = some (.dT []) ∧ F' p = none := fun {H' F' env'} w' => by
    refine ⟨w'.keep p _ upd_same np, ?_⟩
    cases z : F' p with
    | none => rfl
    | some o =>
      rcases w'.new p (by rw [z]; exact fun y => nomatch y) with y | y | y
      · exact (y (w.fresh hp)).elim
      · exact (NewA.no (H := upd H p (.dT [])) y upd_same trivial).elim
      · exact (np y).elim
  have we : Wl X.K e2 σ (upd H p (.dT [])) F env := w0.enter
  refine hk.run we (fun x env1 H' F' cls d q w' s y => ?_) (fun q => ?_) fun lk env1 x H1 F1 q w1 s1 l1 => hv.run w1 (fun x env2 H' F' cls d q2 w' s y => ?_) (fun q2 => ?_) fun lv env2 y H2 F2 q2 w2 s2 l2 => ?_
  · unfold cDict1 at h; rw [q] at h; exact h H' F' cls d (w0.leave w') s y
  · unfold cDict1 at h; rw [q] at h; exact h
  · unfold cDict1 at h; rw [q] at h; simp only [Res.bind] at h; rw [q2] at h; exact h H' F' cls d (w0.leave w') (s1.trans s) y
  · unfold cDict1 at h; rw [q] at h; simp only [Res.bind] at h; rw [q2] at h; exact h
  · unfold cDict1 at h; rw [q] at h; simp only [Res.bind] at h; rw [q2] at h; simp only at h
    cases lk with
    | late i => exact h.elim
    | now dk =>
      cases lv with
      | late i => exact h.elim
      | now dv =>
        dsimp only at h
        cases ek : tkOf dk with
        | none => rw [ek] at h; exact h.elim
        | some ks =>
          rw [ek] at h
          obtain ⟨b, rfl, hb⟩ := tkOf_rd (RD.mono s2 l1) ek
          obtain ⟨a1, a2⟩ := live w2
          have wl := w0.leave w2
          refine ⟨a1, b, ks, y, rfl, w2.sub.tp _ _ hb, ?_⟩
          have nb : ∀ (i : Nat) (c : Cell), env2[i]? = some c → c.mine = true → σ[i]? ≠ some (some (.ref p)) := fun i c hc hm hx => by
            cases c with
            | own b d =>
              rcases w2.mine i b d p hc hx with z | z
              · have z' : upd H p (.dT []) p = none := z
                rw [upd_same] at z'; cases z'
              · exact np z
            | lck d =>
              obtain ⟨v, h1, h2⟩ := w2.pin i _ hc (.inr ⟨d, rfl⟩)
              have h3 := w.pin i (.lck d) ((w.lk i d (w2.lk2 i d hc))) (.inr ⟨d, rfl⟩)
              obtain ⟨v', h4, h5⟩ := h3
              obtain ⟨u, d', h6, _, _⟩ := mine_cont w (w.lk i d (w2.lk2 i d hc)) rfl hx
              rw [hp] at h6; cases h6
            | emp => cases hm
            | frz d => cases hm
            | exc x => cases hm
          have wf : Wl X.K e σ (upd H2 p (.dT [(ks, y)])) F2 env2 := wl.free (o := .dT []) a1 a2 (w.old hp) nb
          have ed : PyData.dict [(dk, dv)] = .dict (zipT [(ks, y)] [dv]) := by rw [tkD_of ek]; rfl
          exact h _ _ _ wf (s1.trans s2) ⟨p, _, rfl, upd_same, a2, by rw [ed]; exact .dT (kvs := [(ks, y)]) (ds := [dv]) (.one l2), w.old hp, nb⟩

/-! ### d.get(k, x) -/
def cGet2 (o k x : Opd) : CE := fun env => (o.ev env).bind fun lo env1 => match lo.get env1 with
  | none => .no
  | some d0 => match dictOf d0 with
    | none => .no
    | some _ => (k.ev env1).bind fun lk env2 => (x.ev env2).bind fun lx env3 => match lo.get env3, lk.get env3, lx with
      | some d, some dk, .now dx => match dictOf d, tkOf dk with
        | some kvd, some ks => .ok (.frz ((dget kvd ks).getD dx)) env3
        | _, _ => .no
      | _, _, _ => .no
theorem de_get2 {o k x : Expr} {oo ok ox : Opd} {to tk tx : TE} {apos cpos : Pos} (hu : X.A.units + 1 < cLine) (ho : DO X xp W o oo to) (hk : DO X xp W k ok tk) (hx : DO X xp W x ox tx) (m : M2 X o "get" apos k x cpos) :
    DE X xp W (.Call (.Attribute o "get" apos) [k, x] [] cpos) (cGet2 oo ok ox) (tDGet2 to tk tx) := by
  refine ⟨pe_dget2 hu ho.pe hk.pe hx.pe m, fun e σ H F env Q w h => ?_⟩
  refine ho.run w (fun x env1 H' F' cls d q w' s y => ?_) (fun q => ?_) fun lo env1 v H1 F1 q w1 s1 l1 => ?_
  · unfold cGet2 at h; rw [q] at h; exact h H' F' cls d w' s y
  · unfold cGet2 at h; rw [q] at h; exact h
  · unfold cGet2 at h; rw [q] at h; simp only [Res.bind] at h
    cases g0 : lo.get env1 with
    | none => rw [g0] at h; exact h.elim
    | some d0 =>
      rw [g0] at h; dsimp only at h
      cases g1 : dictOf d0 with
      | none => rw [g1] at h; exact h.elim
      | some kvd0 =>
        rw [g1] at h; dsimp only at h
        obtain ⟨rfl, t0⟩ := dictOf_is g1
        obtain ⟨a, kvs0, ds0, rfl, hr0, _, _⟩ := rb_dT w1.sub (.of w1 l1 g0) t0
        refine ⟨a, rfl, .inr ⟨_, hr0⟩, ?_⟩
        refine hk.run w1 (fun x env2 H' F' cls d q2 w' s y => ?_) (fun q2 => ?_) fun lk env2 kv H2 F2 q2 w2 s2 l2 => hx.run w2 (fun x env3 H' F' cls d q3 w' s y => ?_) (fun q3 => ?_) fun lx env3 xv H3 F3 q3 w3 s3 l3 => ?_
        · rw [q2] at h; exact h H' F' cls d w' (s1.trans s) y
        · rw [q2] at h; exact h
        · rw [q2] at h; dsimp only at h; rw [q3] at h; exact h H' F' cls d w' ((s1.trans s2).trans s) y
        · rw [q2] at h; dsimp only at h; rw [q3] at h; exact h
        · rw [q2] at h; dsimp only at h; rw [q3] at h; dsimp only at h
          cases g2 : lo.get env3 with
          | none => rw [g2] at h; exact h.elim
          | some d =>
            cases g3 : lk.get env3 with
            | none => rw [g2, g3] at h; exact h.elim
            | some dk =>
              rw [g2, g3] at h
              cases lx with
              | late i => exact h.elim
              | now dx =>
                dsimp only at h
                cases g4 : dictOf d with
                | none => rw [g4] at h; exact h.elim
                | some kvd =>
                  cases g5 : tkOf dk with
                  | none => rw [g4, g5] at h; exact h.elim
                  | some ks =>
                    rw [g4, g5] at h
                    obtain ⟨rfl, t⟩ := dictOf_is g4
                    obtain ⟨a', kvs, ds, ea, hr, rs, rfl⟩ := rb_dT w3.sub (.of w3 ((l1.mono s2).mono s3) g2) t
                    cases ea
                    obtain ⟨b, rfl, hb⟩ := tkOf_rb w3.sub (.of w3 (l2.mono s3) g3) g5
                    refine ⟨valV kvs ks, .inr ⟨kvs, ks, b, hr, rfl, hb, rfl⟩, ?_⟩
                    have fin := fun v r => h v H3 F3 w3 ((s1.trans s2).trans s3) r
                    cases g6 : dget (zipT kvs ds) ks with
                    | none => rw [g6] at fin; rw [dget_none rs g6]; exact fin xv l3
                    | some d6 =>
                      rw [g6] at fin
                      obtain ⟨v6, h6, r6⟩ := dget_some rs g6
                      rw [h6]; exact fin v6 r6
end
end DL

/-! DLY: dicts are walked, key by key. -/
namespace DL
open PySem PySem.Spec PyProof.Rows L2
section
variable {K : PySem.W.Frag} {e : Ent} {σ σ' : L2.St} {H F H' F' : Hp} {env env' : Cs} {a : Addr} {u : HO} {od : Obj}
/-- a tuple that stands is told -/
theorem grow_tup {q : Addr} {vs : List V} (s : Sub F H) (h : H q = some (.tup vs)) : Grow H F H (upd F q (.tup vs)) where
  ex := fun _ _ z => z
  fz := by
    refine ⟨fun b u pl r => ?_, fun b n => ?_, fun b ws r => ?_⟩
    · by_cases z : b = q
      · subst z
        have r2 := s.rd _ _ pl r
        rcases r2 with r2 | ⟨o, r2⟩
        · rw [h] at r2; cases r2; exact .inl upd_same
        · rw [h] at r2; cases r2
      · exact rd_congr (upd_ne z).symm r
    · by_cases z : b = q
      · subst z; rw [upd_same]; exact fun y => nomatch y
      · rw [upd_ne z]; exact n
    · by_cases z : b = q
      · subst z
        have r2 := s.tp _ _ r
        rw [h] at r2; cases r2; exact upd_same
      · rw [upd_ne z]; exact r
  sub := by
    refine ⟨fun b u pl r => ?_, fun b n => ?_, fun b ws r => ?_⟩
    · by_cases z : b = q
      · subst z
        rcases r with r | ⟨o, r⟩
        · rw [upd_same] at r; exact .inl (h.trans r)
        · rw [upd_same] at r; cases r
      · exact s.rd _ _ pl (rd_congr (upd_ne z) r)
    · by_cases z : b = q
      · subst z; rw [h]; exact fun y => nomatch y
      · rw [upd_ne z] at n; exact s.dom _ n
    · by_cases z : b = q
      · subst z; rw [upd_same] at r; exact h.trans r
      · rw [upd_ne z] at r; exact s.tp _ _ r
  new := fun b n => by
    by_cases z : b = q
    · subst z; exact .inr (.inr ⟨vs, h⟩)
    · rw [upd_ne z] at n; exact .inl n
/-- the dict stays as it is while e lasts -/
theorem itkt_ok {kvs : List (List Key × V)} {F₁ : Hp} (h0 : e.H₀ a = some (.frz od (.dT kvs))) (np : ¬ e.P a) : ItOk K (Itkt a od kvs) (kvs.map fun p => tkeyD p.1) e F₁ := by
  intro σ H F env w s i
  have hH := w.keep a _ h0 np
  refine ⟨fun d hd => ?_, fun hl => ⟨hH, by simpa using Nat.le_of_eq hl⟩⟩
  rw [List.getElem?_map] at hd
  cases hk : kvs[i]? with
  | none => rw [hk] at hd; cases hd
  | some p =>
    rw [hk] at hd
    cases hd
    refine ⟨⟨hH, (List.getElem?_eq_some_iff.mp hk).1⟩, fun x H' y => ?_⟩
    obtain ⟨rfl, k, v, q, hkv, rfl, hq⟩ := y
    rw [hk] at hkv
    cases hkv
    exact ⟨_, grow_tup w.sub hq, .tup upd_same (rds_keys k)⟩
theorem itk_ok {kvs : List (Key × V)} {F₁ : Hp} (h0 : e.H₀ a = some (.frz od (.dK kvs))) (np : ¬ e.P a) : ItOk K (Itk a od kvs) (kvs.map fun p => keyD p.1) e F₁ := by
  intro σ H F env w s i
  have hH := w.keep a _ h0 np
  refine ⟨fun d hd => ?_, fun hl => ⟨hH, by simpa using Nat.le_of_eq hl⟩⟩
  rw [List.getElem?_map] at hd
  cases hk : kvs[i]? with
  | none => rw [hk] at hd; cases hd
  | some p =>
    rw [hk] at hd
    cases hd
    refine ⟨⟨hH, (List.getElem?_eq_some_iff.mp hk).1⟩, fun x H' y => ?_⟩
    obtain ⟨rfl, k, v, hkv, rfl⟩ := y
    rw [hk] at hkv
    cases hkv
    refine ⟨F, .refl w.sub, ?_⟩
    cases k with
    | inl i => exact .int i
    | inr x => exact .str x
/-- the thing at a is locked -/
theorem Wl.lockD (w : Wl K e σ H F env) (hF : F a ≠ none) (hu : H a = some u) (hm : Mut (some u)) : Wl K (turnE e σ (upd H a (.frz od u)) F env) σ (upd H a (.frz od u)) F env where
  len := w.len
  sub := by
    refine ⟨fun b v pl r => ?_, fun b n => ?_, fun b vs r => ?_⟩
    · by_cases z : b = a
      · subst z
        rcases w.sub.rd _ _ pl r with q | ⟨o, q⟩
        · rw [hu] at q; cases q; exact .inr ⟨od, upd_same⟩
        · rw [hu] at q; cases q; exact hm.elim
      · exact rd_congr (upd_ne z).symm (w.sub.rd _ _ pl r)
    · by_cases z : b = a
      · subst z; rw [upd_same]; exact fun y => nomatch y
      · rw [upd_ne z]; exact w.sub.dom _ n
    · by_cases z : b = a
      · subst z
        have q := w.sub.tp _ _ r
        rw [hu] at q; cases q; exact hm.elim
      · rw [upd_ne z]; exact w.sub.tp _ _ r
  cell := fun i c x hc hx => by
    have q := w.cell i c x hc hx
    cases c with
    | emp => trivial
    | frz d => exact q
    | own b d => obtain ⟨p, v, e1, h1, n1, k1⟩ := q; exact ⟨p, v, e1, by rw [upd_ne (fun z => hF (by rw [← z]; exact n1))]; exact h1, n1, k1⟩
    | lck d => obtain ⟨p, v, e1, h1, n1, k1⟩ := q; exact ⟨p, v, e1, by rw [upd_ne (fun z => hF (by rw [← z]; exact n1))]; exact h1, n1, k1⟩
    | exc x => exact q.elim
  apart := w.apart
  keep := fun _ _ h _ => h
  new := fun b h => .inl h
  mine := fun i b d p hc hx => .inr ⟨i, b, d, hc, hx⟩
  pin := w.pin
  lk := w.lk
  lk2 := w.lk2
theorem Wl.unlockD (w : Wl K e σ H F env) (hF : F a ≠ none) (hu : H a = some u) (hm : Mut (some u)) (w' : Wl K (turnE e σ (upd H a (.frz od u)) F env) σ' H' F' env') (s : Sub F F') : H' a = some (.frz od u) ∧ Wl K e σ' (upd H' a u) F' env' := by
  have np : ¬ (turnE e σ (upd H a (.frz od u)) F env).P a := fun ⟨j, b, d, hc, hx⟩ => by
    obtain ⟨_, _, _, n1, _⟩ := mine_cont w hc rfl hx
    exact hF n1
  have hl : H' a = some (.frz od u) := w'.keep a _ upd_same np
  have hF' : F' a ≠ none := s.dom a hF
  refine ⟨hl, ⟨w'.len, ?_, ?_, w'.apart, ?_, ?_, ?_, w'.pin, w'.lk, w'.lk2⟩⟩
  · refine ⟨fun b v pl r => ?_, fun b n => ?_, fun b vs r => ?_⟩
    · by_cases z : b = a
      · subst z
        rcases w'.sub.rd _ _ pl r with q | ⟨o, q⟩
        · rw [hl] at q; cases q; exact pl.elim
        · rw [hl] at q; cases q; exact .inl upd_same
      · exact rd_congr (upd_ne z).symm (w'.sub.rd _ _ pl r)
    · by_cases z : b = a
      · subst z; rw [upd_same]; exact fun y => nomatch y
      · rw [upd_ne z]; exact w'.sub.dom _ n
    · by_cases z : b = a
      · subst z
        have q := w'.sub.tp _ _ r
        rw [hl] at q; cases q
      · rw [upd_ne z]; exact w'.sub.tp _ _ r
  · intro i c x hc hx
    have q := w'.cell i c x hc hx
    cases c with
    | emp => trivial
    | frz d => exact q
    | own b d => obtain ⟨p, v, e1, h1, n1, k1⟩ := q; exact ⟨p, v, e1, by rw [upd_ne (fun z => hF' (by rw [← z]; exact n1))]; exact h1, n1, k1⟩
    | lck d => obtain ⟨p, v, e1, h1, n1, k1⟩ := q; exact ⟨p, v, e1, by rw [upd_ne (fun z => hF' (by rw [← z]; exact n1))]; exact h1, n1, k1⟩
    | exc x => exact q.elim
  · intro b o h n
    by_cases z : b = a
    · subst z
      have q := w.keep b o h n
      rw [hu] at q; cases q; exact upd_same
    · rw [upd_ne z]
      refine w'.keep b o ?_ fun ⟨j, b2, d, hc, hx⟩ => ?_
      · show upd H a (.frz od u) b = some o
        rw [upd_ne z]; exact w.keep b o h n
      · rcases w.mine j b2 d b hc hx with y | y
        · rw [y] at h; cases h
        · exact n y
  · intro b h
    rcases w'.new b h with y | y | ⟨j, b2, d, hc, hx⟩
    · exact w.new b y
    · by_cases p : e.P b
      · exact .inr (.inr p)
      · by_cases z : b = a
        · subst z
          rcases y with y | ⟨vs, y⟩
          · have y' : upd H b (.frz od u) b = none := y
            rw [upd_same] at y'; cases y'
          · have y' : upd H b (.frz od u) b = some (.tup vs) := y
            rw [upd_same] at y'; cases y'
        · refine .inr (.inl (w.newA p ?_))
          rcases y with y | ⟨vs, y⟩
          · have y' : upd H a (.frz od u) b = none := y
            rw [upd_ne z] at y'; exact .inl y'
          · have y' : upd H a (.frz od u) b = some (.tup vs) := y
            rw [upd_ne z] at y'; exact .inr ⟨vs, y'⟩
    · rcases w.mine j b2 d b hc hx with z | z
      · exact .inr (.inl (.inl z))
      · exact .inr (.inr z)
  · intro i b d p hc hx
    rcases w'.mine i b d p hc hx with y | ⟨j, b2, d2, hc2, hx2⟩
    · by_cases z : p = a
      · subst z
        have y' : upd H p (.frz od u) p = none := y
        rw [upd_same] at y'; cases y'
      · have y' : upd H a (.frz od u) p = none := y
        rw [upd_ne z] at y'; exact w.old y'
    · exact w.mine j b2 d2 p hc2 hx2
end

/-! ### the keys of a dict -/
def isKD : List (PyData × PyData) → Bool
  | (.int _, _) :: _ => true
  | (.str _, _) :: _ => true
  | _ => false
def dwalk (kvd : List (PyData × PyData)) : Option (List PyData) := if (isTD kvd || isKD kvd) && decide (kvd.length ≤ lim) then some (kvd.map (·.1)) else none
section
variable {K : PySem.W.Frag} {F : Hp}
theorem zip_fst {α β : Type} : ∀ {xs : List α} {ys : List β}, xs.length = ys.length → (xs.zip ys).map (·.1) = xs
  | [], _, _ => rfl
  | x :: xs, [], h => by cases h
  | x :: xs, y :: ys, h => by rw [List.zip_cons_cons, List.map_cons, zip_fst (by simpa using h)]
theorem rd_walk {v : V} {kvd : List (PyData × PyData)} {items : List PyData} (r : RD K F v (.dict kvd)) (h : dwalk kvd = some items) :
    ∃ a, v = .ref a ∧ ((∃ kvs, Rd F a (.dT kvs) ∧ items = kvs.map fun p => tkeyD p.1) ∨ ∃ kvs, Rd F a (.dK kvs) ∧ items = kvs.map fun p => keyD p.1) ∧ items.length ≤ lim := by
  unfold dwalk at h
  split at h
  · rename_i hc
    rw [Bool.and_eq_true, decide_eq_true_eq] at hc
    cases h
    have hl : (kvd.map (·.1)).length ≤ lim := by rw [List.length_map]; exact hc.2
    generalize e : PyData.dict kvd = dd at r
    cases r with
    | scr q => injection e with e; rw [e] at hc; cases hc.1
    | adr a => injection e with e; rw [e] at hc; cases hc.1
    | dK n q rs =>
      rename_i a kvs ds
      injection e with e
      have el : (kvs.map fun p => keyD p.1).length = ds.length := by have := rs.length; simpa using this
      refine ⟨_, rfl, .inr ⟨_, q, ?_⟩, hl⟩
      rw [e, zip_fst el]
    | dT q rs =>
      rename_i a kvs ds
      injection e with e
      have el : (kvs.map fun p => tkeyD p.1).length = ds.length := by have := rs.length; simpa using this
      refine ⟨_, rfl, .inl ⟨_, q, ?_⟩, hl⟩
      rw [e, zip_fst el]
    | _ => cases e
  · cases h
end

/-! ### for k in d, d a name; [.. for k in d ..] -/
def noEx : SRes → SRes
  | .ex _ _ => .no
  | r => r
def cForK (i : Nat) (g : Tg) (body : CS) : CS := fun env => match env.getD i .emp with
  | .frz (.dict kvd) => match dwalk kvd with
    | some ds => noEx (forL g body ds env)
    | none => .no
  | .own false (.dict kvd) => match dwalk kvd with
    | some ds => noEx (forL g body ds (env.set i (.frz (.dict kvd))))
    | none => .no
  | _ => .no
section
variable {X : Cx} {xp : XP} {W : WX}
theorem PS.or {st : Stmt} {t t' : TS} (h : PS X st t) (h' : PS X st t') : PS X st (fun D σ H => t D σ H ∨ t' D σ H) :=
  ⟨fun pins s σ H D I q => q.elim (h.run pins s σ H D I) (h'.run pins s σ H D I)⟩
theorem PE.or {ex : Expr} {t t' : TE} (h : PE X ex t) (h' : PE X ex t') : PE X ex (fun σ H Q => t σ H Q ∨ t' σ H Q) :=
  ⟨fun pins s σ H Q I q => q.elim (h.run pins s σ H Q I) (h'.run pins s σ H Q I)⟩
theorem forK_run {i : Nat} {g : Tg} {tg : Expr} {gt : TG} {body : List Stmt} {cb : CS} {tb : TS} (hg : DG X tg g gt) (hb : ∀ e σ H F env D, Wl X.K e σ H F env → SPost X.K xp W e F D (cb env) → tb D σ H)
    {e : Ent} {σ : L2.St} {H F : Hp} {env : Cs} {D : Ends} {v : V} {kvd : List (PyData × PyData)} {items : List PyData} (w : Wl X.K e σ H F env) (hx : σ[i]? = some (some v)) (r : RD X.K F v (.dict kvd)) (hw : dwalk kvd = some items)
    (h : SPost X.K xp W e F D (noEx (forL g cb items env))) : tLock (tFor (iKeys (tVar i)) gt tb) D σ H ∨ tFor (iKeys (tVar i)) gt tb D σ H := by
  obtain ⟨a, rfl, hr, hl⟩ := rd_walk r hw
  -- the dict, its walker
  have key : ∃ u, Mut (some u) ∧ Rd F a u ∧ Plain u ∧ ∀ (od : Obj) (H1 : Hp) (R : It → Hp → Prop), H1 a = some (.frz od u) → (∀ J, (∀ e1 : Ent, ∀ F1, e1.H₀ a = some (.frz od u) → ¬ e1.P a → ItOk X.K J items e1 F1) → R J H1) → iKeys (tVar i) σ H1 R := by
    rcases hr with ⟨kvs, q, rfl⟩ | ⟨kvs, q, rfl⟩
    · exact ⟨.dT kvs, trivial, q, trivial, fun od H1 R h1 hR => ⟨_, hx, a, od, rfl, .inr ⟨kvs, h1, hR _ fun e1 F1 a1 a2 => itkt_ok a1 a2⟩⟩⟩
    · exact ⟨.dK kvs, trivial, q, trivial, fun od H1 R h1 hR => ⟨_, hx, a, od, rfl, .inl ⟨kvs, h1, hR _ fun e1 F1 a1 a2 => itk_ok a1 a2⟩⟩⟩
  obtain ⟨u, hm, hru, pl, start⟩ := key
  have hF : F a ≠ none := rd_dom hru
  rcases w.sub.rd _ _ pl hru with hu | ⟨o, hu⟩
  · refine .inl ⟨a, u, hu, hm, fun od => start od _ _ upd_same fun J it => ?_⟩
    have w2 := w.lockD (od := od) hF hu hm
    have np : ¬ (turnE e σ (upd H a (.frz od u)) F env).P a := fun ⟨j, b, d, hc, hx⟩ => by
      obtain ⟨_, _, _, n1, _⟩ := mine_cont w hc rfl hx
      exact hF n1
    refine for_run (body := body) hg hb w2 (it _ F upd_same np) ?_
    cases z : forL g cb items env with
    | nx env2 => rw [z] at h; intro σ' H' F' w' s; obtain ⟨q1, q2⟩ := w.unlockD hF hu hm w' s; exact ⟨q1, h σ' _ F' q2 s⟩
    | bk env2 => rw [z] at h; intro σ' H' F' w' s; obtain ⟨q1, q2⟩ := w.unlockD hF hu hm w' s; exact ⟨q1, h σ' _ F' q2 s⟩
    | ct env2 => rw [z] at h; intro σ' H' F' w' s; obtain ⟨q1, q2⟩ := w.unlockD hF hu hm w' s; exact ⟨q1, h σ' _ F' q2 s⟩
    | ex x env2 => rw [z] at h; exact h.elim
    | no => rw [z] at h; exact h.elim
    | rt c env2 =>
      rw [z] at h
      intro v σ' H' F' w' s rc
      obtain ⟨q1, q2⟩ := w.unlockD hF hu hm w' s
      refine ⟨q1, h v σ' _ F' q2 s ?_⟩
      cases c with
      | frz d => exact rc
      | own b d =>
        obtain ⟨p, ob, rfl, h1, n1, k1, m, no⟩ := rc
        have nea : p ≠ a := fun z => (s.dom a hF) (by rw [← z]; exact n1)
        refine ⟨p, ob, rfl, by rw [upd_ne nea]; exact h1, n1, k1, ?_, no⟩
        rcases m with m | ⟨j, b2, d2, hc2, hx2⟩
        · have m' : upd H a (.frz od u) p = none := m
          rw [upd_ne nea] at m'; exact w.old m'
        · exact w.mine j b2 d2 p hc2 hx2
      | emp => exact rc.elim
      | lck d => exact rc.elim
      | exc x => exact rc.elim
  · refine .inr (start o _ _ hu fun J it => ?_)
    have np : ¬ (turnE e σ H F env).P a := fun ⟨j, b, d, hc, hx⟩ => by
      obtain ⟨_, _, _, n1, _⟩ := mine_cont w hc rfl hx
      exact hF n1
    refine for_run (body := body) hg hb w.enter (it _ F hu np) ?_
    cases z : forL g cb items env with
    | nx env2 => rw [z] at h; exact fun σ' H' F' w' s => h σ' _ F' (w.leave w') s
    | bk env2 => rw [z] at h; exact fun σ' H' F' w' s => h σ' _ F' (w.leave w') s
    | ct env2 => rw [z] at h; exact fun σ' H' F' w' s => h σ' _ F' (w.leave w') s
    | ex x env2 => rw [z] at h; exact h.elim
    | no => rw [z] at h; exact h.elim
    | rt c env2 =>
      rw [z] at h
      intro v σ' H' F' w' s rc
      refine h v σ' _ F' (w.leave w') s ?_
      cases c with
      | frz d => exact rc
      | own b d =>
        obtain ⟨p, ob, rfl, h1, n1, k1, m, no⟩ := rc
        refine ⟨p, ob, rfl, h1, n1, k1, ?_, no⟩
        rcases m with m | ⟨j, b2, d2, hc2, hx2⟩
        · exact w.old m
        · exact w.mine j b2 d2 p hc2 hx2
      | emp => exact rc.elim
      | lck d => exact rc.elim
      | exc x => exact rc.elim
theorem ds_forK {tg iter : Expr} {body : List Stmt} {i : Nat} {g : Tg} {gt : TG} {cb : CS} {pos : Pos} (hp : PassesOwn (PySem.model X.prog X.w) X.A X.env X.xe) (hc : X.calm = true) (hi : PE X iter (tVar i)) (hg : DG X tg g gt) (hb : DSs X xp W body cb)
    (hs : ∀ x, foldedSetIterable iter X.env x = pure x := by intro _; rfl) : DS X xp W (.For tg iter body [] pos) (cForK i g cb) := by
  obtain ⟨tb, pb, qb⟩ := hb
  have p0 := ps_for hp hc (pi_keys hi) hg.1 pb hs (pos := pos)
  refine ⟨_, PS.or (ps_lock p0) p0, fun e σ H F env D w h => ?_⟩
  unfold cForK at h
  cases gi : env.getD i .emp with
  | frz d =>
    rw [gi] at h
    cases d with
    | dict kvd =>
      dsimp only at h
      cases gw : dwalk kvd with
      | none => rw [gw] at h; exact h.elim
      | some ds =>
        rw [gw] at h
        have hc := of_getD gi (fun z => nomatch z)
        obtain ⟨x, hx⟩ := w.slot hc
        obtain ⟨v, rfl, r⟩ := w.cell i _ _ hc hx
        exact forK_run (body := body) hg qb w hx r gw h
    | _ => exact h.elim
  | own b d =>
    rw [gi] at h
    cases b with
    | true => exact h.elim
    | false =>
      cases d with
      | dict kvd =>
        dsimp only at h
        cases gw : dwalk kvd with
        | none => rw [gw] at h; exact h.elim
        | some ds =>
          rw [gw] at h
          obtain ⟨F', v, hx, w', s, r⟩ := w.give (of_getD gi (fun z => nomatch z))
          exact forK_run (body := body) hg qb w' hx r gw (SPost.subs s h)
      | _ => exact h.elim
  | emp => rw [gi] at h; exact h.elim
  | lck d => rw [gi] at h; exact h.elim
  | exc x => rw [gi] at h; exact h.elim
def cCompK (i : Nat) (g : Tg) (ct : CT) (ce : CE) (vs : List Nat) : CE := fun env => match anyMineS env vs || vs.contains i with
  | true => .no
  | false => match env.getD i .emp with
    | .frz (.dict kvd) => match dwalk kvd with
      | some ds => match compL g ct ce vs ds env with
        | .ok xs env2 => .ok (.own false (.list xs)) (backE env vs env2)
        | _ => .no
      | none => .no
    | .own false (.dict kvd) => match dwalk kvd with
      | some ds => match compL g ct ce vs ds (env.set i (.frz (.dict kvd))) with
        | .ok xs env2 => .ok (.own false (.list xs)) (backE (env.set i (.frz (.dict kvd))) vs env2)
        | _ => .no
      | none => .no
    | _ => .no
abbrev tCompK (X : Cx) (i : Nat) (gt : TG) (tt : TT) (te : TE) (vs : List Nat) : TE := fun σ H Q => tLockE (tLc (iKeys (tVar i)) gt tt te vs) σ H Q ∨ tLc (iKeys (tVar i)) gt tt te vs σ H Q
theorem compK_run {tg : Expr} {i : Nat} {g : Tg} {gt : TG} {ct : CT} {tt : TT} {ce : CE} {te : TE} {vs : List Nat}
    (hg : ∀ e σ H F env env' v d Q, Wl X.K e σ H F env → RD X.K F v d → g.put d env = some env' → (∀ σ', Wl X.K e σ' H F env' → Off g.slots σ σ' → Q σ' H) → gt v σ H Q) (hgs : ∀ i ∈ g.slots, i ∈ vs)
    (ht : ∀ e σ H F env Q, Wl X.K e σ H F env → PostT X.K xp WF e σ F Q (ct env) → tt σ H Q) (he : ∀ e σ H F env Q, Wl X.K e σ H F env → Post X.K xp WF e σ F Q (ce env) → te σ H Q)
    {e : Ent} {σ : L2.St} {H F : Hp} {env env2 : Cs} {Q : VK} {v : V} {kvd : List (PyData × PyData)} {items xs : List PyData} (w : Wl X.K e σ H F env) (hx : σ[i]? = some (some v)) (r : RD X.K F v (.dict kvd)) (hw : dwalk kvd = some items)
    (hm : ∀ v ∈ vs, (env.getD v .emp).mine = false) (gc : compL g ct ce vs items env = .ok xs env2)
    (h : ∀ v H' F', Wl X.K e σ H' F' (backE env vs env2) → Sub F F' → RC X.K e σ H' F' (backE env vs env2) v (.own false (.list xs)) → Q v H') : tCompK X i gt tt te vs σ H Q := by
  obtain ⟨a, rfl, hr, hl⟩ := rd_walk r hw
  have key : ∃ u, Mut (some u) ∧ Rd F a u ∧ Plain u ∧ ∀ (od : Obj) (H1 : Hp) (R : It → Hp → Prop), H1 a = some (.frz od u) → (∀ J, (∀ e1 : Ent, ∀ F1, e1.H₀ a = some (.frz od u) → ¬ e1.P a → ItOk X.K J items e1 F1) → R J H1) → iKeys (tVar i) σ H1 R := by
    rcases hr with ⟨kvs, q, rfl⟩ | ⟨kvs, q, rfl⟩
    · exact ⟨.dT kvs, trivial, q, trivial, fun od H1 R h1 hR => ⟨_, hx, a, od, rfl, .inr ⟨kvs, h1, hR _ fun e1 F1 a1 a2 => itkt_ok a1 a2⟩⟩⟩
    · exact ⟨.dK kvs, trivial, q, trivial, fun od H1 R h1 hR => ⟨_, hx, a, od, rfl, .inl ⟨kvs, h1, hR _ fun e1 F1 a1 a2 => itk_ok a1 a2⟩⟩⟩
  obtain ⟨u, hmu, hru, pl, start⟩ := key
  have hF : F a ≠ none := rd_dom hru
  rcases w.sub.rd _ _ pl hru with hu | ⟨o, hu⟩
  · refine .inl ⟨a, u, hu, hmu, fun od => start od _ _ upd_same fun J it D hD => ?_⟩
    have w2 := w.lockD (od := od) hF hu hmu
    have np : ¬ (turnE e σ (upd H a (.frz od u)) F env).P a := fun ⟨j, b, d, hc, hx⟩ => by
      obtain ⟨_, _, _, n1, _⟩ := mine_cont w hc rfl hx
      exact hF n1
    have nda : D ≠ a := fun z => by rw [z, upd_same] at hD; cases hD
    refine comp_run (X := X) (tg := tg) (xp' := xp) (Q := fun v H' => H' a = some (.frz od u) ∧ Q v (upd H' a u)) hg hgs ht he w2 (it _ F upd_same np) (lim_le hl) hD hm gc fun H' F' w' s' _ vx hd hn r no => ?_
    obtain ⟨q1, q2⟩ := w.unlockD hF hu hmu w' s'
    refine ⟨q1, h (.ref D) _ F' q2 s' ⟨D, .lst vx, rfl, by rw [upd_ne nda]; exact hd, hn, .lst r, ?_, no⟩⟩
    rw [upd_ne nda] at hD
    exact w.old hD
  · refine .inr (start o _ _ hu fun J it D hD => ?_)
    have np : ¬ (turnE e σ H F env).P a := fun ⟨j, b, d, hc, hx⟩ => by
      obtain ⟨_, _, _, n1, _⟩ := mine_cont w hc rfl hx
      exact hF n1
    refine comp_run (X := X) (tg := tg) (xp' := xp) hg hgs ht he w.enter (it _ F hu np) (lim_le hl) hD hm gc fun H' F' w' s' _ vx hd hn r no => ?_
    exact h (.ref D) _ F' (w.leave w') s' ⟨D, .lst vx, rfl, hd, hn, .lst r, w.old hD, no⟩
theorem compK_post {tg : Expr} {i : Nat} {g : Tg} {gt : TG} {ct : CT} {tt : TT} {ce : CE} {te : TE} {vs : List Nat}
    (hg : ∀ e σ H F env env' v d Q, Wl X.K e σ H F env → RD X.K F v d → g.put d env = some env' → (∀ σ', Wl X.K e σ' H F env' → Off g.slots σ σ' → Q σ' H) → gt v σ H Q) (hgs : ∀ i ∈ g.slots, i ∈ vs)
    (ht : ∀ e σ H F env Q, Wl X.K e σ H F env → PostT X.K xp WF e σ F Q (ct env) → tt σ H Q) (he : ∀ e σ H F env Q, Wl X.K e σ H F env → Post X.K xp WF e σ F Q (ce env) → te σ H Q)
    {e : Ent} {σ : L2.St} {H F : Hp} {env : Cs} {Q : VK} (w : Wl X.K e σ H F env) (h : Post X.K xp W e σ F Q (cCompK i g ct ce vs env)) : tCompK X i gt tt te vs σ H Q := by
  unfold cCompK at h
  cases ga : anyMineS env vs || vs.contains i with
  | true => rw [ga] at h; exact h.elim
  | false =>
    rw [ga] at h; dsimp only at h
    rw [Bool.or_eq_false_iff] at ga
    have hiv : i ∉ vs := fun z => by
      have := List.contains_iff_mem.mpr z
      rw [ga.2] at this; cases this
    cases gi : env.getD i .emp with
    | emp => rw [gi] at h; exact h.elim
    | exc x => rw [gi] at h; exact h.elim
    | lck d => rw [gi] at h; exact h.elim
    | frz d =>
      rw [gi] at h
      cases d with
      | dict kvd =>
        dsimp only at h
        cases gw : dwalk kvd with
        | none => rw [gw] at h; exact h.elim
        | some ds =>
          rw [gw] at h; dsimp only at h
          have hc := of_getD gi (fun z => nomatch z)
          obtain ⟨x, hx⟩ := w.slot hc
          obtain ⟨v, rfl, r⟩ := w.cell i _ _ hc hx
          cases gc : compL g ct ce vs ds env with
          | no => rw [gc] at h; exact h.elim
          | ex x env2 => rw [gc] at h; exact h.elim
          | ok xs env2 => rw [gc] at h; exact compK_run (tg := tg) hg hgs ht he w hx r gw (anyMineS_no ga.1) gc h
      | _ => exact h.elim
    | own b d =>
      rw [gi] at h
      cases b with
      | true => exact h.elim
      | false =>
        cases d with
        | dict kvd =>
          dsimp only at h
          cases gw : dwalk kvd with
          | none => rw [gw] at h; exact h.elim
          | some ds =>
            rw [gw] at h; dsimp only at h
            obtain ⟨F', v, hx, w', s, r⟩ := w.give (of_getD gi (fun z => nomatch z))
            cases gc : compL g ct ce vs ds (env.set i (.frz (.dict kvd))) with
            | no => rw [gc] at h; exact h.elim
            | ex x env2 => rw [gc] at h; exact h.elim
            | ok xs env2 =>
              rw [gc] at h
              have hm : ∀ v ∈ vs, ((env.set i (.frz (.dict kvd))).getD v .emp).mine = false := fun v hv => by
                have ne : i ≠ v := fun z => hiv (by rw [z]; exact hv)
                rw [List.getD_eq_getElem?_getD, List.getElem?_set_ne ne, ← List.getD_eq_getElem?_getD]; exact anyMineS_no ga.1 v hv
              exact compK_run (tg := tg) hg hgs ht he w' hx r gw hm gc fun v H1 F1 w1 s1 rc => h v H1 F1 w1 (s.trans s1) rc
        | _ => exact h.elim
theorem de_compK {elt tg iter : Expr} {ifs : List Expr} {scope : Scope} {own : List (Str × Nat)} {pos : Pos} {i : Nat} {g : Tg} {gt : TG} {ct : CT} {tt : TT} {ce : CE} {te : TE} (hc : X.calm = true) (hN : X.N.Nodup) (hi : PE X iter (tVar i)) (ok : BlkOk X.N X.env.scope scope own)
    (hg : ∀ (s : Shared) (H : Hp) (C : Addr) (cl : List (Str × Addr)) (fp : List Addr), DG (X.blk s H scope (compEnvC scope cl C X.env) fp) tg g gt) (ht : ∀ (s : Shared) (H : Hp) (C : Addr) (cl : List (Str × Addr)) (fp : List Addr), DTs (X.blk s H scope (compEnvC scope cl C X.env) fp) xp WF ifs ct tt)
    (he : ∀ (s : Shared) (H : Hp) (C : Addr) (cl : List (Str × Addr)) (fp : List Addr), DE (X.blk s H scope (compEnvC scope cl C X.env) fp) xp WF elt ce te) (hgs : ∀ i ∈ g.slots, i ∈ own.map (·.2) := by decide) (hs : ∀ x, foldedSetIterable iter X.env x = pure x := by intro _; rfl) :
    DE X xp W (.ListComp elt [⟨tg, iter, ifs, 0⟩] scope pos) (cCompK i g ct ce (own.map (·.2))) (tCompK X i gt tt te (own.map (·.2))) := by
  have p0 := pe_lc (pos := pos) hc hN (pi_keys (tg := tg) hi) ok (fun s H C cl fp => (hg s H C cl fp).1) (fun s H C cl fp => (ht s H C cl fp).1) (fun s H C cl fp => (he s H C cl fp).1) hs
  exact ⟨PE.or (pe_lock p0) p0, fun e σ H F env Q w h => compK_post (tg := tg) (hg X.s_0 X.H_0 0 [] []).2 hgs (ht X.s_0 X.H_0 0 [] []).2 (he X.s_0 X.H_0 0 [] []).2 w h⟩
/-- the statement runs while the dict is locked -/
theorem ds_setCompK {i : Nat} {y : Str} {py : Pos} {elt tg iter : Expr} {ifs : List Expr} {scope : Scope} {own : List (Str × Nat)} {pos spos : Pos} {j : Nat} {g : Tg} {gt : TG} {ct : CT} {tt : TT} {ce : CE} {te : TE} (hc : X.calm = true) (hN : X.N.Nodup) (hy : X.N[i]? = some y) (hyl : X.env.scope.names.lookup y = some .local)
    (hsw : swapsWith (.ListComp elt [⟨tg, iter, ifs, 0⟩] scope pos) (some (.Name y py)) spos.line X.env = pure true) (hi : PE X iter (tVar j)) (ok : BlkOk X.N X.env.scope scope own)
    (hg : ∀ (s : Shared) (H : Hp) (C : Addr) (cl : List (Str × Addr)) (fp : List Addr), DG (X.blk s H scope (compEnvC scope cl C X.env) fp) tg g gt) (ht : ∀ (s : Shared) (H : Hp) (C : Addr) (cl : List (Str × Addr)) (fp : List Addr), DTs (X.blk s H scope (compEnvC scope cl C X.env) fp) xp WF ifs ct tt)
    (he : ∀ (s : Shared) (H : Hp) (C : Addr) (cl : List (Str × Addr)) (fp : List Addr), DE (X.blk s H scope (compEnvC scope cl C X.env) fp) xp WF elt ce te) (hgs : ∀ i ∈ g.slots, i ∈ own.map (·.2) := by decide) (hs : ∀ x, foldedSetIterable iter X.env x = pure x := by intro _; rfl) :
    DS X xp W (.Assign [.Name y py] (.ListComp elt [⟨tg, iter, ifs, 0⟩] scope pos) spos) (cSet i (cCompK j g ct ce (own.map (·.2)))) := by
  have p0 := ps_setLc (i := i) (py := py) hc hN hy hyl hsw (pi_keys (tg := tg) hi) ok (fun s H C cl fp => (hg s H C cl fp).1) (fun s H C cl fp => (ht s H C cl fp).1) (fun s H C cl fp => (he s H C cl fp).1) hs
  refine ⟨_, PS.or (ps_lock p0) p0, fun e σ H F env D w h => ?_⟩
  have q := compK_post (tg := tg) (i := j) (vs := own.map (·.2)) (hg X.s_0 X.H_0 0 [] []).2 hgs (ht X.s_0 X.H_0 0 [] []).2 (he X.s_0 X.H_0 0 [] []).2 w (set_run h)
  rcases q with ⟨d, u, h1, h2, h3⟩ | q
  · exact .inl ⟨d, u, h1, h2, fun od => h3 od⟩
  · exact .inr q
end
end DL

/-! DLZ: sorted(set(xs)), len(set(xs)) of whole numbers. -/
namespace DL
open PySem PySem.Spec PyProof.Rows L2
section
variable {P : Program} {w : World} {A : Around} {E : Value → Shared → Prop} {s : Shared}
abbrev setObj0 (w : World) : Obj := { cls := .type "set", dict := none, data := .set #[] 0 (.fresh 0 0 (!w.params.followText "set-order")) }
theorem set_of_listI {l : Addr} {xs : Array Value} (ns : List Int) {Q : Value → Shared → Prop} (calm : A.handled = none) (hl : s.heap.IsList l xs) (hin : IntsAre xs.toList ns) (few : ns.length + 1 < scanBound)
    (fin : ∀ (h' : Heap) (tk c : Nat), SetR w h' s.heap.objs.size (fun j => decide (j ∈ ns)) c → c ≤ ns.length → (∀ b o, s.heap.get? b = some o → h'.get? b = some o) → Q (.ref s.heap.objs.size) { s with heap := h', toks := tk }) :
    wpAny (model P w) A (call (.type "set") [Value.ref l]) Q E s := by
  have size : xs.size = ns.length := by have q := IntsAre.length hin; rw [Array.length_toList] at q; exact q
  obtain ⟨c0, tl0, mro0⟩ := F.called_set.mro
  have made0 := F.called_set.made
  have sub0 := F.called_set.sub
  refine wpAny_call (codeAny_of_tree ?_); show wpAny _ _ (callAny (.type "set") _) _ _ _
  refine wpAny_pure ⟨Code.quiet_builtin _ (by decide +kernel), codeAny_builtin F.entry_type_call ?_⟩; rw [Around.under_plain (weight_type_call_type "set" [.ref l] []) rfl]
  have nt := F.called_set.notType; have cc := F.called_set.canCreate; have ct := F.typeCall_set_1 (.ref l)
  repeat any_goals (first | assumption | wp_step)

  refine codeAny_mono (code_set_led1 (.ref l) (E := E) (Q₁ := fun x s₁ => x = .ref s.heap.objs.size ∧ s₁ = { s with heap := s.heap.push (setObj0 w) }) ⟨rfl, rfl⟩) fun r s₁ hr => ?_
  cases r with
  | error e => exact hr
  | ok fl =>
    cases fl with
    | ret obj =>
      obtain ⟨rfl, rfl⟩ := hr
      have at0 : (s.heap.push (setObj0 w)).get? s.heap.objs.size = some (setObj0 w) := Heap.get?_push_size _ rfl
      have ty0 : Shared.TypeIs { s with heap := s.heap.push (setObj0 w) } (.ref s.heap.objs.size) "set" := ⟨_, at0, rfl⟩
      have look0 := F.called_set.init.lookup; have bind0 := F.called_set.init.bind (.ref s.heap.objs.size)
      repeat any_goals (first | assumption | wp_step)

      refine codeAny_mono (codeAny_call_builtin (R := wants (fun r s₂ => r = .none ∧ ∃ h' tk c, s₂ = { s with heap := h', toks := tk } ∧ SetR w h' s.heap.objs.size (fun j => decide (j ∈ ns)) c ∧ c ≤ ns.length ∧ (∀ b o, s.heap.get? b = some o → h'.get? b = some o)) E) F.called_set.init.plain F.entry_set_init (check_set_init_1 ty0 ?_)) fun r₂ s₂ hr₂ => ?_
      · obtain ⟨ol, hol, hcl, nl, hdl⟩ := id hl
        obtain ⟨cl1, di1, da1, sl1⟩ := ol
        simp only at hcl hdl; subst hcl; subst hdl
        have at1 : (s.heap.push (setObj0 w)).get? l = some { cls := .type "list", dict := di1, data := .seq xs nl, slots := sl1 } := Heap.get?_push_of_some _ hol
        have noSet := F.sub_list_set; have noFro := F.sub_list_frozenset; have noDict : (Value.type "list" == Value.type "dict") = false := by decide
        have isl : (s.heap.push (setObj0 w)).IsList l xs := ⟨_, at1, rfl, nl, rfl⟩
        unfold Builtin.«set.__init__» noKeywords Builtin.Frozenset.updateFrom; generalize hPI : pyIter = PI
        wp_walk
        subst hPI

        refine wpAny_pyIter_list isl ?_
        refine wpAny_bind (wpAny_runValue (?_))
        have lt0 : l < s.heap.objs.size := Heap.lt_size hol
        have calm3 : A.in1.in1.in1.handled = none := by simp [calm]
        have ne0 : l ≠ (s.heap.push (setObj0 w)).objs.size := by rw [Heap.size_push]; exact Nat.ne_of_lt (Nat.lt_succ_of_lt lt0)
        have out0 : s.heap.objs.size ∉ [(s.heap.push (setObj0 w)).objs.size, l] := by
          rw [Heap.size_push]; simp only [List.mem_cons, List.mem_singleton, List.not_mem_nil, or_false, not_or]; exact ⟨Nat.ne_of_lt (Nat.lt_succ_self _), Nat.ne_of_gt lt0⟩
        have val0 : ∀ (i : Nat) (v : Value), xs[i]? = some v → ∃ k t, ns[i]? = some k ∧ v = .int k t := fun i v hv => by
          have lt1 : i < ns.length := by rw [← size]; exact (Array.getElem?_eq_some_iff.mp hv).1
          obtain ⟨t, e⟩ := IntsAre.int_at hin i v (by rw [Array.getElem?_toList]; exact hv)
          exact ⟨ns[i], t, List.getElem?_eq_getElem lt1, by rw [e, List.getD_eq_getElem?_getD, List.getElem?_eq_getElem lt1]; rfl⟩
        refine set_update_ints ((Walks.list calm3 _ l ne0 xs).toS) s.heap.objs.size out0 ns size few val0 (xs.size - 0) 0 _ (by omega) (Nat.zero_le _) ⟨⟨_, Heap.get?_push_size _ rfl, rfl, rfl⟩, (isl.push _)⟩ ?start ?rest
        case start =>
          have at2 : ((s.heap.push (setObj0 w)).push { cls := .type "list_iterator", data := .fields #[.ref l, .int 0 0] }).get? s.heap.objs.size = some (setObj0 w) := Heap.get?_push_of_some _ at0
          exact ⟨0, Nat.le_refl 0, setR_new_at at2⟩
        case rest =>
          intro s' c' hm hc' hS'
          obtain ⟨h', g2, d2, tk', os2⟩ := s'
          have e1 : g2 = s.gens := hm.gens; have e2 : d2 = s.drawn := hm.drawn; have e3 : os2 = s.os := hm.os
          subst e1; subst e2; subst e3
          show wpAny _ _ _ _ _ _
          refine wpAny_pure ?_; show wpAny _ _ (ret Value.none) _ _ _
          rw [size] at hc'
          refine wpAny_pure ⟨rfl, h', tk', c', rfl, hS', hc', (fun b o e => ?_)⟩
          have lt2 : b < s.heap.objs.size := Heap.lt_size e
          have ne1 : b ≠ s.heap.objs.size := Nat.ne_of_lt lt2
          have ne2 : b ≠ (s.heap.push (setObj0 w)).objs.size := by rw [Heap.size_push]; exact Nat.ne_of_lt (Nat.lt_succ_of_lt lt2)
          exact hm.heap b o (by simp only [List.mem_cons, List.mem_singleton, List.not_mem_nil, or_false, not_or]; exact ⟨ne1, ne2⟩) (Heap.get?_push_of_some _ (Heap.get?_push_of_some _ e))

      · cases r₂ with
        | error e => exact hr₂
        | ok fl₂ =>
          cases fl₂ with
          | ret r =>
            obtain ⟨rfl, h', tk, c', rfl, q1, q2, q3⟩ := hr₂
            repeat any_goals (first | assumption | wp_step)
            exact fin _ _ _ q1 q2 q3
          | _ => exact hr₂.elim
    | _ => exact hr.elim
end

def uniqI : List Int → List Int
  | [] => []
  | x :: r => if x ∈ uniqI r then uniqI r else x :: uniqI r
theorem mem_uniqI {k : Int} : ∀ {l : List Int}, k ∈ uniqI l ↔ k ∈ l
  | [] => .rfl
  | x :: r => by
    unfold uniqI
    by_cases h : x ∈ uniqI r
    · rw [if_pos h, mem_uniqI (l := r), List.mem_cons]
      exact ⟨.inr, fun z => z.elim (fun e => by rw [e]; exact mem_uniqI.mp h) id⟩
    · rw [if_neg h, List.mem_cons, List.mem_cons, mem_uniqI (l := r)]
theorem nodup_uniqI : ∀ l : List Int, (uniqI l).Nodup
  | [] => .nil
  | x :: r => by
    unfold uniqI
    by_cases h : x ∈ uniqI r
    · rw [if_pos h]; exact nodup_uniqI r
    · rw [if_neg h]; exact List.nodup_cons.mpr ⟨h, nodup_uniqI r⟩
/-! ### sorted(set(xs)), len(set(xs)) -/
section
variable {X : Cx}
def SqI (K : PySem.W.Frag) (H : Hp) (l : Addr) (ns : List Int) : Prop := SqL K H l (ns.map V.int) ∨ SqT K H l (ns.map V.int)
theorem set_of_ints {pins : List (Addr × Obj)} {σ : L2.St} {H : Hp} {s : Shared} {l : Addr} {ns : List Int} {Q : Value → Shared → Prop} (hc : X.calm = true) (I : Inv X pins σ H s) (h : SqI X.K H l ns) (few : ns.length ≤ 1000)
    (fin : ∀ (h' : Heap) (tk c : Nat), SetR X.w h' s.heap.objs.size (fun j => decide (j ∈ ns)) c → c ≤ ns.length → (∀ b o, s.heap.get? b = some o → h'.get? b = some o) → Q (.ref s.heap.objs.size) { s with heap := h', toks := tk }) :
    wpAny (model X.prog X.w) X.A (call (.type "set") [.ref l]) Q X.xe s := by
  rcases h with h | h
  · obtain ⟨its, rv, pl, hz⟩ := I.list h
    exact set_of_listI ns (I.ok.hd hc) pl.isList (ints_of_vals rv) (by unfold scanBound; omega) fin
  · obtain ⟨its, rv, pt, hz⟩ := I.tuple h
    exact call_set_tupI ns (I.ok.hd hc) (show s.heap.IsTuple l its.toArray from pt) (ints_of_vals rv) (by unfold scanBound; omega) fin
def tSortSet (K : PySem.W.Frag) (ta : TE) : TE := fun σ H Q => ta σ H fun x H1 => ∃ (l : Addr) (ns : List Int), x = .ref l ∧ SqI K H1 l ns ∧ ns.length ≤ 1000 ∧ (uniqI ns).length < 64 ∧
  ∀ (ms : List Int) (p : Addr), ms.Pairwise (· < ·) → (∀ k, k ∈ ms ↔ k ∈ ns) → H1 p = none → Q (.ref p) (upd H1 p (.lst (ms.map V.int)))
theorem pe_sortSet {a : Expr} {ta : TE} {p p2 q pos : Pos} (hc : X.calm = true) (hg : Gl X "sorted") (hm : X.mg "sorted" = none) (hg2 : Gl X "set") (hm2 : X.mg "set" = none) (ha : PE X a ta)
    (na : starEach [a] X.env = (false, eval a X.env) :: starEach [] X.env := by rfl) : PE X (.Call (.Name "sorted" p) [.Call (.Name "set" p2) [a] [] q] [] pos) (tSortSet X.K ta) := by
  refine ⟨(fun pins s σ H Q I h => ?_)⟩
  refine Call_ (ld_blt I hg hm (by rfl) ?_)
  refine callWith_builtin1 (args_cons ?_ rfl) rfl rfl
  refine Call_ (ld_blt I hg2 hm2 PyProof.Rows.boot_set (?_))
  refine callWith_type1 (args_cons (thn (ha.run pins s σ H _ I h) fun v s1 ⟨x, H1, I1, r1, q1⟩ => args_nil ?_) na) na rfl
  obtain ⟨l, ns, rfl, hq, h1k, h64, q1⟩ := q1
  cases r1
  refine set_of_ints hc I1 hq (by omega) fun h' tk c R hcn k => ?_
  refine args_nil ?_
  have I2 : Inv X pins σ H1 { s1 with heap := h', toks := tk } := I1.kept k
  have hcu : c = (uniqI ns).length := by
    obtain ⟨o, es, ep, t, ho, hex, hd, g, nd, hm, hb, hf, hn, hr, hl⟩ := R
    have pm : (es.toList.map L2.keyOf).Perm (uniqI ns) := (List.perm_ext_iff_of_nodup nd (nodup_uniqI ns)).mpr fun k => by rw [← hm k, decide_eq_true_eq, mem_uniqI]
    have := pm.length_eq
    rw [List.length_map, Array.length_toList, hn] at this; exact this
  refine sorted_set R (I2.ok.hd hc) (by omega) fun s' p out c ms k2 g o hp hg hi hs hm hl => ?_
  have hlen : (ms.map V.int).length ≤ sizeLine := by rw [List.length_map, hl, sizeLine_eq]; omega
  have hn : H1 p = none := I2.hok.fresh hp
  have J : Inv X pins σ (upd H1 p (.lst (ms.map V.int))) { { s1 with heap := h', toks := tk } with heap := s'.heap, gens := s'.gens, drawn := s'.drawn, toks := s'.toks } :=
    I2.call (ch := []) (Un.laid k2 hp hn) (I2.hok.laid k2 hp ⟨hlen, out.toList, c, vals_of_ints hi, hg⟩) (by rw [g]; exact I2.bare) (fun _ z => nomatch z)
  have e : s' = { s1 with heap := s'.heap, gens := s'.gens, drawn := s'.drawn, toks := s'.toks } := by
    cases s'; cases s1; cases o; rfl
  rw [e]
  exact ⟨.ref p, _, J, rfl, q1 ms p hs (fun j => by rw [hm j, decide_eq_true_eq]) hn⟩
end

/-! ### their readings -/
/-- sorted(set(ns)) -/
def setI (ns : List Int) : List Int := sortI (uniqI ns)
theorem setI_mem {k : Int} {ns : List Int} : k ∈ setI ns ↔ k ∈ ns := (sortI_perm _).mem_iff.trans mem_uniqI
theorem setI_lt (ns : List Int) : (setI ns).Pairwise (· < ·) := by
  have h1 := sortI_sorted (uniqI ns)
  have h2 : (sortI (uniqI ns)).Nodup := (sortI_perm _).nodup_iff.mpr (nodup_uniqI ns)
  have h3 := h1.and h2
  exact h3.imp fun ⟨a, b⟩ => by omega
theorem ltI_unique {a b : List Int} (ha : a.Pairwise (· < ·)) (hb : b.Pairwise (· < ·)) (h : ∀ k, k ∈ a ↔ k ∈ b) : a = b := by
  have na : a.Nodup := ha.imp fun h => by omega
  have nb : b.Nodup := hb.imp fun h => by omega
  exact sorted_unique ((List.perm_ext_iff_of_nodup na nb).mpr h) (ha.imp fun h => by omega) (hb.imp fun h => by omega)
def cOp1 (k : PyData → OR) (a : Opd) : CE := fun env => (a.ev env).bind fun la env1 => match la.get env1 with
  | some x => (k x).fin env1
  | none => .no
def oSortSet : PyData → OR
  | .list ds => match intsOf ds with
    | some ns => if ns.length ≤ 1000 ∧ (uniqI ns).length < 64 then .val (.own false (.list ((setI ns).map .int))) else .no
    | none => .no
  | .tuple ds => match intsOf ds with
    | some ns => if ns.length ≤ 1000 ∧ (uniqI ns).length < 64 then .val (.own false (.list ((setI ns).map .int))) else .no
    | none => .no
  | _ => .no
section
variable {X : Cx} {xp : XP} {W : WX}
theorem de_sortSet {a : Expr} {o : Opd} {ta : TE} {p p2 q pos : Pos} (hc : X.calm = true) (hg : Gl X "sorted") (hm : X.mg "sorted" = none) (hg2 : Gl X "set") (hm2 : X.mg "set" = none) (ha : DO X xp W a o ta)
    (na : starEach [a] X.env = (false, eval a X.env) :: starEach [] X.env := by rfl) : DE X xp W (.Call (.Name "sorted" p) [.Call (.Name "set" p2) [a] [] q] [] pos) (cOp1 oSortSet o) (tSortSet X.K ta) := by
  refine ⟨pe_sortSet hc hg hm hg2 hm2 ha.pe na, fun e σ H F env Q w h => ?_⟩
  refine ha.run w (fun x env1 H' F' cls d q w' s y => ?_) (fun q => ?_) fun la env1 v H1 F1 q w1 s1 l1 => ?_
  · unfold cOp1 at h; rw [q] at h; exact h H' F' cls d w' s y
  · unfold cOp1 at h; rw [q] at h; exact h
  · unfold cOp1 at h; rw [q] at h; simp only [Res.bind] at h
    cases g1 : la.get env1 with
    | none => rw [g1] at h; exact h.elim
    | some x =>
      rw [g1] at h
      have rb := RB.of w1 l1 g1
      have fin : ∀ ns : List Int, Post X.K xp W e σ F Q ((OR.val (.own false (.list ((setI ns).map .int)))).fin env1) → ∀ (ms : List Int) (p : Addr), ms.Pairwise (· < ·) → (∀ k, k ∈ ms ↔ k ∈ ns) → H1 p = none → Q (.ref p) (upd H1 p (.lst (ms.map V.int))) := fun ns h ms p hs hm hp => by
        have e : ms = setI ns := ltI_unique hs (setI_lt ns) fun k => (hm k).trans setI_mem.symm
        subst e
        exact OPost.newL (b := false) w1.sub (.of w1 s1 h) (rds_ints _) p hp
      cases x with
      | list ds =>
        unfold oSortSet at h; dsimp only at h
        cases g : intsOf ds with
        | none => rw [g] at h; exact h.elim
        | some ns =>
          rw [g] at h; dsimp only at h
          by_cases z : ns.length ≤ 1000 ∧ (uniqI ns).length < 64
          · rw [if_pos z] at h
            obtain ⟨l, vs, rfl, r1, r2⟩ := rb.lst w1.sub
            have e := intsOf_rds r2 g
            subst e
            exact ⟨l, ns, rfl, .inl (.inl r1), z.1, z.2, fin ns h⟩
          · rw [if_neg z] at h; exact h.elim
      | tuple ds =>
        unfold oSortSet at h; dsimp only at h
        cases g : intsOf ds with
        | none => rw [g] at h; exact h.elim
        | some ns =>
          rw [g] at h; dsimp only at h
          by_cases z : ns.length ≤ 1000 ∧ (uniqI ns).length < 64
          · rw [if_pos z] at h
            obtain ⟨l, vs, rfl, r1, r2⟩ := rb.tup w1.sub
            have e := intsOf_rds r2 g
            subst e
            exact ⟨l, ns, rfl, .inr r1, z.1, z.2, fin ns h⟩
          · rw [if_neg z] at h; exact h.elim
      | _ => exact h.elim
end

/-! ### {text: number, ..} -/
def dispI (l : List (Str × Int)) : PyData := .dict (l.map fun p => (.str p.1, .int p.2))
def cDispI (l : List (Str × Int)) : CE := fun env => .ok (.own false (dispI l)) env
def tDispI (l : List (Str × Int)) : TE := tDisp (l.map fun p => (tC (.str p.1), tC (.int p.2)))
theorem tPairs_c {σ : L2.St} {H : Hp} : ∀ (l : List (Str × Int)) (Q : List (V × V) → Hp → Prop), Q (l.map fun p => (V.str p.1, V.int p.2)) H → tPairs (l.map fun p => (tC (.str p.1), tC (.int p.2))) σ H Q
  | [], _, q => q
  | p :: l, Q, q => tPairs_c l (fun ps H3 => Q ((V.str p.1, V.int p.2) :: ps) H3) q
def kvI (l : List (Str × Int)) : List (Key × V) := l.map fun p => (.inr p.1, .int p.2)
theorem merge_apart : ∀ (more kvs : List (Key × V)), ((kvs ++ more).map (·.1)).Nodup → mergeK kvs more = kvs ++ more
  | [], kvs, _ => (List.append_nil _).symm
  | p :: r, kvs, h => by
    have e : putK kvs p.1 p.2 = kvs ++ [p] := by
      unfold putK
      rw [if_neg]
      intro z
      obtain ⟨q, hq, e⟩ := List.any_eq_true.mp z
      rw [List.map_append, List.map_cons] at h
      have := (List.nodup_append.mp h).2.2 q.1 (List.mem_map.mpr ⟨q, hq, rfl⟩) p.1 List.mem_cons_self
      exact this (of_decide_eq_true e)
    show mergeK (putK kvs p.1 p.2) r = _
    rw [e, merge_apart r (kvs ++ [p]) (by rw [List.append_assoc]; exact h), List.append_assoc]; rfl
theorem rds_kvI {K : PySem.W.Frag} {F : Hp} : ∀ l : List (Str × Int), RDs K F ((kvI l).map (·.2)) (l.map fun p => .int p.2)
  | [] => .nil
  | p :: l => .cons (.int p.2) (rds_kvI l)
theorem zip_kvI : ∀ l : List (Str × Int), ((kvI l).map fun p => keyD p.1).zip (l.map fun p => PyData.int p.2) = l.map fun p => (.str p.1, .int p.2)
  | [] => rfl
  | p :: l => congrArg (((PyData.str p.1, PyData.int p.2)) :: ·) (zip_kvI l)
/-- the text of such a display -/
inductive PairsI (X : Cx) (pos : Pos) : List (Option Expr) → List Expr → List (Str × Int) → Prop
  | nil : PairsI X pos [] [] []
  | cons {x : Str} {i : Int} {j j2 : Nat} {p p2 : Pos} {ks : List (Option Expr)} {vs : List Expr} {l : List (Str × Int)} : PairsI X pos ks vs l → PairsI X pos (some (.Constant (.str x) j p) :: ks) (.Constant (.int i) j2 p2 :: vs) ((x, i) :: l)
  | neg {x : Str} {i : Int} {j j2 : Nat} {p p2 p3 : Pos} {ks : List (Option Expr)} {vs : List Expr} {l : List (Str × Int)} : PairsI X pos ks vs l → PairsI X pos (some (.Constant (.str x) j p) :: ks) (.UnaryOp .USub (.Constant (.int i) j2 p2) p3 :: vs) ((x, -i) :: l)
section
variable {X : Cx} {xp : XP} {W : WX}
theorem pe_negK {i : Int} {j : Nat} {p p2 : Pos} : PE X (.UnaryOp .USub (.Constant (.int i) j p) p2) (tC (.int (-i))) := ⟨fun pins s σ H Q I h => (pe_un un_neg pe_int).run pins s σ H Q I ⟨i, rfl, h⟩⟩
theorem PairsI.pps {pos : Pos} {ks : List (Option Expr)} {vs : List Expr} {l : List (Str × Int)} (h : PairsI X pos ks vs l) : PPs X pos ks vs (l.map fun p => (tC (.str p.1), tC (.int p.2))) ∧ ks.all (·.isSome) = true ∧ ks.length = vs.length ∧ ks.length = l.length := by
  induction h with
  | nil => exact ⟨pps_nil, rfl, rfl, rfl⟩
  | cons h ih =>
    obtain ⟨a, b, c, d⟩ := ih
    exact ⟨pps_cons pe_str pe_int a, by simp [b], by simp [c], by simp [d]⟩
  | neg h ih =>
    obtain ⟨a, b, c, d⟩ := ih
    exact ⟨pps_cons pe_str pe_negK a, by simp [b], by simp [c], by simp [d]⟩
theorem de_dispI {pos : Pos} {ks : List (Option Expr)} {vs : List Expr} {l : List (Str × Int)} (h : PairsI X pos ks vs l) (hn : (l.map (·.1)).Nodup) (h0 : l ≠ []) (h15 : l.length ≤ 15) : DE X xp W (.Dict ks vs pos) (cDispI l) (tDispI l) := by
  obtain ⟨a, b, c, d⟩ := h.pps
  refine ⟨pe_disp a b c (fun z => h0 (by rw [z] at d; exact List.eq_nil_of_length_eq_zero d.symm)) (by omega), fun e σ H F env Q w p q hq => ?_⟩
  refine tPairs_c l _ ⟨upd_same, kvI l, ?_, ?_, ?_⟩
  · unfold kvI; rw [List.map_map]; rfl
  · unfold kvI; rw [List.length_map]; exact h15
  · have e1 : mergeK [] (kvI l) = kvI l := merge_apart (kvI l) [] (by
      rw [List.nil_append]; unfold kvI; rw [List.map_map]
      have : ((fun p : Key × V => p.1) ∘ fun p : Str × Int => ((Sum.inr p.1 : Key), V.int p.2)) = (Sum.inr : Str → Key) ∘ (fun p : Str × Int => p.1) := rfl
      rw [this, ← List.map_map]
      exact hn.map _ fun x y z e => z (Sum.inr.inj e))
    rw [e1, upd_upd]
    have n0 : kvI l ≠ [] := fun z => h0 (by unfold kvI at z; exact List.map_eq_nil_iff.mp z)
    have ct : Cont X.K F (.dK (kvI l)) (dispI l) := by unfold dispI; rw [← zip_kvI]; exact .dK n0 (rds_kvI l)
    exact p _ _ _ (w.grow (w.grow_new hq)) (.refl _) (RN.rc (c := .own false (dispI l)) w (w.grow_new hq) ⟨q, _, rfl, hq, upd_same, w.fresh hq, ct⟩)
/-- what stands by a text -/
def lookK : List (PyData × PyData) → Str → Option PyData
  | [], _ => none
  | (k, d) :: r, z => if keyOf k = some (.inr z) then some d else lookK r z
def oIxK : Op2
  | .dict kvd, .str z => if isTD kvd then .no else match lookK kvd z with
    | some d => .val (.frz d)
    | none => .no
  | _, _ => .no
theorem isTD_tk {K : PySem.W.Frag} {F : Hp} {kvs : List (List Key × V)} {ds : List PyData} (r : RDs K F (kvs.map (·.2)) ds) : isTD ((kvs.map fun p => tkeyD p.1).zip ds) = true := by
  cases kvs with
  | nil => rfl
  | cons p kvs => cases ds with
    | nil => cases r
    | cons d ds => rfl
theorem lookK_some {K : PySem.W.Frag} {F : Hp} {z : Str} {d : PyData} : ∀ {kvs : List (Key × V)} {ds : List PyData}, RDs K F (kvs.map (·.2)) ds → lookK ((kvs.map fun p => keyD p.1).zip ds) z = some d → ∃ v, valV kvs (.inr z) = some v ∧ RD K F v d
  | [], _, .nil, h => by cases h
  | p :: kvs, d0 :: ds, .cons a b, h => by
    have h' : (if keyOf (keyD p.1) = some (.inr z) then some d0 else lookK ((kvs.map fun p => keyD p.1).zip ds) z) = some d := h
    rw [keyOf_keyD] at h'
    by_cases e : p.1 = .inr z
    · rw [if_pos (by rw [e])] at h'; cases h'; exact ⟨p.2, valV_pos e, a⟩
    · rw [if_neg (fun y => e (Option.some.inj y))] at h'
      obtain ⟨v, h1, h2⟩ := lookK_some b h'
      exact ⟨v, by rw [valV_neg e]; exact h1, h2⟩
theorem rb_dK {K : PySem.W.Frag} {H F : Hp} {v : V} {kvd : List (PyData × PyData)} {z : Str} {d : PyData} (s : Sub F H) (h : RB K H F v (.dict kvd)) (t : isTD kvd = false) (l : lookK kvd z = some d) :
    ∃ a kvs, v = .ref a ∧ Rd H a (.dK kvs) ∧ ∃ u, valV kvs (.inr z) = some u ∧ RD K F u d := by
  generalize e : PyData.dict kvd = dd at h
  cases h with
  | own h1 n1 k1 =>
    cases k1 with
    | lst r => cases e
    | dK n r => injection e with e; subst e; exact ⟨_, _, rfl, .inl h1, lookK_some r l⟩
    | dT r => injection e with e; rw [e] at t; rw [isTD_tk r] at t; cases t
  | fz r =>
    cases r with
    | scr q => injection e with e; rw [e] at l; cases l
    | adr a => injection e with e; rw [e] at l; cases l
    | dK n q r => injection e with e; subst e; exact ⟨_, _, rfl, s.rd _ _ trivial q, lookK_some r l⟩
    | dT q r => injection e with e; rw [e] at t; rw [isTD_tk r] at t; cases t
    | _ => cases e
theorem ok_ixK {K : PySem.W.Frag} : Op2Ok K rIxD oIxK := by
  intro x y dx dy H F Q s rx ry h
  unfold oIxK at h
  split at h
  · rename_i kvd z
    cases t : isTD kvd with
    | true => rw [t] at h; exact h.elim
    | false =>
      rw [t] at h
      cases l : lookK kvd z with
      | none => rw [l] at h; exact h.elim
      | some d =>
        rw [l] at h
        obtain ⟨a, kvs, rfl, hr, u, hu, ru⟩ := rb_dK s rx t l
        have ey := ry.str
        subst ey
        exact ⟨a, u, rfl, .inl ⟨kvs, .inr z, hr, rfl, hu.symm⟩, OPost.here s h ru⟩
  · exact h.elim
theorem de_ixK {a b : Expr} {oa ob : Opd} {ta tb : TE} {pos : Pos} (hu : X.A.units + 1 < cLine) (ha : DO X xp W a oa ta) (hb : DO X xp W b ob tb) (hs : NoSl b) :
    DE X xp W (.Subscript a b pos) (cOp2 oIxK oa ob) (tOp rIxD ta tb) := ⟨pe_ixT hu hs ha.pe hb.pe, fun _ _ _ _ _ _ w h => tOp_run ha hb ok_ixK w h⟩
end
end DL

/-! DMA: a < b < c < d. -/
namespace DL
open PySem PySem.Spec PyProof.Rows L2
def link (k : Op2) (la lb : Lt) (C : Cs → Res Cell) : Cs → Res Cell := fun env => match la.get env, lb.get env with
  | some x, some y => match k x y with
    | .val (.frz (.bool true)) => C env
    | .val (.frz (.bool false)) => .ok (.frz (.bool false)) env
    | _ => .no
  | _, _ => .no
def linkL (k : Op2) (la lb : Lt) : Cs → Res Cell := fun env => match la.get env, lb.get env with
  | some x, some y => (k x y).fin env
  | _, _ => .no
def cChain3 (k k' k2 : Op2) (a b c d : Opd) : CE := fun env => (a.ev env).bind fun la env1 => (b.ev env1).bind fun lb env2 =>
  link k la lb (fun env2 => (c.ev env2).bind fun lc env3 => link k' lb lc (fun env3 => (d.ev env3).bind fun ld env4 => linkL k2 lc ld env4) env3) env2
section
variable {X : Cx} {xp : XP} {W : WX}
theorem link_run {r : R2} {k : Op2} (hr : Op2Ok X.K r k) {e : Ent} {σ : L2.St} {H F F0 : Hp} {env : Cs} {Q : VK} {v u : V} {la lb : Lt} {C : Cs → Res Cell} {T : L2.St → Hp → Prop} (w : Wl X.K e σ H F env) (s0 : Sub F0 F) (l1 : LtR X.K F σ v la) (l2 : LtR X.K F σ u lb)
    (h : Post X.K xp W e σ F0 Q (link k la lb C env)) (hC : ∀ H3 F3, Wl X.K e σ H3 F3 env → Sub F F3 → Post X.K xp W e σ F0 Q (C env) → T σ H3) : r v u H fun z H3 => ∃ k, z = .bl k ∧ (if k = true then T σ H3 else Q (.bl false) H3) := by
  unfold link at h
  cases g1 : la.get env with
  | none => rw [g1] at h; exact h.elim
  | some x =>
    cases g2 : lb.get env with
    | none => rw [g1, g2] at h; exact h.elim
    | some y =>
      rw [g1, g2] at h; dsimp only at h
      refine hr v u x y H F _ w.sub (.of w l1 g1) (.of w l2 g2) ?_
      cases g3 : k x y with
      | no => rw [g3] at h; exact h.elim
      | val cc =>
        rw [g3] at h
        cases cc with
        | frz d =>
          cases d with
          | bool b =>
            intro v3 H3 F3 g r3
            cases r3
            have w3 := w.grow g
            cases b with
            | false => exact ⟨false, rfl, iteF (h _ H3 F3 w3 (s0.trans g.fz) (.bl false))⟩
            | true => exact ⟨true, rfl, iteT (hC H3 F3 w3 g.fz h)⟩
          | _ => exact h.elim
        | _ => exact h.elim
theorem linkL_run {r : R2} {k : Op2} (hr : Op2Ok X.K r k) {e : Ent} {σ : L2.St} {H F F0 : Hp} {env : Cs} {Q : VK} {v u : V} {la lb : Lt} (w : Wl X.K e σ H F env) (s0 : Sub F0 F) (l1 : LtR X.K F σ v la) (l2 : LtR X.K F σ u lb)
    (h : Post X.K xp W e σ F0 Q (linkL k la lb env)) : r v u H Q := by
  unfold linkL at h
  cases g1 : la.get env with
  | none => rw [g1] at h; exact h.elim
  | some x =>
    cases g2 : lb.get env with
    | none => rw [g1, g2] at h; exact h.elim
    | some y =>
      rw [g1, g2] at h
      exact hr v u x y H F Q w.sub (.of w l1 g1) (.of w l2 g2) (.of w s0 h)
def tChain3 (r r' r2 : R2) (ta tb tc td : TE) : TE := fun σ H Q => ta σ H fun x H1 => tb σ H1 fun y H2 => r x y H2 fun z H3 => ∃ k, z = .bl k ∧
  (if k = true then tc σ H3 fun x2 H4 => r' y x2 H4 fun z H5 => ∃ k, z = .bl k ∧ (if k = true then td σ H5 fun x3 H6 => r2 x2 x3 H6 Q else Q (.bl false) H5) else Q (.bl false) H3)
theorem tChain3_run {a b c d : Expr} {oa ob oc od : Opd} {ta tb tc td : TE} {r r' r2 : R2} {k k' k2 : Op2} (ha : DO X xp W a oa ta) (hb : DO X xp W b ob tb) (hc : DO X xp W c oc tc) (hd : DO X xp W d od td) (hr : Op2Ok X.K r k) (hr' : Op2Ok X.K r' k') (hr2 : Op2Ok X.K r2 k2)
    {e : Ent} {σ : L2.St} {H F : Hp} {env : Cs} {Q : VK} (w : Wl X.K e σ H F env) (h : Post X.K xp W e σ F Q (cChain3 k k' k2 oa ob oc od env)) : tChain3 r r' r2 ta tb tc td σ H Q := by
  unfold cChain3 at h
  refine ha.run w (fun x env1 H' F' cls d q w' s y => ?_) (fun q => ?_) fun la env1 v H1 F1 q w1 s1 l1 => hb.run w1 (fun x env2 H' F' cls d q2 w' s y => ?_) (fun q2 => ?_) fun lb env2 u H2 F2 q2 w2 s2 l2 => ?_
  · rw [q] at h; exact h H' F' cls d w' s y
  · rw [q] at h; exact h
  · rw [q] at h; simp only [Res.bind] at h; rw [q2] at h; exact h H' F' cls d w' (s1.trans s) y
  · rw [q] at h; simp only [Res.bind] at h; rw [q2] at h; exact h
  rw [q] at h; simp only [Res.bind] at h; rw [q2] at h; simp only at h
  refine link_run (T := fun σ H3 => tc σ H3 fun x2 H4 => r' u x2 H4 fun z H5 => ∃ k, z = .bl k ∧ (if k = true then td σ H5 fun x3 H6 => r2 x2 x3 H6 Q else Q (.bl false) H5)) hr w2 (s1.trans s2) (l1.mono s2) l2 h fun H3 F3 w3 s3 h => ?_
  have s03 := (s1.trans s2).trans s3
  refine hc.run w3 (fun x env1 H' F' cls d q w' s y => ?_) (fun q => ?_) fun lc env3 u2 H4 F4 q3 w4 s4 l4 => ?_
  · rw [q] at h; exact h H' F' cls d w' (s03.trans s) y
  · rw [q] at h; exact h
  rw [q3] at h; simp only [Res.bind] at h
  refine link_run (T := fun σ H5 => td σ H5 fun x3 H6 => r2 u2 x3 H6 Q) hr' w4 (s03.trans s4) ((l2.mono s3).mono s4) l4 h fun H5 F5 w5 s5 h => ?_
  have s05 := (s03.trans s4).trans s5
  refine hd.run w5 (fun x env1 H' F' cls d q w' s y => ?_) (fun q => ?_) fun ld env4 u3 H6 F6 q4 w6 s6 l6 => ?_
  · rw [q] at h; exact h H' F' cls d w' (s05.trans s) y
  · rw [q] at h; exact h
  rw [q4] at h; simp only at h
  exact linkL_run hr2 w6 (s05.trans s6) ((l4.mono s5).mono s6) l6 h
theorem pt_chain3 {a b c d : Expr} {ta tb tc td : TE} {op op' op2 : CmpOp} {pos : Pos} {r r' r2 : R2} (ho : OpR X (compareOp op) r) (ho' : OpR X (compareOp op') r') (ho2 : OpR X (compareOp op2) r2) (ha : PE X a ta) (hb : PE X b tb) (hc : PE X c tc) (hd : PE X d td)
    (hm : lastMarks [op, op', op2] [b, c, d] = false := by with_unfolding_all rfl) : PT X (.Compare a [op, op', op2] [b, c, d] pos) (tTest (tChain3 r r' r2 ta tb tc td)) := by
  refine ⟨fun pins s σ H Q I h => ?_⟩
  refine isTrue_chain (thn (ha.run pins s σ H _ I h) fun v s1 ⟨x, H1, I1, r1, q1⟩ => test_link (thn (hb.run pins s1 σ H1 _ I1 q1) fun u s2 ⟨y, H2, I2, r2, q2⟩ => thn (ho pins s2 σ H2 x y v u _ I2 r1 r2 q2) fun d s3 ⟨z, H3, I3, r3, k, e, q3⟩ => ?_)) hm
  subst e; cases r3
  refine wpAny_truthy_bool ?_
  cases k with
  | false => obtain ⟨k', e', q'⟩ := q3; cases e'; exact ite_ff ⟨H3, I3, q'⟩
  | true =>
    refine ite_tt (test_link (thn (hc.run pins s3 σ H3 _ I3 q3) fun u2 s4 ⟨y2, H4, I4, r4, q4⟩ => thn (ho' pins s4 σ H4 y y2 u u2 _ I4 r2 r4 q4) fun d2 s5 ⟨z2, H5, I5, r5, k2, e2, q5⟩ => ?_))
    subst e2; cases r5
    refine wpAny_truthy_bool ?_
    cases k2 with
    | false => obtain ⟨k', e', q'⟩ := q5; cases e'; exact ite_ff ⟨H5, I5, q'⟩
    | true =>
      refine ite_tt (test_last (thn (hd.run pins s5 σ H5 _ I5 q5) fun u3 s6 ⟨y3, H6, I6, r6, q6⟩ => thn (ho2 pins s6 σ H6 y2 y3 u2 u3 _ I6 r4 r6 q6) fun d3 s7 ⟨z3, H7, I7, r7, k3, e3, q7⟩ => ?_))
      subst e3; cases r7
      exact wpAny_truthy_bool ⟨H7, I7, q7⟩
theorem dt_chain3 {a b c d : Expr} {oa ob oc od : Opd} {ta tb tc td : TE} {op op' op2 : CmpOp} {pos : Pos} {r r' r2 : R2} {k k' k2 : Op2} (ho : OpR X (compareOp op) r) (ho' : OpR X (compareOp op') r') (ho2 : OpR X (compareOp op2) r2) (hr : Op2Ok X.K r k) (hr' : Op2Ok X.K r' k') (hr2 : Op2Ok X.K r2 k2)
    (ha : DO X xp W a oa ta) (hb : DO X xp W b ob tb) (hc : DO X xp W c oc tc) (hd : DO X xp W d od td) (hm : lastMarks [op, op', op2] [b, c, d] = false := by with_unfolding_all rfl) : DT X xp W (.Compare a [op, op', op2] [b, c, d] pos) (toT (cChain3 k k' k2 oa ob oc od)) (tTest (tChain3 r r' r2 ta tb tc td)) :=
  ⟨pt_chain3 ho ho' ho2 ha.pe hb.pe hc.pe hd.pe hm, fun _ _ _ _ _ _ w h => tChain3_run ha hb hc hd hr hr' hr2 w (toT_run h)⟩
end
/-! ### two names of a comprehension -/
theorem dg_tupB {X : Cx} {K : PySem.W.Frag} {es : List Expr} {is : List Nat} {k : Nat} {t : TGs} {n : Nat} {pos : Pos} (hK : X.K = K) (hc : X.calm = true) (h : DGs X es is t) (hl : is.length = n := by rfl) (hn : (assignEach es X.env).length = n := by rfl) (hst : (assignEach es X.env).findIdx? (·.1) = none := by rfl) :
    DG X (.Tuple es k pos) (.many is) (gTup K n t) := by
  subst hK; exact dg_tup hc h hl hn hst
end DL

/-! DMB: a def that calls itself, so many times deep. -/
namespace DL
open PySem PySem.Spec PyProof.Rows L2
def iterF (body : Fn → Fn) : Nat → Fn
  | 0 => fun _ => .no
  | n + 1 => body (iterF body n)
theorem iterF_succ (body : Fn → Fn) (n : Nat) : iterF body (n + 1) = body (iterF body n) := rfl
section
variable {P : Program} {w : World} {K : PySem.W.Frag} {mg : Str → Option Value} {base : Heap} {xp : XP}
theorem fn_no {f : Addr} {fd : FuncData} {ps : List Str} {k n : Nat} (hn : ps.length = n) : FnOk P w K mg base (L2N.CX P w) k f fd ps (spB K xp n fun _ => .no) :=
  ⟨fun vs H Q E h => by rw [hn]; exact h.1, fun A outer s H args us vs Q E hr he hb hv h => by obtain ⟨_, F, ds, _, _, p⟩ := h; exact p.elim⟩
theorem fn_rec {f : Addr} {fd : FuncData} {ps : List Str} {n : Nat} {body : Fn → Fn} (lv s : Nat) (hn : ps.length = n)
    (hs : ∀ r rec, lv ≤ r → FnOk P w K mg base (L2N.CX P w) r f fd ps (spB K xp n rec) → FnOk P w K mg base (L2N.CX P w) (r + s) f fd ps (spB K xp n (body rec))) :
    ∀ m, FnOk P w K mg base (L2N.CX P w) (lv + s * m) f fd ps (spB K xp n (iterF body m))
  | 0 => fn_no hn
  | m + 1 => by
    have := hs (lv + s * m) (iterF body m) (Nat.le_add_right _ _) (fn_rec lv s hn hs m)
    rw [Nat.mul_succ, ← Nat.add_assoc]; exact this
end
end DL

/-! DMC: data that are alike: sorted, <. -/
namespace DL
open PySem PySem.Spec PyProof.Rows L2
mutual
/-- no dict in it -/
def flatE : PyData → Bool
  | .dict _ => false
  | .list xs => flatEs xs
  | .tuple xs => flatEs xs
  | .none => true
  | .bool _ => true
  | .int _ => true
  | .str _ => true
def flatEs : List PyData → Bool
  | [] => true
  | x :: xs => flatE x && flatEs xs
end
section
variable {X : Cx} {pins : List (Addr × Obj)} {σ : L2.St} {H F : Hp} {s : Shared} {h' : Heap}
mutual
/-- what the data read as in the model's heap -/
theorem reads_of (I : Inv X pins σ H s) (sf : Sub F H) (hk : ∀ b o, s.heap.get? b = some o → h'.get? b = some o) : ∀ {v : V} {d : PyData} {u : Value}, RD X.K F v d → L2.RelV v u → flatE d = true → ∃ as, Reads h' u d as
  | _, _, _, .non, r, _ => by cases r; exact ⟨_, .none⟩
  | _, _, _, .bl b, r, _ => by cases r; exact ⟨_, .bool b⟩
  | _, _, _, .int i, r, _ => by obtain ⟨t, rfl⟩ := r; exact ⟨_, .int i t⟩
  | _, _, _, .str x, r, _ => by obtain ⟨t, rfl⟩ := r; exact ⟨_, .str x t⟩
  | _, _, _, .lst h rs, r, p => by
    cases r
    obtain ⟨its, rv, pl, _⟩ := I.list (Or.inl (sf.rd _ _ trivial h))
    obtain ⟨o, ho, hc, n, hd⟩ := pl.isList
    obtain ⟨as, ra⟩ := readsAll_of I sf hk rs rv (by simpa [flatE] using p)
    exact ⟨_, .list (hk _ _ ho) hc hd (by simpa using ra)⟩
  | _, _, _, .scr h, r, p => by simp [flatE] at p
  | _, _, _, .adr a, r, p => by simp [flatE] at p
  | _, _, _, .tup h rs, r, p => by
    cases r
    obtain ⟨its, rv, ⟨o, ho, hc, n, hd⟩, _⟩ := I.tuple (Or.inl (Or.inl (sf.tp _ _ h)))
    obtain ⟨as, ra⟩ := readsAll_of I sf hk rs rv (by simpa [flatE] using p)
    exact ⟨_, .tuple (hk _ _ ho) hc hd (by simpa using ra)⟩
  | _, _, _, .dK n h rs, r, p => by simp [flatE] at p
  | _, _, _, .dT h rs, r, p => by simp [flatE] at p
theorem readsAll_of (I : Inv X pins σ H s) (sf : Sub F H) (hk : ∀ b o, s.heap.get? b = some o → h'.get? b = some o) : ∀ {vs : List V} {ds : List PyData} {us : List Value}, RDs X.K F vs ds → Vals vs us → flatEs ds = true → ∃ as, ReadsAll h' us ds as
  | _, _, _, .nil, r, _ => by cases r; exact ⟨_, .nil⟩
  | _, _, _, .cons a b, r, p => by
    cases r with
    | cons r1 r2 =>
      rw [flatEs, Bool.and_eq_true] at p
      obtain ⟨as, h1⟩ := reads_of I sf hk a r1 p.1
      obtain ⟨bs, h2⟩ := readsAll_of I sf hk b r2 p.2
      exact ⟨_, .cons h1 h2⟩
end
end
/-- alike data, sorted -/
def sortD (ds : List PyData) : List PyData := ds.mergeSort fun a b => !PySem.W.dataLt b a
/-- what can be sorted -/
def SortsD (ds : List PyData) : Prop := PySem.W.AllAlike ds ∧ PySem.W.Sortable ds ∧ (∀ d ∈ ds, flatE d = true ∧ d.depth ≤ 30)
def rSortD (K : PySem.W.Frag) : List V → Hp → VK → Prop := fun vs H Q => ∃ (F : Hp) (a : Addr) (xs : List V) (ds : List PyData), Sub F H ∧ vs = [V.ref a] ∧ SqL K H a xs ∧ RDs K F xs ds ∧ SortsD ds ∧
  ∀ (ys : List V) (p : Addr), ys.length = xs.length → RDs K F ys (sortD ds) → H p = none → Q (.ref p) (upd H p (.lst ys))
theorem rds_of {K : PySem.W.Frag} {F : Hp} : ∀ {ps : List (V × PyData)}, (∀ p ∈ ps, RD K F p.1 p.2) → RDs K F (ps.map (·.1)) (ps.map (·.2))
  | [], _ => .nil
  | p :: ps, h => .cons (h p List.mem_cons_self) (rds_of fun q hq => h q (List.mem_cons_of_mem _ hq))
theorem each_of {X : Cx} {pins : List (Addr × Obj)} {σ : L2.St} {H F : Hp} {s : Shared} {h' : Heap} (I : Inv X pins σ H s) (sf : Sub F H) (hk : ∀ b o, s.heap.get? b = some o → h'.get? b = some o) : ∀ {xs : List V} {ds : List PyData} {us : List Value}, RDs X.K F xs ds → Vals xs us → (∀ d ∈ ds, flatE d = true) →
    PySem.W.EachIs (fun (k : Value × Value) (p : V × PyData) => k.1 = k.2 ∧ L2.RelV p.1 k.2 ∧ RD X.K F p.1 p.2 ∧ ∃ as, Reads h' k.2 p.2 as) (us.zip us) (xs.zip ds) ∧ PySem.W.EachIs (fun v d => ∃ as, Reads h' v d as) us ds
  | _, _, _, .nil, r, _ => by cases r; exact ⟨.nil, .nil⟩
  | _, _, _, .cons a b, r, p => by
    cases r with
    | cons r1 r2 =>
      obtain ⟨h1, h2⟩ := each_of I sf hk b r2 fun d hd => p d (List.mem_cons_of_mem _ hd)
      have h3 := reads_of I sf hk a r1 (p _ List.mem_cons_self)
      exact ⟨.cons ⟨rfl, r1, a, h3⟩ h1, .cons h3 h2⟩
theorem cr_sortD {X : Cx} (hu : X.A.units + 64 < cLine) : CallR X (.builtin "sorted") (rSortD X.K) := by
  intro pins s σ H vs us Q I r h
  obtain ⟨F, a, xs, ds, sf, rfl, hs, rs, ⟨hal, hso, hfl⟩, q⟩ := h
  obtain ⟨its, rv, pl, hz⟩ := I.list hs
  rw [Vals.ref1 r]
  have keep : ∀ b o, s.heap.get? b = some o → (PySem.W.sortingHeap (PySem.W.copyHeap s.heap its) (s.heap.objs.size + 1) its).get? b = some o := fun b o e => PySem.W.sorting_copy_old e
  obtain ⟨e1, e2⟩ := each_of I sf keep rs rv fun d hd => (hfl d hd).1
  have hlen : xs.length = ds.length := rs.length
  have hvl := rv.length
  refine PySem.W.sorted_vals (by simpa using pl.isList) (PySem.W.SortsAt.data (ds := ds) e2 hal hso fun d hd => ?_) (by rw [← hvl]; exact hz) ?_
  · have := (hfl d hd).2
    show X.A.units + 1 + 1 + d.depth < cLine
    omega
  have cmp : ∀ p, p ∈ (its.zip its).zip (xs.zip ds) → ∀ q, q ∈ (its.zip its).zip (xs.zip ds) →
      PySem.W.sortLe (PySem.W.dataKind (PySem.W.sortingHeap (PySem.W.copyHeap s.heap its) (s.heap.objs.size + 1) its) ds).toKeyOrd false (fun k : Value × Value => PySem.W.keyD (PySem.W.dataKind (PySem.W.sortingHeap (PySem.W.copyHeap s.heap its) (s.heap.objs.size + 1) its) ds) k.1) p.1 q.1 = !PySem.W.dataLt q.2.2 p.2.2 := fun p hp q hq => by
    obtain ⟨p1, _, _, as, p2⟩ := e1.zip p hp
    obtain ⟨q1, _, _, bs, q2⟩ := e1.zip q hq
    have hp2 : p.2.2 ∈ ds := (List.of_mem_zip (List.of_mem_zip hp).2).2
    have hq2 : q.2.2 ∈ ds := (List.of_mem_zip (List.of_mem_zip hq).2).2
    rw [← p1] at p2
    rw [← q1] at q2
    have k1 := PySem.W.keyD_some (PySem.W.dataKind_some hal hp2 p2)
    have k2 := PySem.W.keyD_some (PySem.W.dataKind_some hal hq2 q2)
    simp only [PySem.W.sortLe, cond_false, k1, k2]; rfl
  have e3 := PySem.W.sort_each (s := fun p q : V × PyData => !PySem.W.dataLt q.2 p.2) e1 cmp
  generalize hps : (xs.zip ds).mergeSort (fun p q : V × PyData => !PySem.W.dataLt q.2 p.2) = ps at e3
  have hlp : ps.length = xs.length := by rw [← hps, List.length_mergeSort, List.length_zip]; omega
  have hsnd : ps.map (·.2) = sortD ds := by
    rw [← hps]
    unfold sortD
    rw [PySem.W.sort_maps (s := fun a b => !PySem.W.dataLt b a) (fun p : V × PyData => p.2) (fun _ _ _ _ => rfl), List.map_snd_zip (by omega)]
  have out : Vals (ps.map (·.1)) (PySem.W.sortVals (PySem.W.dataKind (PySem.W.sortingHeap (PySem.W.copyHeap s.heap its) (s.heap.objs.size + 1) its) ds) false its its) ∧ ∀ p ∈ ps, RD X.K F p.1 p.2 := by
    unfold PySem.W.sortVals
    clear hps hlp hsnd cmp
    revert e3
    generalize (its.zip its).mergeSort _ = ks
    intro e3
    induction e3 with
    | nil => exact ⟨.nil, fun p hp => (List.not_mem_nil hp).elim⟩
    | cons r t ih =>
      obtain ⟨a, b, c, d⟩ := r
      refine ⟨.cons b ih.1, fun p hp => ?_⟩
      rcases List.mem_cons.mp hp with rfl | hp
      · exact c
      · exact ih.2 p hp
  obtain ⟨ep, he'⟩ := PyProof.Rows.sortedAll_at s.heap its (PySem.W.sortVals (PySem.W.dataKind (PySem.W.sortingHeap (PySem.W.copyHeap s.heap its) (s.heap.objs.size + 1) its) ds) false its its).toArray
  have hlen2 : (ps.map (·.1)).length ≤ sizeLine := by rw [List.length_map, hlp]; exact hz
  exact ⟨.ref _, upd H (s.heap.objs.size + 1) (.lst (ps.map (·.1))), I.laid (t' := s.toks) (fun _ _ => PyProof.Rows.sortedAll_old) (Nat.le_succ _) ⟨hlen2, _, ep, out.1, he'⟩, rfl, q _ _ (by rw [List.length_map, hlp]) (by rw [← hsnd]; exact rds_of out.2) (I.hok.fresh (Nat.le_succ _))⟩
def isT1 : PyData → Bool
  | .tuple (_ :: _) => true
  | _ => false
def noT : PyData → Bool
  | .none => false
  | .tuple _ => false
  | _ => true
def okSort (ds : List PyData) : Bool := ds.all (fun d => ds.all fun d' => PySem.W.alike d d') && (ds.all isT1 || ds.all noT) && ds.all fun d => flatE d && decide (d.depth ≤ 30)
theorem sorts_of {ds : List PyData} (h : okSort ds = true) : SortsD ds := by
  unfold okSort at h
  rw [Bool.and_eq_true, Bool.and_eq_true, Bool.or_eq_true] at h
  obtain ⟨⟨h1, h2⟩, h3⟩ := h
  refine ⟨fun d hd d' hd' => List.all_eq_true.mp (List.all_eq_true.mp h1 d hd) d' hd', ?_, fun d hd => ?_⟩
  · rcases h2 with h2 | h2
    · refine .inl fun d hd => ?_
      have := List.all_eq_true.mp h2 d hd
      cases d with
      | tuple xs => cases xs with
        | nil => cases this
        | cons x r => exact ⟨x, r, rfl⟩
      | _ => cases this
    · refine .inr fun d hd => ?_
      have := List.all_eq_true.mp h2 d hd
      cases d with
      | none => cases this
      | tuple xs => cases this
      | _ => exact ⟨(fun z => nomatch z), (fun xs z => nomatch z)⟩
  · have := List.all_eq_true.mp h3 d hd
    rw [Bool.and_eq_true, decide_eq_true_eq] at this; exact this
/-- sorted of alike data -/
def oSortD : OpN
  | [.list ds] => if okSort ds then .val (.own false (.list (sortD ds))) else .no
  | _ => .no
theorem ok_sortD {K : PySem.W.Frag} : OpNOk K (rSortD K) oSortD := by
  intro xs ds H F Q s r h
  unfold oSortD at h
  split at h
  · rename_i ds
    by_cases z : okSort ds = true
    · rw [if_pos z] at h
      obtain ⟨v, rfl, rv⟩ := r.one
      obtain ⟨a, vs, rfl, r1, r2⟩ := rv.lst s
      exact ⟨F, a, vs, ds, s, rfl, .inl r1, r2, sorts_of z, fun ys p _ hr hp => OPost.newL (b := false) s h hr p hp⟩
    · rw [if_neg z] at h; exact h.elim
  · exact h.elim
/-! ### < of alike data -/
theorem reads_rb {X : Cx} {pins : List (Addr × Obj)} {σ : L2.St} {H F : Hp} {s : Shared} (I : Inv X pins σ H s) (sf : Sub F H) {v : V} {d : PyData} {u : Value} (r : RB X.K H F v d) (ru : L2.RelV v u) (p : flatE d = true) : ∃ as, Reads s.heap u d as := by
  cases r with
  | fz r => exact reads_of I sf (fun _ _ e => e) r ru p
  | own h1 n1 k1 =>
    cases k1 with
    | lst rs =>
      cases ru
      obtain ⟨its, rv, pl, _⟩ := I.list (Or.inl (Or.inl h1))
      obtain ⟨o, ho, hc, n, hd⟩ := pl.isList
      obtain ⟨as, ra⟩ := readsAll_of I sf (fun _ _ e => e) rs rv (by simpa [flatE] using p)
      exact ⟨_, .list ho hc hd (by simpa using ra)⟩
    | dK n r => simp [flatE] at p
    | dT r => simp [flatE] at p
def okLt (dx dy : PyData) : Bool := flatE dx && flatE dy && PySem.W.alike dx dy && decide (dx.depth ≤ 60) && (match dx with | .none => false | _ => true)
def rLtD (K : PySem.W.Frag) : R2 := fun x y H Q => ∃ F dx dy, Sub F H ∧ RB K H F x dx ∧ RB K H F y dy ∧ okLt dx dy = true ∧ Q (.bl (PySem.W.dataLt dx dy)) H
theorem op_ltD {X : Cx} (hu : X.A.units + 64 < cLine) : OpR X (compareOp .Lt) (rLtD X.K) := by
  intro pins s σ H x y v u Q I rx ry h
  obtain ⟨F, dx, dy, sf, r1, r2, ok, q⟩ := h
  unfold okLt at ok
  simp only [Bool.and_eq_true, decide_eq_true_eq] at ok
  obtain ⟨⟨⟨⟨f1, f2⟩, hal⟩, hd⟩, hn⟩ := ok
  obtain ⟨as, ra⟩ := reads_rb I sf r1 rx f1
  obtain ⟨bs, rb⟩ := reads_rb I sf r2 ry f2
  refine PySem.W.lt_data ra rb hal (fun z => by rw [z] at hn; cases hn) (by have := Nat.min_le_left dx.depth dy.depth; omega) ⟨.bl _, H, I, rfl, q⟩
def oLtD : Op2 := fun dx dy => if okLt dx dy = true then .val (.frz (.bool (PySem.W.dataLt dx dy))) else .no
theorem ok_ltD {K : PySem.W.Frag} : Op2Ok K (rLtD K) oLtD := by
  intro x y dx dy H F Q s rx ry h
  unfold oLtD at h
  by_cases z : okLt dx dy = true
  · rw [if_pos z] at h
    exact ⟨F, dx, dy, s, rx, ry, z, OPost.bl s h⟩
  · rw [if_neg z] at h; exact h.elim
end DL

/-! DMD: dict(pairs), their keys tuples. -/
namespace DL
open PySem PySem.Spec PyProof.Rows L2
/-- a pair: where it stands, where its key stands, the key, the value -/
abbrev Pr := Addr × Addr × List Key × V
structure PrAt (K : PySem.W.Frag) (H : Hp) (t : Pr) : Prop where
  tup : SqT K H t.1 [.ref t.2.1, t.2.2.2]
  key : H t.2.1 = some (.tup (t.2.2.1.map kV))
def rDictP (K : PySem.W.Frag) : List V → Hp → VK → Prop := fun vs H Q => ∃ (a : Addr) (ts : List Pr), vs = [.ref a] ∧ SqL K H a (ts.map fun t => V.ref t.1) ∧ (∀ t ∈ ts, PrAt K H t) ∧ (ts.map (·.2.2.1)).Nodup ∧
  ∀ p, H p = none → Q (.ref p) (upd H p (.dT (ts.map (·.2.2))))
section
variable {X : Cx}
theorem vals_refs : ∀ {ts : List Pr} {us : List Value}, Vals (ts.map fun t => V.ref t.1) us → us = ts.map fun t => Value.ref t.1
  | [], _, r => by cases r; rfl
  | t :: ts, _, r => by
    cases r with
    | cons r1 r2 => cases r1; rw [vals_refs r2]; rfl
theorem vals_of_pairs {pins : List (Addr × Obj)} {σ : L2.St} {H : Hp} {s : Shared} (I : Inv X pins σ H s) : ∀ {ts : List Pr}, (∀ t ∈ ts, PrAt X.K H t) → ∃ ys : List Value, Vals (ts.map (·.2.2.2)) ys ∧ ∀ (j : Nat) (t : Pr), ts[j]? = some t → ∃ y, ys[j]? = some y ∧ s.heap.IsTuple t.1 #[.ref t.2.1, y]
  | [], _ => ⟨[], .nil, fun j t e => by simp at e⟩
  | t :: ts, h => by
    obtain ⟨ys, r, hy⟩ := vals_of_pairs I fun q hq => h q (List.mem_cons_of_mem _ hq)
    obtain ⟨its, rv, pt, _⟩ := I.tuple (h t List.mem_cons_self).tup
    cases rv with
    | cons r1 rv =>
      cases r1
      cases rv with
      | cons r2 rv =>
        cases rv
        rename_i y
        refine ⟨y :: ys, .cons r2 r, fun j q e => ?_⟩
        cases j with
        | zero => cases e; exact ⟨y, rfl, pt⟩
        | succ j => exact hy j q (by simpa using e)
theorem paired_dT {H : Hp} : ∀ {ts : List Pr} {ys : List Value}, Vals (ts.map (·.2.2.2)) ys → (∀ t ∈ ts, H t.2.1 = some (.tup (t.2.2.1.map kV))) →
    Paired (fun (p : List Key × V) (q : List Key × Addr × Value) => p.1 = q.1 ∧ H q.2.1 = some (.tup (p.1.map kV)) ∧ RelV p.2 q.2.2) (ts.map (·.2.2)) ((ts.zip ys).map fun z => (z.1.2.2.1, z.1.2.1, z.2))
  | [], _, r, _ => by cases r; exact .nil
  | t :: ts, _, r, h => by
    cases r with
    | cons r1 r2 => exact .cons ⟨rfl, h t List.mem_cons_self, r1⟩ (paired_dT r2 fun q hq => h q (List.mem_cons_of_mem _ hq))
theorem cr_dictP (hc : X.calm = true) (hu : X.A.units + 64 < cLine) : CallR X (.type "dict") (rDictP X.K) := by
  intro pins s σ H xs us Q I r h
  obtain ⟨a, ts, rfl, hl, hp, hnd, q⟩ := h
  rw [Vals.ref1 r]
  obtain ⟨its, rv, pl, hz⟩ := I.list hl
  have ei := vals_refs rv
  subst ei
  obtain ⟨ys, ry, hy⟩ := vals_of_pairs I hp
  have hly : ts.length = ys.length := by have := ry.length; simpa using this
  rw [List.length_map] at hz
  let ps : List (Value × Value) := (ts.zip ys).map fun z => (.ref z.1.2.1, z.2)
  let ds : List (List Key × Addr × Value) := (ts.zip ys).map fun z => (z.1.2.2.1, z.1.2.1, z.2)
  let Ts : Nat → Addr := fun j => (ts[j]?.map (·.1)).getD 0
  have hlp : ps.length = ts.length := by show ((ts.zip ys).map _).length = _; rw [List.length_map, List.length_zip]; omega
  have at_ : ∀ (j : Nat) (k v : Value), ps[j]? = some (k, v) → ∃ t, ts[j]? = some t ∧ ys[j]? = some v ∧ k = .ref t.2.1 := fun j k v e => by
    have e' : ((ts.zip ys).map fun z => (Value.ref z.1.2.1, z.2))[j]? = some (k, v) := e
    rw [List.getElem?_map, Option.map_eq_some_iff] at e'
    obtain ⟨z, hz, e2⟩ := e'
    rw [List.getElem?_zip_eq_some] at hz
    cases e2
    exact ⟨z.1, hz.1, hz.2, rfl⟩
  obtain ⟨ol, n, h1, h2, h3, h4⟩ := pl
  have ok : PlainSeq "list" s.heap a (ts.map fun t => Value.ref t.1).toArray ∧ PairItems s.heap (ts.map fun t => Value.ref t.1).toArray Ts ps := by
    refine ⟨⟨ol, n, h1, h2, h3, h4⟩, by simp [hlp], fun j k v e => ?_⟩
    obtain ⟨t, e1, e2, rfl⟩ := at_ j k v e
    have eT : Ts j = t.1 := by show (ts[j]?.map (·.1)).getD 0 = _; rw [e1]; rfl
    obtain ⟨y, e3, e4⟩ := hy j t e1
    rw [e2] at e3; cases e3
    exact ⟨by rw [eT]; simp [e1], .inl (by rw [eT]; exact e4)⟩
  have hkey : ∀ x ∈ ds, (tupleKind (mixKind X.prog X.w)).is s.heap x.1 x.2.1 := fun x hx => by
    obtain ⟨z, hz, rfl⟩ := List.mem_map.mp hx
    exact key_of I.hok (hp _ (List.of_mem_zip hz).1).key
  have hdn : (ds.map (·.1)).Nodup := by
    have e : ds.map (·.1) = ts.map (·.2.2.1) := by
      have e1 : ds.map (·.1) = ((ts.zip ys).map Prod.fst).map (·.2.2.1) := by
        show ((ts.zip ys).map _).map _ = _
        rw [List.map_map, List.map_map]; rfl
      rw [e1, List.map_fst_zip (by omega)]
    rw [e]; exact hnd
  refine call_dict_pairsH (knd := tupleKind (mixKind X.prog X.w)) (ps := ds) (PairArg.list a _ Ts ps) (I.ok.hd hc) (by show X.A.units + 1 + 1 < cLine; omega) ok ⟨by rw [hlp]; show ((ts.zip ys).map _).length = _; rw [List.length_map, List.length_zip]; omega, fun i key v e => ?_⟩
    (fun h' hk x hx => ?_) (by rw [hlp]; exact hz) fun h' tk hd' hk => ?_
  · obtain ⟨t, e1, e2, rfl⟩ := at_ i key v e
    refine ⟨t.2.2.1, t.2.1, ?_, rfl⟩
    show ((ts.zip ys).map fun z => (z.1.2.2.1, z.1.2.1, z.2))[i]? = _
    rw [List.getElem?_map, (List.getElem?_zip_eq_some (z := (t, v))).mpr ⟨e1, e2⟩]; rfl
  · obtain ⟨o, items, n, ho, hr⟩ := hkey x hx
    exact ⟨o, items, n, hk _ _ (Nat.ne_of_lt (Heap.lt_size ho)) (List.not_mem_nil) ho, hr⟩
  · rw [storedAllH_nil_of_nodup ds hdn] at hd'
    obtain ⟨o, es, ep, g1, g2, g3, g4, g5, g6⟩ := hd'
    have keep : ∀ b u, s.heap.get? b = some u → h'.get? b = some u := fun b u e => hk b u (List.not_mem_nil) e
    have hfresh := I.hok.fresh (Nat.le_refl s.heap.objs.size)
    refine ⟨.ref s.heap.objs.size, upd H s.heap.objs.size (.dT (ts.map (·.2.2))), I.laid (t' := tk) keep (Nat.le_refl _) ⟨by rw [List.length_map]; exact hz, ?_, ds, paired_dT ry fun t ht => ?_, o, es, ep, g1, g2, g3, g4, g6⟩, rfl, q _ hfresh⟩
    · have hb := I.big
      exact beq_eq_false_iff_ne.mpr (Nat.ne_of_gt hb)
    · have := (hp t ht).key
      rw [upd_ne (fun z => by rw [z, hfresh] at this; cases this)]; exact this
end
/-- the pairs of a list of tuples -/
def pairsD : List PyData → Option (List (List Key × PyData))
  | [] => some []
  | .tuple [k, v] :: r => match tkOf k, pairsD r with
    | some ks, some l => some ((ks, v) :: l)
    | _, _ => none
  | _ => none
def oDictP : OpN
  | [.list ds] => match pairsD ds with
    | some kvs => if (kvs.map (·.1)).Nodup then .val (.own false (.dict (kvs.map fun p => (tkeyD p.1, p.2)))) else .no
    | none => .no
  | _ => .no
theorem pairs_rds {K : PySem.W.Frag} {F : Hp} : ∀ {ds : List PyData} {vs : List V} {kvs : List (List Key × PyData)}, RDs K F vs ds → pairsD ds = some kvs →
    ∃ ts : List Pr, vs = ts.map (fun t => V.ref t.1) ∧ (∀ t ∈ ts, F t.1 = some (.tup [.ref t.2.1, t.2.2.2]) ∧ F t.2.1 = some (.tup (t.2.2.1.map kV))) ∧ ts.map (·.2.2.1) = kvs.map (·.1) ∧ RDs K F ((ts.map (·.2.2)).map (·.2)) (kvs.map (·.2))
  | [], _, _, r, e => by cases r; cases e; exact ⟨[], rfl, fun t h => (List.not_mem_nil h).elim, rfl, .nil⟩
  | d :: ds, _, kvs, r, e => by
    cases r with
    | @cons v _ vs _ a b =>
      cases d with
      | tuple l =>
        match l, a, e with
        | [k, x], a, e =>
          unfold pairsD at e
          cases e1 : tkOf k with
          | none => rw [e1] at e; cases e
          | some ks =>
            cases e2 : pairsD ds with
            | none => rw [e1, e2] at e; cases e
            | some l =>
              rw [e1, e2] at e; cases e
              obtain ⟨ts, rfl, h1, h2, h3⟩ := pairs_rds b e2
              cases a with
              | tup q rs =>
                cases rs with
                | cons r1 rs =>
                  cases rs with
                  | cons r2 rs =>
                    cases rs
                    rename_i pa kv xv
                    obtain ⟨kb, rfl, hkb⟩ := tkOf_rd r1 e1
                    refine ⟨(pa, kb, ks, xv) :: ts, rfl, fun t ht => ?_, by simp [h2], .cons r2 h3⟩
                    rcases List.mem_cons.mp ht with rfl | ht
                    · exact ⟨q, hkb⟩
                    · exact h1 t ht
        | [], _, e => cases e
        | [_], _, e => cases e
        | _ :: _ :: _ :: _, _, e => cases e
      | _ => cases e
theorem zip_tk {α : Type} : ∀ (a : List (List Key)) (b : List α), (a.zip b).map (fun p => (tkeyD p.1, p.2)) = (a.map tkeyD).zip b
  | [], _ => rfl
  | _ :: _, [] => rfl
  | x :: a, y :: b => congrArg (_ :: ·) (zip_tk a b)
theorem ok_dictP {K : PySem.W.Frag} : OpNOk K (rDictP K) oDictP := by
  intro xs ds H F Q s r h
  unfold oDictP at h
  split at h
  · rename_i ds
    cases e : pairsD ds with
    | none => rw [e] at h; exact h.elim
    | some kvs =>
      rw [e] at h; dsimp only at h
      by_cases z : (kvs.map (·.1)).Nodup
      · rw [if_pos z] at h
        obtain ⟨v, rfl, rv⟩ := r.one
        obtain ⟨a, vs, rfl, r1, r2⟩ := rv.lst s
        obtain ⟨ts, rfl, h1, h2, h3⟩ := pairs_rds r2 e
        refine ⟨a, ts, rfl, .inl r1, fun t ht => ⟨.inl (.inl (s.tp _ _ (h1 t ht).1)), s.tp _ _ (h1 t ht).2⟩, by rw [h2]; exact z, fun p hp => ?_⟩
        have ed : kvs.map (fun p => (tkeyD p.1, p.2)) = ((ts.map (·.2.2)).map fun p => tkeyD p.1).zip (kvs.map (·.2)) := by
          have e1 : (ts.map (·.2.2)).map (fun p => tkeyD p.1) = (kvs.map (·.1)).map tkeyD := by rw [← h2, List.map_map, List.map_map]; rfl
          rw [e1, ← zip_tk]
          have e2 : (kvs.map (·.1)).zip (kvs.map (·.2)) = kvs := (List.zip_of_prod rfl rfl).symm
          rw [e2]
        rw [ed] at h
        exact h (.ref p) _ F ⟨fun a u q => by rw [upd_ne (ne_of_none q hp)]; exact q, .refl _, s.trans (upd_sub hp), fun _ q => .inl q⟩ ⟨p, _, rfl, hp, upd_same, s.none hp, .dT h3⟩
      · rw [if_neg z] at h; exact h.elim
  · exact h.elim
/-! ### [..] * k -/
def cRepL (c : CE) (k : Nat) : CE := fun env => (c env).bind fun x env1 => match x with
  | .own false (.list ds) => if ds.length * k ≤ 1000000 ∧ k ≤ 1000000 then .ok (.own false (.list (List.replicate k ds).flatten)) env1 else .no
  | _ => .no
theorem rds_app {K : PySem.W.Frag} {F : Hp} : ∀ {vs ws : List V} {ds es : List PyData}, RDs K F vs ds → RDs K F ws es → RDs K F (vs ++ ws) (ds ++ es)
  | _, _, _, _, .nil, h => h
  | _, _, _, _, .cons a b, h => .cons a (rds_app b h)
theorem rds_rep {K : PySem.W.Frag} {F : Hp} {vs : List V} {ds : List PyData} (h : RDs K F vs ds) : ∀ k : Nat, RDs K F (List.replicate k vs).flatten (List.replicate k ds).flatten
  | 0 => .nil
  | k + 1 => by rw [List.replicate_succ, List.flatten_cons, List.replicate_succ, List.flatten_cons]; exact rds_app h (rds_rep h k)
theorem de_repL {X : Cx} {xp : XP} {W : WX} {a : Expr} {c : CE} {t : TE} {k j : Nat} {p pos : Pos} (h : DE X xp W a c t) : DE X xp W (.BinOp a .Mult (.Constant (.int (k : Nat)) j p) pos) (cRepL c k) (tOp rRep t (tC (.int (k : Nat)))) := by
  refine ⟨pe_op op_rep h.1 pe_int, fun e σ H F env Q w q => h.2 e σ H F env _ w ?_⟩
  unfold cRepL at q
  cases g : c env with
  | no => rw [g] at q; exact q
  | ex x env1 => rw [g] at q; exact q
  | ok x env1 =>
    rw [g] at q; simp only [Res.bind] at q
    intro v H' F' w' s rc
    cases x with
    | own b d =>
      cases b with
      | true => exact q.elim
      | false =>
        cases d with
        | list ds =>
          dsimp only at q
          by_cases z : ds.length * k ≤ 1000000 ∧ k ≤ 1000000
          · rw [if_pos z] at q
            obtain ⟨l, u, rfl, h1, n1, k1, _, _⟩ := rc
            generalize ed : PyData.list ds = dd at k1
            cases k1 with
            | dK _ _ => cases ed
            | dT _ => cases ed
            | lst rs =>
              cases ed
              have hl := rs.length
              refine ⟨l, k, _, rfl, rfl, h1, by omega, by omega, ?_, fun p0 hp => ?_⟩
              · rw [Int.toNat_natCast, hl]; exact Nat.le_trans z.1 (by decide)
              · rw [Int.toNat_natCast]
                exact q _ _ _ (w'.grow (w'.grow_new hp)) s (RN.rc (c := .own false (.list (List.replicate k ds).flatten)) w' (w'.grow_new hp) ⟨p0, _, rfl, hp, upd_same, w'.fresh hp, .lst (rds_rep rs k)⟩)
          · rw [if_neg z] at q; exact q.elim
        | _ => exact q.elim
    | _ => exact q.elim
end DL

/-! DME: len(set(xs)), of whole numbers, of tuples of them. -/
namespace DL
open PySem PySem.Spec PyProof.Rows L2
/-- each of them once -/
def uniqA {α : Type} [DecidableEq α] : List α → List α
  | [] => []
  | x :: r => if x ∈ uniqA r then uniqA r else x :: uniqA r
section
variable {α : Type} [DecidableEq α]
theorem mem_uniqA {k : α} : ∀ {l : List α}, k ∈ uniqA l ↔ k ∈ l
  | [] => .rfl
  | x :: r => by
    unfold uniqA
    by_cases h : x ∈ uniqA r
    · rw [if_pos h, mem_uniqA (l := r), List.mem_cons]
      exact ⟨.inr, fun z => z.elim (fun e => by rw [e]; exact mem_uniqA.mp h) id⟩
    · rw [if_neg h, List.mem_cons, List.mem_cons, mem_uniqA (l := r)]
theorem nodup_uniqA : ∀ l : List α, (uniqA l).Nodup
  | [] => .nil
  | x :: r => by
    unfold uniqA
    by_cases h : x ∈ uniqA r
    · rw [if_pos h]; exact nodup_uniqA r
    · rw [if_neg h]; exact List.nodup_cons.mpr ⟨h, nodup_uniqA r⟩
theorem uniqA_of {l : List α} (h : l.Nodup) : uniqA l = l := by
  induction l with
  | nil => rfl
  | cons x r ih =>
    obtain ⟨h1, h2⟩ := List.nodup_cons.mp h
    unfold uniqA
    rw [if_neg (fun z => h1 (mem_uniqA.mp z)), ih h2]
theorem uniqA_count {l m : List α} (h1 : m.Nodup) (h2 : ∀ k, k ∈ m ↔ k ∈ l) : m.length = (uniqA l).length :=
  ((List.perm_ext_iff_of_nodup h1 (nodup_uniqA l)).mpr fun k => (h2 k).trans mem_uniqA.symm).length_eq
theorem uniqA_le (l : List α) : (uniqA l).length ≤ l.length := List.Nodup.length_le_of_subset (nodup_uniqA l) fun k hk => mem_uniqA.mp hk
end
section
variable {X : Cx} {xp : XP} {W : WX}
def tLenSet (K : PySem.W.Frag) (ta : TE) : TE := fun σ H Q => ta σ H fun x H1 => ∃ (l : Addr) (n : Nat), x = .ref l ∧
  ((∃ ns : List Int, SqI K H1 l ns ∧ ns.length ≤ 1000 ∧ n = (uniqA ns).length) ∨ ∃ ks : List (Addr × List Int), SqL K H1 l (ks.map fun p => V.ref p.1) ∧ (∀ p ∈ ks, SqT K H1 p.1 (p.2.map V.int)) ∧ ks.length < 64 ∧ n = (uniqA (ks.map (·.2))).length) ∧ Q (.int (n : Nat)) H1
theorem pe_lenSet2 {a : Expr} {ta : TE} {p p2 q pos : Pos} (hc : X.calm = true) (hu : X.A.units + 64 < cLine) (hg : Gl X "len") (hm : X.mg "len" = none) (hg2 : Gl X "set") (hm2 : X.mg "set" = none) (ha : PE X a ta)
    (na : starEach [a] X.env = (false, eval a X.env) :: starEach [] X.env := by rfl) : PE X (.Call (.Name "len" p) [.Call (.Name "set" p2) [a] [] q] [] pos) (tLenSet X.K ta) := by
  refine ⟨(fun pins s σ H Q I h => ?_)⟩
  refine Call_ (ld_blt I hg hm PySem.boot_len (?_)); refine callWith_builtin1 (args_cons ?_ rfl) rfl rfl
  refine Call_ (ld_blt I hg2 hm2 PyProof.Rows.boot_set (?_)); refine callWith_type1 (args_cons (thn (ha.run pins s σ H _ I h) fun v s1 ⟨x, H1, I1, r1, q1⟩ => args_nil ?_) na) na rfl
  obtain ⟨l, n, rfl, hq, q1⟩ := q1
  cases r1
  rcases hq with ⟨ns, hs, h1k, rfl⟩ | ⟨ks, hl, hk, hf, rfl⟩
  · refine set_of_ints hc I1 hs h1k fun h' tk c R hcn k => ?_
    refine args_nil (?_)
    have I2 : Inv X pins σ H1 { s1 with heap := h', toks := tk } := I1.kept k
    obtain ⟨o, es, ep, t, ho, hex, hd, g, nd, hm, hb, hf, hn, hr, hl⟩ := R
    have hcu : es.size = (uniqA ns).length := by
      have := uniqA_count (l := ns) nd fun k => by rw [← hm k, decide_eq_true_eq]
      rw [List.length_map, Array.length_toList] at this; exact this
    have hle := uniqA_le ns
    exact call_len_set ho hex hd hf (by omega) ⟨.int ((uniqA ns).length : Nat), H1, I2.tok _, ⟨_, by rw [hcu]⟩, q1⟩
  · obtain ⟨its, rv, pl, hz⟩ := I1.list hl
    refine call_set_tups (P := X.prog) (w := X.w) ks (I1.ok.hd hc) pl.isList (by simpa using refs_of_vals rv) (fun p hp => I1.isT (hk p hp)) hf (by omega) fun h' tk L es ep t R g k => ?_
    refine args_nil (?_)
    have I2 : Inv X pins σ H1 { s1 with heap := h', toks := tk } := I1.kept k
    obtain ⟨o, ho, hex, hd⟩ := R.ob
    have hsz := R.size (s := { s1 with heap := h', toks := tk })
    have hfew := R.few
    have hcu : L.length = (uniqA (ks.map (·.2))).length := by
      have := uniqA_count (l := ks.map (·.2)) R.nd fun x => by
        constructor
        · intro hx
          obtain ⟨p, hp, rfl⟩ := List.mem_map.mp hx
          exact List.mem_map.mpr ⟨p, List.mem_of_mem_take (g.sub p hp), rfl⟩
        · intro hx
          obtain ⟨p, hp, rfl⟩ := List.mem_map.mp hx
          exact g.all p (by rw [List.take_length]; exact hp)
      rw [List.length_map] at this; exact this
    exact call_len_set ho hex hd (R.fits (s := { s1 with heap := h', toks := tk })) (by omega) ⟨.int ((uniqA (ks.map (·.2))).length : Nat), H1, I2.tok _, ⟨_, by rw [hsz, hcu]⟩, q1⟩
/-- tuples of whole numbers -/
def tupsOf : List PyData → Option (List (List Int))
  | [] => some []
  | .tuple ds :: r => match intsOf ds, tupsOf r with
    | some ns, some l => some (ns :: l)
    | _, _ => none
  | _ => none
def oLenSet : PyData → OR
  | .list ds => match intsOf ds with
    | some ns => if ns.length ≤ 1000 then frzI ((uniqA ns).length : Nat) else .no
    | none => match tupsOf ds with
      | some ks => if ks.length < 64 then frzI ((uniqA ks).length : Nat) else .no
      | none => .no
  | _ => .no
theorem tups_rds {K : PySem.W.Frag} {F : Hp} : ∀ {ds : List PyData} {vs : List V} {l : List (List Int)}, RDs K F vs ds → tupsOf ds = some l →
    ∃ ks : List (Addr × List Int), vs = ks.map (fun p => V.ref p.1) ∧ (∀ p ∈ ks, F p.1 = some (.tup (p.2.map V.int))) ∧ ks.map (·.2) = l
  | [], _, _, r, e => by cases r; cases e; exact ⟨[], rfl, fun p h => (List.not_mem_nil h).elim, rfl⟩
  | d :: ds, _, l, r, e => by
    cases r with
    | @cons v _ vs _ a b =>
      cases d with
      | tuple xs =>
        unfold tupsOf at e
        cases e1 : intsOf xs with
        | none => rw [e1] at e; cases e
        | some ns =>
          cases e2 : tupsOf ds with
          | none => rw [e1, e2] at e; cases e
          | some l2 =>
            rw [e1, e2] at e; cases e
            obtain ⟨ks, rfl, h1, h2⟩ := tups_rds b e2
            cases a with
            | tup q rs =>
              have := intsOf_rds rs e1
              subst this
              refine ⟨(_, ns) :: ks, rfl, fun p hp => ?_, by simp [h2]⟩
              rcases List.mem_cons.mp hp with rfl | hp
              · exact q
              · exact h1 p hp
      | _ => cases e
theorem de_lenSet {a : Expr} {o : Opd} {ta : TE} {p p2 q pos : Pos} (hc : X.calm = true) (hu : X.A.units + 64 < cLine) (hg : Gl X "len") (hm : X.mg "len" = none) (hg2 : Gl X "set") (hm2 : X.mg "set" = none) (ha : DO X xp W a o ta)
    (na : starEach [a] X.env = (false, eval a X.env) :: starEach [] X.env := by rfl) : DE X xp W (.Call (.Name "len" p) [.Call (.Name "set" p2) [a] [] q] [] pos) (cOp1 oLenSet o) (tLenSet X.K ta) := by
  refine ⟨pe_lenSet2 hc hu hg hm hg2 hm2 ha.pe na, fun e σ H F env Q w h => ?_⟩
  refine ha.run w (fun x env1 H' F' cls d q w' s y => ?_) (fun q => ?_) fun la env1 v H1 F1 q w1 s1 l1 => ?_
  · unfold cOp1 at h; rw [q] at h; exact h H' F' cls d w' s y
  · unfold cOp1 at h; rw [q] at h; exact h
  · unfold cOp1 at h; rw [q] at h; simp only [Res.bind] at h
    cases g1 : la.get env1 with
    | none => rw [g1] at h; exact h.elim
    | some x =>
      rw [g1] at h
      have rb := RB.of w1 l1 g1
      cases x with
      | list ds =>
        unfold oLenSet at h; dsimp only at h
        obtain ⟨l, vs, rfl, r1, r2⟩ := rb.lst w1.sub
        cases g : intsOf ds with
        | some ns =>
          rw [g] at h; dsimp only at h
          by_cases z : ns.length ≤ 1000
          · rw [if_pos z] at h
            have e := intsOf_rds r2 g
            subst e
            exact ⟨l, _, rfl, .inl ⟨ns, .inl (.inl r1), z, rfl⟩, OPost.int w1.sub (.of w1 s1 h)⟩
          · rw [if_neg z] at h; exact h.elim
        | none =>
          rw [g] at h; dsimp only at h
          cases g2 : tupsOf ds with
          | none => rw [g2] at h; exact h.elim
          | some ks =>
            rw [g2] at h; dsimp only at h
            by_cases z : ks.length < 64
            · rw [if_pos z] at h
              obtain ⟨ts, rfl, h1, rfl⟩ := tups_rds r2 g2
              exact ⟨l, _, rfl, .inr ⟨ts, .inl r1, fun p hp => .inl (.inl (w1.sub.tp _ _ (h1 p hp))), by simpa using z, rfl⟩, OPost.int w1.sub (.of w1 s1 h)⟩
            · rw [if_neg z] at h; exact h.elim
      | _ => exact h.elim
end
end DL

/-! DMF: is True, is not True, of truths. -/
namespace DL
open PySem PySem.Spec PyProof.Rows L2
def oIsB : Op2
  | .bool a, .bool b => frzB (decide (a = b))
  | _, _ => .no
def oNotB : Op2
  | .bool a, .bool b => frzB (!decide (a = b))
  | _, _ => .no
section
variable {K : PySem.W.Frag} {H F : Hp}
theorem RB.bl {v : V} {b : Bool} (h : RB K H F v (.bool b)) : v = .bl b := by
  generalize e : PyData.bool b = d at h
  cases h with
  | fz r => cases r <;> first | (cases e; rfl) | cases e
  | own h1 n1 k1 => cases k1 <;> cases e
theorem ok_isB : Op2Ok K (fun x y H Q => ∃ a b, x = .bl a ∧ y = .bl b ∧ Q (.bl (decide (a = b))) H) oIsB := by
  intro x y dx dy H F Q s rx ry h
  unfold oIsB at h
  split at h
  · exact ⟨_, _, rx.bl, ry.bl, h.bl s⟩
  · exact h.elim
theorem ok_notB : Op2Ok K (fun x y H Q => ∃ a b, x = .bl a ∧ y = .bl b ∧ Q (.bl (!decide (a = b))) H) oNotB := by
  intro x y dx dy H F Q s rx ry h
  unfold oNotB at h
  split at h
  · exact ⟨_, _, rx.bl, ry.bl, h.bl s⟩
  · exact h.elim
end
end DL

/-! DNA: raise; try .. except StoneError as e, where the suite's answer is known by the class. -/
namespace DL
open PySem PySem.Spec PyProof.Rows L2

/-- a class of the program's own that is raised -/
structure Rz (K : PySem.W.Frag) (mg : Str → Option Value) (x : Str) (C : Addr) : Prop where
  g : mg x = some (.ref C)
  q : PySem.W.excIn K C [.type "ValueError", .type "Exception", .type "BaseException", .type "object"] "ValueError.__new__" = true
  k : PySem.W.keepIn K (.ref C) = true
  b : PySem.W.subIn K (.ref C) (.type "BaseException") = some true
  t : PySem.W.typeIn K (.ref C) = some (.type "type")
/-- what is told of an exception: its class, by name -/
def xpC (ca : List (Str × Addr)) : XP := fun x cls d _ => ∃ C, ca.lookup x.cls = some C ∧ cls = .ref C ∧ d = none
def cRaise (x : Str) : CS := fun env => .ex ⟨x, none⟩ env
section
variable {X : Cx} {W : WX} {ca : List (Str × Addr)} {xp : XP}
theorem ds_raise {x m : Str} {C : Addr} {j : Nat} {p p2 pos pos2 : Pos} (hc : X.calm = true) (tk : L2N.Takes X W) (hg : Gl X x) (R : Rz X.K X.mg x C) (hl : ca.lookup x = some C) (hdb : (x == ("__debug__" : Str)) = false := by decide) :
    DS X (xpC ca) W (.Raise (some (.Call (.Name x p) [.Constant (.str m) j p2] [] pos)) none pos2) (cRaise x) :=
  ⟨_, L2N.ps_raise hc tk (L2N.pmk_own PySem.F.excBase_ValueError R.q R.g R.k (raises_own R.b R.t) hg hdb), fun e σ H F env D w h => h σ H F _ _ w (.refl _) ⟨C, hl, rfl, rfl⟩⟩
/-- try: .. except .. as n: .., n in slot i; the suite ends in a value that hm tells -/
def cTry (i : Nat) (hm : Exc → Option Cell) (cb : CS) : CS := fun env => match cb env with
  | .ex x env1 => match decide (i < env1.length), hm x with
    | true, some c => .rt c env1
    | _, _ => .no
  | r => r
/-- what the suite must do -/
def tSuite (K : PySem.W.Frag) (xp : XP) (hm : Exc → Option Cell) (i : Nat) (a : Addr) (cls : Value) (d : Option Addr) : TS := fun D σ H =>
  ∃ x c F, hm x = some c ∧ xp x cls d H ∧ Sub F H ∧ σ[i]? = some (some (.ref a)) ∧ ∀ v H' F', Grow H F H' F' → RN K H H' F' v c → D.rt v H'
def tSem (K : PySem.W.Frag) (xp : XP) (c : CS) (W : WX) : TS := fun D σ H => ∃ e F env, Wl K e σ H F env ∧ SPost K xp W e F D (c env)
theorem ds_try {x n : Str} {cS : Value} {i : Nat} {body suite : List Stmt} {b₀ : Stmt} {np pos pos' : Pos} {hm : Exc → Option Cell} {cb : CS}
    (hs : X.stack = X.env :: X.outer) (hf : X.env.frame = some X.env.locals) (hN : X.N.Nodup) (hi : X.N[i]? = some n) (hln : X.env.kindOf n = some .local) (hc : Names X x cS) (tk : L2N.Takes X W)
    (hk : ∀ ex cls d H', (hm ex).isSome = true → xp ex cls d H' → PySem.W.exmOne X.K cls cS = some true)
    (hb : ∀ (W' : WX) (pn : List (Addr × Obj)) (xe : Value → Shared → Prop), L2N.Takes (X.tr pn xe) W' → PassesOwn (model X.prog X.w) X.A X.env xe → DSs (X.tr pn xe) xp W' body cb)
    (hsu : ∀ (a : Addr) (oe : Obj) (cls : Value) (d : Option Addr) (pn : List (Addr × Obj)), L2N.Zn cls d oe → (∃ vs, oe.data = .fields vs) → PSs (X.suite a ((a, oe) :: pn)) (b₀ :: suite) (tSuite X.K xp hm i a cls d)) :
    DS X xp W (.Try body [.ExceptHandler (some (.Name x np)) (some n) (b₀ :: suite) pos'] [] [] pos) (cTry i hm cb) := by
  refine ⟨_, L2N.ps_try_as (tb := tSem X.K xp cb) hs hf hN hi hln hc tk (fun W' pn xe tk' po => ?_) hsu, fun e σ H F env D w h => ⟨e, F, env, w, ?_⟩⟩
  · obtain ⟨t, p, q⟩ := hb W' pn xe tk' po
    exact ⟨fun pins s σ H D I ⟨e, F, env, w, h⟩ => p.run pins s σ H D I (q e σ H F env D w h)⟩
  · unfold cTry at h
    cases g : cb env with
    | nx env1 => rw [g] at h; exact h
    | rt c env1 => rw [g] at h; exact h
    | bk env1 => rw [g] at h; exact h
    | ct env1 => rw [g] at h; exact h
    | no => rw [g] at h; exact h
    | ex ex env1 =>
      rw [g] at h; dsimp only at h
      cases gi : decide (i < env1.length) with
      | false => rw [gi] at h; exact h.elim
      | true =>
        rw [gi] at h
        have hil : i < env1.length := of_decide_eq_true gi
        cases gm : hm ex with
        | none => rw [gm] at h; exact h.elim
        | some c =>
          rw [gm] at h; dsimp only at h
          intro σ' H' F' cls d w' s' hx
          refine ⟨true, hk ex cls d H' (by rw [gm]; rfl) hx, fun _ a na => ?_, fun z => by cases z⟩
          exact ⟨ex, c, F', gm, hx, w'.sub, by rw [List.getElem?_set_self (by rw [w'.len]; exact hil)], fun v H2 F2 gr rn => h v σ' H2 F2 (w'.grow gr) (s'.trans gr.fz) (rn.rc w' gr)⟩
end
end DL

/-! DNB: defs that are called while the exception p is handled; isinstance of p. -/
namespace DL
open PySem PySem.Spec PyProof.Rows L2

/-- a def called while p's exception is handled: its promise at this p -/
structure FnP (P : Program) (w : World) (K : PySem.W.Frag) (mg : Str → Option Value) (base : Heap) (k : Nat) (f : Addr) (fd : FuncData) (ps : List Str) (p : Addr × Obj) (sp : Sp) : Prop where
  len : ∀ vs H Q E, sp vs H Q E → vs.length = ps.length
  run : ∀ (A : Around) (fr : List Env) (s : Shared) (H : Hp) (us : List Value) (vs : List V) (Q : VK) (E : XK), L2H.RoomH k A → L2H.Hot1 A p → L2H.PinOk fr H s p → Env0 P w K mg base A fr s H → BindsTo s fd ⟨us, []⟩ (ps.zip us) → Vals vs us → sp vs H Q E →
    codeAny (model P w) A (.call (.ref f) ⟨us, []⟩) (CR (L2N.CX P w) fr P w H s Q E) s
theorem FnP.mono {P : Program} {w : World} {K : PySem.W.Frag} {mg : Str → Option Value} {base : Heap} {j k : Nat} {f : Addr} {fd : FuncData} {ps : List Str} {p : Addr × Obj} {sp : Sp} (F : FnP P w K mg base j f fd ps p sp) (h : j ≤ k) : FnP P w K mg base k f fd ps p sp :=
  ⟨F.len, fun A fr s H us vs Q E hr => F.run A fr s H us vs Q E (hr.mono h)⟩
/-- the context of its body -/
abbrev bodyH (P : Program) (w : World) (K : PySem.W.Frag) (mg : Str → Option Value) (base : Heap) (N : List Str) (qual : Str) (st : Stmt) (f : Addr) (cdv : Value) (A : Around) (fr : List Env) (s : Shared) (H : Hp) (E : XK) (p : Addr × Obj) : Cx :=
  L2H.cxH (L2N.CX P w) P w K mg base N qual (defScope st) f cdv A fr s H E p
section
variable {P : Program} {w : World} {K : PySem.W.Frag} {mg : Str → Option Value} {base : Heap} {xp : XP}
theorem fnP_of {x qual : Str} {st : Stmt} {f : Addr} {fd : FuncData} {N ps : List Str} {k : Nat} {sp : Sp} {p : Addr × Obj} (F : Fun K x qual st f fd) (S : FnScope N ps (defScope st)) (hl : ∀ vs H Q E, sp vs H Q E → vs.length = ps.length)
    (hb : ∀ (cdv : Value) (A : Around) (fr : List Env) (s : Shared) (H : Hp) (vs : List V) (Q : VK) (E : XK), L2H.Hot1 A p → L2H.RoomH k (A.deeper (envOfC qual (defScope st) s.heap.objs.size f cdv)) → sp vs H Q E →
      ∃ t, PSs (bodyH P w K mg base N qual st f cdv A fr s H E p) (defBody st) t ∧ t { nx := fun _ H' => Q .non H', rt := Q } (L2.start N vs) H) :
    FnP P w K mg base (k + 1) f fd ps p sp := by
  rcases F.ex with ⟨_, _, kV, doc, pm, an, cdv, ct, _, rfl, lk, hcd⟩
  constructor
  · exact hl
  intro A fr s H us vs Q E room hot hpin env bnd rel wish
  have vl := hl _ _ _ _ wish
  have inS : K.In s.heap := env.mod.kin.keeps fun b o q => (env.bs b o q).1
  have free : s.heap.NoLimit := env.mod.nolimit.keeps fun b o q => (env.bs b o q).1
  refine codeAny_call_function room.depth (inS _ _ lk) rfl S.co S.gen rfl (PySem.W.codeRec_of inS hcd) (bnd _ _ _ _ (wpAny_newFunctionEnv_cells S.kind ?kinds fun en he s1 y => ?go))
  case kinds =>
    rintro ⟨n, v⟩ hy
    have hn := S.par n (List.of_mem_zip hy).1
    exact hn.imp (fun q => q) (fun q => ⟨q, PySem.W.cellsFrom_some _ _ _ (.inl q)⟩)
  case go =>
    subst he
    refine ⟨free.keeps y.toInCall.keep, codeAny_func ?_⟩
    obtain ⟨t, body, wish2⟩ := hb cdv A fr s H vs Q E hot (room.deeper _) wish
    have J := L2H.inv_startH (CX := L2N.CX P w) (E := E) S hpin env vl rel y
    refine wpAny_mono (body.run [] s1 (L2.start N vs) H _ J wish2) ?_ (fun _ _ z => z)
    intro fl s' z
    match fl, z with
    | .ret u, ⟨v, σ2, H2, I2, rv, q⟩ => exact ⟨v, H2, I2.os, I2.bare, I2.base, I2.hok, rv, q⟩
    | .next, ⟨σ2, H2, I2, q⟩ => exact ⟨.non, H2, I2.os, I2.bare, I2.base, I2.hok, rfl, q⟩
    | .brk, ⟨_, _, _, q⟩ => exact q.elim
    | .cont, ⟨_, _, _, q⟩ => exact q.elim
/-- a body's end, by its meaning -/
theorem fn_fin {n : Nat} {c : CS} {H F0 : Hp} {ds : List PyData} {Q : VK} {E : XK} (p : FPost K xp H F0 Q E (runDef n c ds)) :
    SPost K xp (fun cls d _ H => E cls d H) ⟨H, F0, fun _ => False, fun _ => none, fun _ => none⟩ F0 { nx := fun _ H' => Q .non H', rt := Q } (c (ds.map .frz ++ emps (n - ds.length))) := by
  have gr : ∀ {σ' H' F' env}, Wl K ⟨H, F0, fun _ => False, fun _ => none, fun _ => none⟩ σ' H' F' env → Sub F0 F' → Grow H F0 H' F' := fun {σ' H' F' env} w s => ⟨fun a o h => w.keep a o h (fun z => z), s, w.sub, fun a h => by
    rcases w.new a h with y | y | y
    · exact .inl y
    · exact .inr y
    · exact y.elim⟩
  unfold runDef at p
  cases g : c (ds.map .frz ++ emps (n - ds.length)) with
  | nx env => rw [g] at p; exact fun σ' H' F' w s => p .non H' F' (gr w s) .non
  | rt r env =>
    rw [g] at p
    intro v σ' H' F' w s rc
    refine p v H' F' (gr w s) ?_
    cases r with
    | frz d => exact rc
    | own b d =>
      obtain ⟨a, u, e1, h1, n1, k1, m, _⟩ := rc
      rcases m with m | m
      · exact ⟨a, u, e1, m, h1, n1, k1⟩
      · exact m.elim
    | emp => exact rc.elim
    | lck d => exact rc.elim
    | exc x => exact rc.elim
  | ex x env => rw [g] at p; exact fun σ' H' F' cls d w s y => p H' F' cls d (gr w s) y
  | bk env => rw [g] at p; exact p.elim
  | ct env => rw [g] at p; exact p.elim
  | no => rw [g] at p; exact p
theorem fn_BP {x qual : Str} {st : Stmt} {f : Addr} {fd : FuncData} {N ps : List Str} {k n : Nat} {c : CS} {p : Addr × Obj} (F : Fun K x qual st f fd) (S : FnScope N ps (defScope st)) (hn : ps.length = n) (hN : n ≤ N.length)
    (hb : ∀ (cdv : Value) (A : Around) (fr : List Env) (s : Shared) (H : Hp) (E : XK), L2H.Hot1 A p → L2H.RoomH k (A.deeper (envOfC qual (defScope st) s.heap.objs.size f cdv)) → DSs (bodyH P w K mg base N qual st f cdv A fr s H E p) xp (fun cls d _ H => E cls d H) (defBody st) c) :
    FnP P w K mg base (k + 1) f fd ps p (spB K xp n (runDef N.length c)) := by
  refine fnP_of F S (fun vs H Q E h => by rw [hn]; exact h.1) (fun cdv A fr s H vs Q E hot hr h => ?_)
  obtain ⟨hl, F0, ds, s0, r0, q⟩ := h
  obtain ⟨t, pt, z⟩ := hb cdv A fr s H E hot hr
  exact ⟨t, pt, z ⟨H, F0, fun _ => False, fun _ => none, fun _ => none⟩ (L2.start N vs) H F0 (ds.map Cell.frz ++ emps (N.length - ds.length)) _ (start_wl (N := N) (by rw [hl]; exact hN) s0 r0) (fn_fin q)⟩
end

/-! ### calls there -/
section
variable {X : Cx} {W : WX} {xp : XP} {p : Addr × Obj}
theorem pe_callP {k : Nat} {f : Addr} {fd : FuncData} {ps : List Str} {sp : Sp} {E : L2.St → XK} {x : Str} {q pos : Pos} {e : Expr} {es : List Expr} {t : TA} (F : FnP X.prog X.w X.K X.mg X.base k f fd ps p sp) (hr : L2H.RoomH k X.A) (hot : L2H.Hot1 X.A p) (hp : p ∈ X.pn)
    (hg : Gl X x) (hm : X.mg x = some (.ref f)) (hk : PySem.W.keepIn X.K (.ref f) = true) (hb : Binds X.K fd ps []) (hx : ∀ σ, PassesAt (L2N.CX X.prog X.w) X σ (E σ)) (ha : PA X (e :: es) t)
    (hdb : (x == ("__debug__" : Str)) = false) (he : starEach (e :: es) X.env = (false, eval e X.env) :: starEach es X.env) (hpl : (backTo pos (starEach es X.env)).any (·.1) = false) :
    PE X (.Call (.Name x q) (e :: es) [] pos) (tCallS sp E t) := by
  constructor
  intro pins s σ H Q I h
  refine wpAny_Call_Name_kw (ld_glob I hg hm (PySem.W.callWith_K (h₀ := X.base) I.ok.mod.kin hk (thn (ha.run pos pins s σ H _ I h) ?_) he hpl) hdb)
  rintro us s1 ⟨vs, H1, I1, r, wish⟩
  refine ⟨I1.kIn, ?_⟩
  have lus : us.length = ps.length := by rw [← r.length]; exact F.len _ _ _ _ wish
  have bnd := hb s1 us I1.kIn (by rw [List.append_nil]; exact lus)
  rw [List.append_nil] at bnd
  obtain ⟨g1, g2, g3, g4, g5⟩ := I1.pin p (List.mem_append_left _ hp)
  have pin : L2H.PinOk X.stack H1 s1 p := ⟨g1, g2, fun hm => by
    rcases List.mem_cons.mp (I1.stkSub p.1 hm) with z | z
    · exact g3 z
    · exact g4 z, g5⟩
  refine wpAny_call (codeAny_mono (F.run X.A X.stack s1 H1 us vs Q (E σ) hr hot pin I1.env0 bnd r wish) ?_)
  intro r s' z
  match r, z with
  | .error e, z => exact hx σ pins H1 s1 e s' I1 z
  | .ok (.ret u), z => exact I1.after z
  | .ok .next, z => exact z.elim
  | .ok .brk, z => exact z.elim
  | .ok .cont, z => exact z.elim
theorem de_callP {k n : Nat} {m : Fn} {f : Addr} {fd : FuncData} {ps : List Str} {x : Str} {q pos : Pos} {ex : Expr} {es : List Expr} {os : List Opd} {t : TA} (tk : L2N.Takes X W)
    (F : FnP X.prog X.w X.K X.mg X.base k f fd ps p (spB X.K xp n m)) (hr : L2H.RoomH k X.A) (hot : L2H.Hot1 X.A p) (hp : p ∈ X.pn) (hg : Gl X x) (hm : X.mg x = some (.ref f)) (hk : PySem.W.keepIn X.K (.ref f) = true) (hb : Binds X.K fd ps [])
    (ha : DA X xp W (ex :: es) os t) (hn : os.length = n := by rfl) (hdb : (x == ("__debug__" : Str)) = false := by decide) (he : starEach (ex :: es) X.env = (false, eval ex X.env) :: starEach es X.env := by rfl) (hpl : (backTo pos (starEach es X.env)).any (·.1) = false := by rfl) :
    DE X xp W (.Call (.Name x q) (ex :: es) [] pos) (cCall m os) (tCallS (spB X.K xp n m) (WE W) t) := by
  refine ⟨pe_callP F hr hot hp hg hm hk hb (fun σ => L2N.passAt tk σ) ha.1 hdb he hpl, fun e σ H F env Q w q => ha.2 e σ H F env _ w ?_⟩
  unfold cCall at q
  cases g : evs os env with
  | no => rw [g] at q; exact q
  | ex x env1 => rw [g] at q; exact q
  | ok ls env1 =>
    rw [g] at q; simp only [Res.bind] at q
    intro vs H' F' w' s r
    cases g2 : gets env1 ls with
    | none => rw [g2] at q; exact q.elim
    | some ds =>
      rw [g2] at q
      refine call_run w' s r g2 ?_ q
      rw [r.length, evs_len g, hn]

/-! ### isinstance(e, C) -/
def adrD (a : Addr) : PyData := .dict [(.none, .int (a : Nat))]
def isAdr (a : Addr) : PyData → Bool
  | .dict [(.none, .int i)] => decide (i = (a : Nat))
  | _ => false
theorem isAdr_of {a : Addr} {d : PyData} (h : isAdr a d = true) : d = adrD a := by
  unfold isAdr at h
  split at h
  · rw [of_decide_eq_true h]; rfl
  · cases h
@[simp] theorem isAdr_adr (a : Addr) : isAdr a (adrD a) = true := decide_eq_true rfl
theorem rd_adr {K : PySem.W.Frag} {F : Hp} {v : V} {a : Addr} (h : RD K F v (adrD a)) : v = .ref a := by
  have no : ∀ (ks : List PyData) (es : List PyData), ks.all (fun k => !isNo k) = true → [(PyData.none, PyData.int (a : Nat))] = ks.zip es → False := fun ks es hk e => by
    cases ks with
    | nil => cases e
    | cons k ks => cases es with
      | nil => cases e
      | cons x es =>
        rw [List.zip_cons_cons] at e
        injection e with e _
        injection e with e _
        subst e
        simp [isNo] at hk
  have hk1 : ∀ kvs : List (Key × V), (kvs.map fun p => keyD p.1).all (fun k => !isNo k) = true := fun kvs => by
    rw [List.all_map, List.all_eq_true]
    intro p _
    show (!isNo (keyD p.1)) = true
    cases p.1 <;> rfl
  have hk2 : ∀ kvs : List (List Key × V), (kvs.map fun p => tkeyD p.1).all (fun k => !isNo k) = true := fun kvs => by
    rw [List.all_map, List.all_eq_true]
    intro p _
    rfl
  unfold adrD at h
  generalize e : PyData.dict [(PyData.none, PyData.int (a : Nat))] = dd at h
  cases h with
  | scr q => cases e
  | adr b =>
    injection e with e
    injection e with e _
    injection e with _ e
    injection e with e
    rw [show a = b from Int.ofNat.inj e]
  | dK _ _ r => injection e with e; exact (no _ _ (hk1 _) e).elim
  | dT _ r => injection e with e; exact (no _ _ (hk2 _) e).elim
  | _ => cases e
theorem call_isP {D : Addr} (C : ExcC X.K D) (h1 : p.2.cls = .ref D) (h2 : p.2.dict = none) (hf : ∃ vs, p.2.data = .fields vs) (hp : p ∈ X.pn) : CallR X (.builtin "isinstance") (rIsE X.K D p.1) := by
  rintro pins s σ H xs us Q I r ⟨c, cv, b, rfl, hcv, e, q⟩
  cases r with
  | cons rx rr =>
    cases rr with
    | cons rt rr =>
      cases rr
      cases rx
      rw [hcv _ rt]
      obtain ⟨hget, _⟩ := I.pin p (List.mem_append_left _ hp)
      have J : PySem.W.InstAt s.heap p.1 p.2 D none := by
        obtain ⟨vs, hv⟩ := hf
        obtain ⟨a, oc, od, oda, osl⟩ := p
        dsimp only at h1 h2 hv hget
        subst h1 h2 hv
        exact ⟨hget, rfl, rfl, trivial⟩
      exact PySem.W.kia_one (PySem.W.handS_kitx_exc C.hg C.hk C.hs C.hd C.ha C.hn C.ht C.hm) I.kIn J e (fun z => nomatch z) fun tk => ⟨.bl b, H, I.kept (t' := tk) fun _ _ z => z, rfl, q⟩
def cIsE (a : Addr) (b : Bool) (i : Nat) : CE := fun env => match env.getD i .emp with
  | .frz d => match isAdr a d with
    | true => .ok (.frz (.bool b)) env
    | false => .no
  | _ => .no
theorem isE_run {D : Addr} {i : Nat} {c : V} {cv : Value} {b : Bool} (hcv : ∀ u, RelV c u → u = cv) (hk : PySem.W.kitOne X.K (.ref D) cv = some b) {e : Ent} {σ : L2.St} {H F : Hp} {env : Cs} {Q : VK} (w : Wl X.K e σ H F env)
    (h : Post X.K xp W e σ F Q (cIsE p.1 b i env)) : tCB (rIsE X.K D p.1) (tCons (tVar i) (tCons (tC c) tNil)) σ H Q := by
  unfold cIsE at h
  cases g : env.getD i .emp with
  | frz d =>
    rw [g] at h; dsimp only at h
    cases ga : isAdr p.1 d with
    | false => rw [ga] at h; exact h.elim
    | true =>
      rw [ga] at h
      have hc := of_getD g (fun z => nomatch z)
      obtain ⟨x, hx⟩ := w.slot hc
      obtain ⟨v, rfl, r⟩ := w.cell i _ _ hc hx
      rw [isAdr_of ga] at r
      rw [rd_adr r] at hx
      exact ⟨_, hx, c, cv, b, rfl, hcv, hk, h _ H F w (.refl _) (.bl b)⟩
  | emp => rw [g] at h; exact h.elim
  | own b d => rw [g] at h; exact h.elim
  | lck d => rw [g] at h; exact h.elim
  | exc x => rw [g] at h; exact h.elim
/-- .. a class of the program's -/
theorem de_isC {D C : Addr} {i : Nat} {b : Bool} {x : Str} {ex : Expr} {p1 p2 pos : Pos} (EC : ExcC X.K D) (h1 : p.2.cls = .ref D) (h2 : p.2.dict = none) (hf : ∃ vs, p.2.data = .fields vs) (hp : p ∈ X.pn) (hg : Gl X "isinstance") (hm : X.mg "isinstance" = none)
    (hx : PE X ex (tVar i)) (hgT : Gl X x) (hmT : X.mg x = some (.ref C)) (hk : PySem.W.kitOne X.K (.ref D) (.ref C) = some b) (hdT : (x == ("__debug__" : Str)) = false := by decide)
    (he : starEach [ex, .Name x p2] X.env = (false, eval ex X.env) :: starEach [.Name x p2] X.env := by rfl) (he2 : starEach [.Name x p2] X.env = (false, eval (.Name x p2) X.env) :: starEach [] X.env := by rfl) (hpl : (backTo pos (starEach [.Name x p2] X.env)).any (·.1) = false := by rfl) :
    DE X xp W (.Call (.Name "isinstance" p1) [ex, .Name x p2] [] pos) (cIsE p.1 b i) (tCB (rIsE X.K D p.1) (tCons (tVar i) (tCons (tC (.ref C)) tNil))) :=
  ⟨pe_callB (call_isP EC h1 h2 hf hp) hg hm (by decide +kernel) (pa_cons hx (pa_cons (pe_glob hgT hmT rfl hdT) pa_nil he2) he) (by decide) (by decide) he hpl, fun e σ H F env Q w q => isE_run (c := .ref C) (cv := .ref C) (fun u r => r) hk w q⟩
/-- .. a built-in one -/
theorem de_isT {D : Addr} {T : String} {i : Nat} {b : Bool} {ex : Expr} {p1 p2 pos : Pos} (EC : ExcC X.K D) (h1 : p.2.cls = .ref D) (h2 : p.2.dict = none) (hf : ∃ vs, p.2.data = .fields vs) (hp : p ∈ X.pn) (hg : Gl X "isinstance") (hm : X.mg "isinstance" = none)
    (hx : PE X ex (tVar i)) (hgT : Gl X (Str.ofString T)) (hmT : X.mg (Str.ofString T) = none) (hvT : bootBuiltins (Str.ofString T) = some (.type T)) (hk : PySem.W.kitOne X.K (.ref D) (.type T) = some b) (hnT : (Str.ofString T) ≠ "__name__" := by decide) (hdT : ((Str.ofString T) == ("__debug__" : Str)) = false := by decide)
    (he : starEach [ex, .Name (Str.ofString T) p2] X.env = (false, eval ex X.env) :: starEach [.Name (Str.ofString T) p2] X.env := by rfl) (he2 : starEach [.Name (Str.ofString T) p2] X.env = (false, eval (.Name (Str.ofString T) p2) X.env) :: starEach [] X.env := by rfl) (hpl : (backTo pos (starEach [.Name (Str.ofString T) p2] X.env)).any (·.1) = false := by rfl) :
    DE X xp W (.Call (.Name "isinstance" p1) [ex, .Name (Str.ofString T) p2] [] pos) (cIsE p.1 b i) (tCB (rIsE X.K D p.1) (tCons (tVar i) (tCons (tC (.ty T)) tNil))) :=
  ⟨pe_callB (call_isP EC h1 h2 hf hp) hg hm (by decide +kernel) (pa_cons hx (pa_cons (pe_bltn hgT hmT hvT rfl hnT hdT) pa_nil he2) he) (by decide) (by decide) he hpl, fun e σ H F env Q w q => isE_run (c := .ty T) (cv := .type T) (fun u r => r) hk w q⟩
end
end DL

/-! DNC: a list comprehension while an exception is handled. -/
namespace DL
open PySem PySem.Spec PyProof.Rows L2

/-- the context of its block: the exception p is still told of -/
abbrev blkP (X : Cx) (p : Addr × Obj) (s : Shared) (H : Hp) (scope : Scope) (cenv : Env) (fp : List Addr) : Cx := { X.blk s H scope cenv fp with pn := [p] }
section
variable {X : Cx} {p : Addr × Obj} {xp : XP} {W : WX}
theorem Inv.toP {scope : Scope} {cenv : Env} {fp : List Addr} {s s0 : Shared} {H H0 : Hp} {σ : L2.St} (I : Inv (X.blk s0 H0 scope cenv fp) [] σ H s)
    (h : s.heap.get? p.1 = some p.2 ∧ H p.1 = none ∧ p.1 ≠ cenv.locals ∧ p.1 ∉ frs X.stack ∧ ∀ v, p.2.data ≠ .cell v) : Inv (blkP X p s0 H0 scope cenv fp) [] σ H s := by
  have k := I.ok
  refine ⟨⟨k.mod, k.kind, k.glob, k.blt, k.above, k.inj, k.has, k.cab, k.hd, k.frames, k.stk, k.exf, k.bs, k.bsz, k.noex, k.exfs, k.funs, k.frf⟩, I.os, I.bare, I.base, I.loc, I.cell, I.free, I.freeC, fun q hq => ?_, I.hok, I.len⟩
  have e : q = p := by simpa using (show q ∈ [p] ++ ([] : List (Addr × Obj)) from hq)
  rw [e]; exact h
theorem lc_hot {pins : List (Addr × Obj)} {s : Shared} {σ : L2.St} {H : Hp} {Q : VK} {elt tg iter : Expr} {ifs : List Expr} {scope : Scope} {own : List (Str × Nat)} {pos pos' : Pos} {wi : TI} {g : TG} {tt : TT} {te : TE}
    (hot : L2H.Hot1 X.A p) (hp : p ∈ X.pn) (nd : X.N.Nodup) (I : Inv X pins σ H s) (walks : L2H.PIH X tg iter wi) (blk : BlkOk X.N X.env.scope scope own)
    (goal : ∀ (s : Shared) (H : Hp) (C : Addr) (cl : List (Str × Addr)) (fp : List Addr), PG (blkP X p s H scope (compEnvC scope cl C X.env) fp) tg g) (tests : ∀ (s : Shared) (H : Hp) (C : Addr) (cl : List (Str × Addr)) (fp : List Addr), PTs (blkP X p s H scope (compEnvC scope cl C X.env) fp) ifs tt)
    (gives : ∀ (s : Shared) (H : Hp) (C : Addr) (cl : List (Str × Addr)) (fp : List Addr), PE (blkP X p s H scope (compEnvC scope cl C X.env) fp) elt te) (folds : ∀ x, foldedSetIterable iter X.env x = pure x)
    (wish : tLc wi g tt te (own.map (·.2)) σ H Q) :
    wpAny (model X.prog X.w) X.A (comprehension (.ListComp elt [⟨tg, iter, ifs, 0⟩] scope pos) scope X.env pos' (newList []) false (eval iter X.env) none) (EP X pins σ Q) X.xe s := by
  have captured : ∀ y ∈ scope.names, y.2 = .free → ∃ c, X.env.cells.lookup y.1 = some c := by
    intro y hy e
    exact (blk.free y hy e).elim (fun k => I.ok.has _ (.inl k)) fun k => I.ok.has _ (.inr k)
  refine wpAny_comprehension_free (use := none) rfl folds (closure_ok captured) blk.kind (fun y hy e => by rw [blk.uniq y hy, e]) ?_
  refine thn (walks.run pins s σ H _ I wish) fun _ s1 z => thn z ?_
  rintro _ s2 ⟨it, fp, tn, J, H2, rfl, I2, T, st2, f2, q⟩
  refine wpAny_newObj_type (newEnv_comp ?_) (by show 0 ≤ sizeLine; decide)
  obtain ⟨D, hD⟩ : ∃ D, s2.heap.objs.size = D := ⟨_, rfl⟩
  rw [hD]
  have newD : H2 D = none := I2.hok.fresh (Nat.le_of_eq hD)
  obtain ⟨M, ⟨m0, w0⟩, turn⟩ := q D newD
  obtain ⟨s3, hs3⟩ : ∃ z : Shared, z = { s2 with heap := s2.heap.push { cls := .type "list", data := .seq ([] : List Value).toArray } } := ⟨_, rfl⟩
  have h3 : s3.heap = s2.heap.push { cls := .type "list", data := .seq ([] : List Value).toArray } := by rw [hs3]
  have keep3 : ∀ b o, s2.heap.get? b = some o → s3.heap.get? b = some o := fun b o e => by rw [h3]; exact Heap.get?_push_of_some _ e
  have I3 : Inv X pins σ (upd H2 D (.lst [])) s3 := by
    rw [hs3]
    refine I2.laid (t' := s2.toks) (fun b o e => Heap.get?_push_of_some _ e) (Nat.le_of_eq hD) ⟨Nat.zero_le _, [], 0, .nil, ?_⟩
    rw [← hD]; exact Heap.get?_push_size _ rfl
  have f3 : ∀ b ∈ fp, FpOk X pins (upd H2 D (.lst [])) b ∧ b < s3.heap.objs.size := by
    intro b hb
    obtain ⟨o, e, _⟩ := T.obj _ _ st2 b hb
    have lt := Heap.lt_size e
    have ne : b ≠ D := by rw [← hD]; exact Nat.ne_of_lt lt
    exact ⟨⟨by rw [upd_ne ne]; exact (f2 b hb).1, (f2 b hb).2⟩, by rw [h3, Heap.size_push]; exact Nat.lt_succ_of_lt lt⟩
  have st3 : tn 0 s3.heap := T.keep _ _ _ st2 fun b _ o e => keep3 b o e
  have I4 := block_start I3 blk nd f3
  obtain ⟨cl, hcl⟩ : ∃ cl, cellsFrom (s3.heap.objs.size + 1) scope.names (cloFrom X.env.cells scope.names []) = cl := ⟨_, rfl⟩
  rw [hcl] at I4
  have pg := goal s3 (upd H2 D (.lst [])) s3.heap.objs.size cl fp
  have pt := tests s3 (upd H2 D (.lst [])) s3.heap.objs.size cl fp
  have pe := gives s3 (upd H2 D (.lst [])) s3.heap.objs.size cl fp
  rw [← hs3]
  show codeAny _ _ (.compStart (.ListComp elt [⟨tg, iter, ifs, 0⟩] scope pos) 0 (.ref it) (.ref D) (compEnvC scope (cellsFrom (s3.heap.objs.size + 1) scope.names (cloFrom X.env.cells scope.names [])) s3.heap.objs.size X.env)) (compPost (model X.prog X.w) X.A X.xe none (EP X pins σ Q) (.ref D) s3.heap.objs.size) { s3 with heap := pushCells (s3.heap.push { cls := .type "dict", data := .dict #[] }) scope.names }
  rw [hcl]
  have nfp : ∀ b ∈ fp, (upd H2 D (.lst [])) b = none := fun b hb => (f3 b hb).1.1
  generalize hce : compEnvC scope cl s3.heap.objs.size X.env = ce at I4 pg pt pe ⊢
  have cL : ce.locals = s3.heap.objs.size := by rw [← hce]; rfl
  generalize hH3 : upd H2 D (.lst []) = H3 at I3 I4 pg pt pe w0 nfp f3
  have keep4 : ∀ b o, s3.heap.get? b = some o → (pushCells (s3.heap.push { cls := .type "dict", data := .dict #[] }) scope.names).get? b = some o := fun b o e => pushCells_keeps _ _ _ _ (Heap.get?_push_of_some _ e)
  obtain ⟨g1, g2, g3, g4, g5⟩ := I3.pin p (List.mem_append_left _ hp)
  have I4 := Inv.toP (p := p) I4 ⟨keep4 _ _ g1, g2, by rw [cL]; exact Nat.ne_of_lt (Heap.lt_size g1), fun z => (List.mem_cons.mp (I3.stkSub p.1 z)).elim g3 g4, g5⟩
  generalize hs4 : ({ s3 with heap := pushCells (s3.heap.push { cls := .type "dict", data := .dict #[] }) scope.names } : Shared) = s4 at I4 ⊢
  have st4 : tn 0 s4.heap := T.keep _ _ _ st3 fun b _ o e => by rw [← hs4]; exact keep4 b o e
  have hotB : L2H.HotC (blkP X p s3 H3 scope ce fp) := ⟨p, hot, List.mem_cons_self⟩
  have npf : ∀ b ∈ fp, p.1 ≠ b := fun b hb => (f3 b hb).1.2.2.2.2.2 p (List.mem_append_left _ hp)
  have stat : ∀ {σ' : L2.St} {H' : Hp} {s' : Shared}, Inv (blkP X p s3 H3 scope ce fp) [] σ' H' s' → (∀ b ∈ fp, H' b = none) → ∀ b ∈ fp, FpOk (blkP X p s3 H3 scope ce fp) [] H' b := by
    intro σ' H' s' I' hn b hb
    refine ⟨hn b hb, (I'.ok.exf b hb).1, I'.ok.exfs b hb, .inl hb, fun x c e => (I'.ok.exf b hb).2 x c e, fun q hq => ?_⟩
    have e : q = p := by simpa using (show q ∈ [p] ++ ([] : List (Addr × Obj)) from hq)
    rw [e]; exact npf b hb
  refine codeAny_compStart_list ?loop (T.self X.A 0 _ _ _ st4 ?loop)
  refine compLoop_any (fun n s' => ∃ i H', Inv (blkP X p s3 H3 scope ce fp) [] (wipe σ (own.map (·.2))) H' s' ∧ tn i s'.heap ∧ (∀ b ∈ fp, H' b = none) ∧ M i n H') ?_ m0 ⟨0, H3, I4, st4, nfp, w0⟩
  rintro n s5 ⟨i, H5, I5, st5, n5, w5⟩
  rcases turn i n H5 w5 with ⟨stop, qq⟩ | ⟨go, Nx, less, step⟩
  · refine thnF (T.done (blkP X p s3 H3 scope ce fp) rfl rfl rfl hotB i [] s5 _ H5 (fun _ _ => False) I5 (stat I5 n5) st5 stop) ?_
    rintro _ s6 ⟨rfl, I6⟩
    have I7 : Inv X pins σ H5 s6 := I3.call' (ch := fp) I6.os I6.base I6.hok I6.bare fun b hb => ⟨(f3 b hb).1.2.2.2.1, (f3 b hb).1.2.1, (f3 b hb).1.2.2.2.2.1, (f3 b hb).1.2.2.2.2.2⟩
    have nC : H5 s3.heap.objs.size = none := by rw [← cL]; exact I6.free
    obtain ⟨m, hn, _⟩ := I6.loc
    have hn : s6.heap.Ns s3.heap.objs.size m := by rw [← cL]; exact hn
    refine ⟨m, hn, fun h'' sb => ?_⟩
    obtain ⟨f0, f1, f2, f3, f4, f5⟩ := I3.fpOk (Nat.le_refl _) nC
    exact ⟨.ref D, H5, I7.turned (t' := s6.toks) (fun b o hb e => (sb.2 b hb).trans e) f0 f1 f3 f4 f5, rfl, qq⟩
  · refine thnF (T.item (blkP X p s3 H3 scope ce fp) rfl rfl rfl hotB i [] s5 _ H5 (fun _ _ => False) I5 (stat I5 n5) st5 go) ?_
    rintro _ s6 ⟨u, rfl, h6⟩
    refine thnF h6 ?_
    rintro _ s7 ⟨x, H7, I7, r7, y7, st7, n7⟩
    have I7' := I7.pinned (stat I7 n7) (T.obj _ _ st7)
    refine thnF (pg.run _ s7 _ H7 x u _ I7' r7 (step x H7 y7)) ?_
    rintro _ s8 ⟨σ8, H8, I8, hw8, q8⟩
    refine thnF (pt.run _ s8 σ8 H8 _ I8 q8) ?_
    rintro b s9 ⟨H9, I9, q9⟩
    have fin : ∀ {s' : Shared} {H' : Hp}, Inv (blkP X p s3 H3 scope ce fp) ([] ++ pinsAt fp s7.heap) σ8 H' s' → Nx H' → ∃ m, m < n ∧ ∃ i H', Inv (blkP X p s3 H3 scope ce fp) [] (wipe σ (own.map (·.2))) H' s' ∧ tn i s'.heap ∧ (∀ b ∈ fp, H' b = none) ∧ M i m H' := by
      intro s' H' I' nx
      obtain ⟨m', hm, w'⟩ := less H' nx
      have stays : ∀ b ∈ fp, ∀ o, s7.heap.get? b = some o → s'.heap.get? b = some o ∧ H' b = none := fun b hb o e =>
        let z := I'.pin (b, o) (List.mem_append_right _ (List.mem_append_right _ (mem_pinsAt hb e)))
        ⟨z.1, z.2.1⟩
      have ll : (wipe σ (own.map (·.2))).length = σ8.length := by rw [← hw8, wipe_length]
      refine ⟨m', hm, i + 1, H', (I'.unpinned (pins := [])).weak ll (fun j v e => ?_), T.keep _ _ _ st7 fun b hb o e => (stays b hb o e).1, fun b hb => ?_, w'⟩
      · rw [← hw8] at e; exact (wipe_some e).1
      · obtain ⟨o, e, _⟩ := T.obj _ _ st7 b hb
        exact (stays b hb o e).2
    cases b with
    | false =>
      simp only [Bool.false_eq_true, if_false] at q9 ⊢
      exact fin I9 q9
    | true =>
      simp only [if_true] at q9 ⊢
      refine thnF (pe.run _ s9 σ8 H9 _ I9 q9) ?_
      rintro z s10 ⟨yv, H10, I10, r10, acc, hD10, hz10, nx⟩
      exact app_ok (X := blkP X p s3 H3 scope ce fp) I10 hD10 hz10 r10 fun s11 I11 => fin I11 nx
theorem de_compP {elt tg iter : Expr} {ifs : List Expr} {scope : Scope} {own : List (Str × Nat)} {pos : Pos} {g : Tg} {gt : TG} {ci : CI} {wi : TI} {ct : CT} {tt : TT} {ce : CE} {te : TE} (hot : L2H.Hot1 X.A p) (hp : p ∈ X.pn) (hN : X.N.Nodup) (hi : DI X xp W tg iter ci wi) (hi2 : L2H.PIH X tg iter wi) (ok : BlkOk X.N X.env.scope scope own)
    (hg : ∀ (s : Shared) (H : Hp) (C : Addr) (cl : List (Str × Addr)) (fp : List Addr), DG (blkP X p s H scope (compEnvC scope cl C X.env) fp) tg g gt) (ht : ∀ (s : Shared) (H : Hp) (C : Addr) (cl : List (Str × Addr)) (fp : List Addr), DTs (blkP X p s H scope (compEnvC scope cl C X.env) fp) xp WF ifs ct tt)
    (he : ∀ (s : Shared) (H : Hp) (C : Addr) (cl : List (Str × Addr)) (fp : List Addr), DE (blkP X p s H scope (compEnvC scope cl C X.env) fp) xp WF elt ce te) (hgs : ∀ i ∈ g.slots, i ∈ own.map (·.2) := by decide) (hs : ∀ x, foldedSetIterable iter X.env x = pure x := by intro _; rfl) :
    DE X xp W (.ListComp elt [⟨tg, iter, ifs, 0⟩] scope pos) (cComp g ci ct ce (own.map (·.2))) (tLc wi gt tt te (own.map (·.2))) := by
  refine ⟨⟨fun pins s σ H Q I h => ?_⟩, fun e σ H F env Q w h => comp_post hi (hg X.s_0 X.H_0 0 [] []).2 hgs (ht X.s_0 X.H_0 0 [] []).2 (he X.s_0 X.H_0 0 [] []).2 w h⟩
  rw [eval_ListComp]
  exact lc_hot hot hp hN I hi2 ok (fun s H C cl fp => (hg s H C cl fp).1) (fun s H C cl fp => (ht s H C cl fp).1) (fun s H C cl fp => (he s H C cl fp).1) hs h
end
end DL

/-! DND: xs.count(y), xs.index(y); the program's exception classes; suites. -/
namespace DL
open PySem PySem.Spec PyProof.Rows L2

/-! ### count, index -/
section
variable {X : Cx}
def rCntF (K : PySem.W.Frag) : V → List V → Hp → VK → Prop := fun x xs H Q => ∃ (a : Addr) (ys : List V) (y : V), x = .ref a ∧ xs = [y] ∧ SqL K H a ys ∧ flatV y = true ∧ ys.all flatV = true ∧ Q (.int (ys.countP fun z => eqV z y : Nat)) H
theorem countP_eqU {y : V} : ∀ {ys : List V} {us : List Value}, Vals ys us → ys.all flatV = true → us.countP (eqU y) = ys.countP fun z => eqV z y
  | _, _, .nil, _ => rfl
  | _, _, .cons r t, f => by
    rw [List.all_cons, Bool.and_eq_true] at f
    rw [List.countP_cons, List.countP_cons, countP_eqU t f.2, eqU_of r f.1]
theorem mt_cntF : MtR X "list.count" (rCntF X.K) := by
  rintro pins s σ H x xs v us Q I rx rxs ⟨a, ys, y, rfl, rfl, hs, fy, fys, q⟩
  cases rx
  obtain ⟨u, rfl, ru⟩ := rxs.one
  obtain ⟨its, rv, ⟨⟨cls, dd, data, sl⟩, n, ho, hc, hdn, hd⟩, hlen⟩ := I.list hs
  simp only at hc hd
  subst hc hd
  refine call_meets PySem.F.slot_list_count ⟨_, ho, rfl⟩ PySem.F.entry_list_count (PySem.F.args_list_count_2 _ _)
    (SeqAt.list_countAt a its.toArray n dd sl u (eqU y)) ⟨ho, fun z hz => mem_eqAt ru fy rv fys z (by simpa using hz), ?_⟩
  refine ⟨.int (ys.countP fun z => eqV z y : Nat), H, I.tok _, ⟨s.toks, ?_⟩, q⟩
  have e : its.toArray.toList.countP (eqU y) = ys.countP fun z => eqV z y := countP_eqU rv fys
  rw [e]
end
/-- == of flat data -/
def eqF : PyData → PyData → Bool
  | .none, .none => true
  | .bool a, .bool b => a == b
  | .bool a, .int b => (if a then 1 else 0) == b
  | .int a, .bool b => a == (if b then 1 else 0)
  | .int a, .int b => a == b
  | .str a, .str b => a == b
  | _, _ => false
def isFlat : PyData → Bool
  | .none => true
  | .bool _ => true
  | .int _ => true
  | .str _ => true
  | _ => false
def oCount : OpV
  | .list ds, [d] => if isFlat d && ds.all isFlat then frzI (ds.countP fun z => eqF z d : Nat) else .no
  | _, _ => .no
def oIndex : OpV
  | .list ds, [d] => if isFlat d && ds.all isFlat then match ds.findIdx? fun z => eqF z d with
    | some j => frzI (j : Nat)
    | none => .no
    else .no
  | _, _ => .no
section
variable {K : PySem.W.Frag} {H F : Hp} {Q : VK}
theorem flat_rd {v : V} {d : PyData} (h : isFlat d = true) (r : RD K F v d) : flatV v = true := by
  cases r <;> first | rfl | cases h
theorem flat_eq {v u : V} {d e : PyData} (h : isFlat d = true) (h' : isFlat e = true) (r : RD K F v d) (r' : RD K F u e) : eqV v u = eqF d e := by
  cases r <;> first | (cases h; done) | (cases r' <;> first | rfl | (cases h'; done))
theorem flats_rd : ∀ {vs : List V} {ds : List PyData}, ds.all isFlat = true → RDs K F vs ds → vs.all flatV = true
  | _, _, _, .nil => rfl
  | _, _, h, .cons a b => by
    rw [List.all_cons, Bool.and_eq_true] at h ⊢
    exact ⟨flat_rd h.1 a, flats_rd h.2 b⟩
theorem flats_cnt {u : V} {e : PyData} (h' : isFlat e = true) (r' : RD K F u e) : ∀ {vs : List V} {ds : List PyData}, ds.all isFlat = true → RDs K F vs ds → vs.countP (fun z => eqV z u) = ds.countP fun z => eqF z e
  | _, _, _, .nil => rfl
  | _, _, h, .cons a b => by
    rw [List.all_cons, Bool.and_eq_true] at h
    rw [List.countP_cons, List.countP_cons, flats_cnt h' r' h.2 b, flat_eq h.1 h' a r']
theorem ok_count : OpVOk K (rCntF K) oCount := by
  intro x d xs ds H F Q s rx rxs h
  unfold oCount at h
  split at h
  · rename_i ds d
    split at h
    · rename_i hf
      rw [Bool.and_eq_true] at hf
      obtain ⟨a, vs, rfl, q, rs⟩ := rx.lst s
      obtain ⟨u, rfl, ru⟩ := RBs.one rxs
      have ru' : RD K F u d := by
        cases ru with
        | fz r => exact r
        | own _ _ k => cases k <;> cases hf.1
      refine ⟨a, vs, u, rfl, rfl, .inl q, flat_rd hf.1 ru', flats_rd hf.2 rs, ?_⟩
      rw [flats_cnt hf.1 ru' hf.2 rs]
      exact h.int s
    · exact h.elim
  · exact h.elim
theorem ok_index : OpVOk K (rIndex K) oIndex := by
  intro x d xs ds H F Q s rx rxs h
  unfold oIndex at h
  split at h
  · rename_i ds d
    split at h
    · rename_i hf
      rw [Bool.and_eq_true] at hf
      obtain ⟨a, vs, rfl, q, rs⟩ := rx.lst s
      obtain ⟨u, rfl, ru⟩ := RBs.one rxs
      have ru' : RD K F u d := by
        cases ru with
        | fz r => exact r
        | own _ _ k => cases k <;> cases hf.1
      split at h
      · rename_i j hj
        obtain ⟨hl, hh, hn⟩ := List.findIdx?_eq_some_iff_getElem.mp hj
        obtain ⟨v, hv, rv⟩ := rs.get' (List.getElem?_eq_getElem hl)
        have fz : ∀ m (hm : m < ds.length), isFlat ds[m] = true := fun m hm => List.all_eq_true.mp hf.2 _ (List.getElem_mem hm)
        refine ⟨a, vs, u, j, v, rfl, rfl, .inl q, flat_rd hf.1 ru', flats_rd hf.2 rs, hv, ?_, fun m z hm hz => ?_, h.int s⟩
        · rw [flat_eq (fz j hl) hf.1 rv ru']; exact hh
        · have hml : m < ds.length := by omega
          obtain ⟨v2, hv2, rv2⟩ := rs.get' (List.getElem?_eq_getElem hml)
          rw [hz] at hv2; cases hv2
          rw [flat_eq (fz m hml) hf.1 rv2 ru']
          exact Bool.eq_false_iff.mpr (hn m hm)
      · exact h.elim
    · exact h.elim
  · exact h.elim
end

/-! ### the classes -/
def mroD (C S : Addr) : List Value := [.ref C, .ref S, .type "ValueError", .type "Exception", .type "BaseException", .type "object"]
/-- a class that is asked for -/
structure AskC (K : PySem.W.Frag) (mg : Str → Option Value) (x : Str) (C : Addr) : Prop where
  g : mg x = some (.ref C)
  t : PySem.W.typeIn K (.ref C) = some (.type "type")
  c : (PySem.W.clsIn K C).isSome = true
/-- one that is raised -/
structure RzC (K : PySem.W.Frag) (mg : Str → Option Value) (S : Addr) (x : Str) (C : Addr) : Prop where
  a : AskC K mg x C
  q : PySem.W.excIn K C [.type "ValueError", .type "Exception", .type "BaseException", .type "object"] "ValueError.__new__" = true
  k : PySem.W.keepIn K (.ref C) = true
  m : ∃ cd, PySem.W.clsIn K C = some cd ∧ cd.mro = mroD C S
  hg : PySem.W.findIn K (.ref C) "__getattribute__" = some (some (.builtin "BaseException.__getattribute__"))
  hk : PySem.W.findIn K (.ref C) "__getattr__" = some none
  hd : PySem.W.hasDictIn K C = true
  ha : PySem.W.findIn K (.ref C) "__class__" = some (some (.builtin "object.__class__"))
structure Classes (K : PySem.W.Frag) (mg : Str → Option Value) (S : Addr) (ask rz : List (Str × Addr)) : Prop where
  s : AskC K mg "StoneError" S
  sb : PySem.W.subIn K (.ref S) (.type "BaseException") = some true
  hn : PySem.W.specialIn K (.builtin "object.__class__") "__get__" = some (some (.builtin "getset_descriptor.__get__"))
  ht : PySem.W.takesIn K (.builtin "object.__class__") = some true
  nd : (S :: ask.map (·.2)).Nodup
  one : ∀ x C, ask.lookup x = some C → AskC K mg x C
  sub : ∀ x C, rz.lookup x = some C → ask.lookup x = some C
  up : ∀ x C, rz.lookup x = some C → RzC K mg S x C
section
variable {K : PySem.W.Frag} {mg : Str → Option Value} {S : Addr} {ask rz : List (Str × Addr)}
theorem lookup_mem {α : Type} {l : List (Str × α)} {x : Str} {C : α} (h : l.lookup x = some C) : (x, C) ∈ l := PySem.mem_of_lookup h
theorem RzC.sub {x : Str} {C : Addr} (r : RzC K mg S x C) (b : Value) : PySem.W.subIn K (.ref C) b = some ((mroD C S).contains b) := by
  obtain ⟨cd, h1, h2⟩ := r.m
  show PySem.W.mroIn K C b = _
  unfold PySem.W.mroIn
  rw [h1, Option.bind_some, h2]; rfl
theorem RzC.toRz {x : Str} {C : Addr} (r : RzC K mg S x C) : Rz K mg x C := ⟨r.a.g, r.q, r.k, by rw [r.sub]; simp [mroD], r.a.t⟩
theorem Classes.exc (T : Classes K mg S ask rz) {x : Str} {C : Addr} (h : rz.lookup x = some C) : ExcC K C := by
  have r := T.up x C h
  refine ⟨r.hg, r.hk, by rw [r.sub]; simp [mroD], r.hd, r.ha, T.hn, T.ht, ?_⟩
  have z : PySem.W.subIn K (.ref C) (.type "object") = some true := by rw [r.sub]; simp [mroD]
  exact z
theorem kitCls_ref {D C : Addr} {b : Bool} (t : PySem.W.typeIn K (.ref C) = some (.type "type")) (c : (PySem.W.clsIn K C).isSome = true) (h : PySem.W.subIn K (.ref D) (.ref C) = some b) : PySem.W.kitCls K (.ref D) (.ref C) = some b := by
  unfold PySem.W.kitCls
  dsimp only
  rw [if_pos (by rw [c, t]; rfl)]; exact h
theorem nodup_snd : ∀ {l : List (Str × Addr)} {x y : Str} {C : Addr}, (l.map (·.2)).Nodup → (x, C) ∈ l → (y, C) ∈ l → x = y
  | [], _, _, _, _, h, _ => by cases h
  | (a, b) :: l, x, y, C, nd, h1, h2 => by
    rw [List.map_cons, List.nodup_cons] at nd
    rcases List.mem_cons.mp h1 with e1 | h1 <;> rcases List.mem_cons.mp h2 with e2 | h2
    · cases e1; cases e2; rfl
    · cases e1; exact (nd.1 (List.mem_map.mpr ⟨_, h2, rfl⟩)).elim
    · cases e2; exact (nd.1 (List.mem_map.mpr ⟨_, h1, rfl⟩)).elim
    · exact nodup_snd nd.2 h1 h2
theorem Classes.is (T : Classes K mg S ask rz) {x y : Str} {D C : Addr} (h : rz.lookup x = some D) (h' : ask.lookup y = some C) : PySem.W.kitOne K (.ref D) (.ref C) = some (x == y) := by
  have a := T.one y C h'
  have hx := lookup_mem (T.sub x D h)
  have hy := lookup_mem h'
  have nd := T.nd
  rw [List.nodup_cons] at nd
  unfold PySem.W.kitOne
  by_cases e : D = C
  · subst e
    rw [if_pos (by simp), nodup_snd nd.2 hx hy]; simp
  · have ne : x ≠ y := fun z => by
      subst z
      rw [T.sub x D h] at h'; cases h'; exact e rfl
    rw [if_neg (by simp [e]), kitCls_ref a.t a.c ((T.up x D h).sub _)]
    have nS : C ≠ S := fun z => nd.1 (by rw [← z]; exact List.mem_map.mpr ⟨_, hy, rfl⟩)
    have e1 : (x == y) = false := by simpa using ne
    rw [e1]
    have n1 : (Value.ref C == Value.ref D) = false := by simp [Ne.symm e]
    have n2 : (Value.ref C == Value.ref S) = false := by simp [nS]
    unfold mroD
    simp only [List.contains_cons, n1, n2, Bool.false_or]
    rfl
theorem Classes.isS (T : Classes K mg S ask rz) {x : Str} {D : Addr} (h : rz.lookup x = some D) : PySem.W.kitOne K (.ref D) (.ref S) = some true := by
  unfold PySem.W.kitOne
  split
  · rfl
  · rw [kitCls_ref T.s.t T.s.c ((T.up x D h).sub _)]; simp [mroD]
theorem Classes.isV (T : Classes K mg S ask rz) {x : Str} {D : Addr} (h : rz.lookup x = some D) : PySem.W.kitOne K (.ref D) (.type "ValueError") = some true := by
  have km : PySem.W.kitMeta "ValueError" = true := by decide +kernel
  unfold PySem.W.kitOne
  rw [if_neg (by simp)]
  unfold PySem.W.kitCls
  dsimp only
  rw [if_pos km, (T.up x D h).sub]; simp [mroD]
theorem Classes.met (T : Classes K mg S ask rz) {x : Str} {D : Addr} (h : rz.lookup x = some D) : PySem.W.exmOne K (.ref D) (.ref S) = some true := by
  unfold PySem.W.exmOne
  rw [if_pos (by rw [T.sb]; rfl)]
  rw [kitCls_ref T.s.t T.s.c ((T.up x D h).sub _)]; simp [mroD]
theorem Classes.mets (T : Classes K mg S ask rz) {ex : Exc} {cls : Value} {d : Option Addr} {H' : Hp} (h : xpC rz ex cls d H') : PySem.W.exmOne K cls (.ref S) = some true := by
  obtain ⟨C, hl, rfl, _⟩ := h
  exact T.met hl
end

theorem look_cons {l : List (Str × Addr)} {x y : Str} {C D : Addr} {P : Prop} (h : ((y, D) :: l).lookup x = some C) (h1 : some (y, D) = some (x, C) → P) (h2 : l.lookup x = some C → P) : P := by
  rw [List.lookup_cons] at h
  by_cases e : x = y
  · subst e
    simp at h
    exact h1 (by rw [h])
  · have e1 : (x == y) = false := by simpa using e
    rw [e1] at h
    exact h2 h
/-! ### suites -/
def hmMarks : Exc → Option Cell := fun x => (([("NoNet", "net"), ("NoSpot", "spot"), ("NoRules", "rules"), ("NoStones", "stones"), ("NoLay", "lay"), ("NoStep", "step"), ("NoPlay", "play"), ("NoTree", "tree")] : List (Str × Str)).lookup x.cls).map fun s => .frz (.str s)
def hmOnly (n : Str) : Exc → Option Cell := fun x => some (.frz (.bool (x.cls == n)))
def hmPlaces : Exc → Option Cell := fun x => (([("NoNet", 0), ("NoSpot", 1), ("NoRules", 2), ("NoStones", 3), ("NoLay", 4), ("NoStep", 5), ("NoPlay", 6), ("NoTree", 7), ("NoWay", 9), ("NoOrder", 10), ("NoGoals", 11), ("NoRow", 12)] : List (Str × Int)).lookup x.cls).map fun k => .own false (.list [.int k])
theorem huH {k : Nat} {A : Around} (hr : L2H.RoomH k A) : A.units + 64 < cLine := by have := hr.un; omega
theorem room_suite {k j : Nat} {A : Around} {v : Option Value} (hr : Room j A) (h : k ≤ j) : L2H.RoomH k (A.mark v) := ⟨(hr.mono h).dp, (hr.mono h).un⟩
theorem hot_of {A : Around} {a : Addr} {oe : Obj} {cls : Value} {d : Option Addr} (hz : L2N.Zn cls d oe) (hf : ∃ vs, oe.data = .fields vs) : L2H.Hot1 (A.mark (some (.ref a))) (a, oe) := by
  obtain ⟨vs, hv⟩ := hf
  exact ⟨rfl, vs, hv, hz.2.2 vs hv⟩
section
variable {X : Cx} {xp : XP}
theorem de_callPK {K : PySem.W.Frag} {p : Addr × Obj} {k n : Nat} {m : Fn} {f : Addr} {fd : FuncData} {ps : List Str} {x : Str} {q pos : Pos} {ex : Expr} {es : List Expr} {os : List Opd} {t : TA} (tk : L2N.Takes X WF)
    (F : FnP X.prog X.w X.K X.mg X.base k f fd ps p (spB K xp n m)) (hr : L2H.RoomH k X.A) (hot : L2H.Hot1 X.A p) (hp : p ∈ X.pn) (hg : Gl X x) (hm : X.mg x = some (.ref f)) (hk : PySem.W.keepIn X.K (.ref f) = true) (hb : Binds X.K fd ps [])
    (ha : DA X xp WF (ex :: es) os t) (eK : X.K = K := by rfl) (hn : os.length = n := by rfl) (hdb : (x == ("__debug__" : Str)) = false := by decide) (he : starEach (ex :: es) X.env = (false, eval ex X.env) :: starEach es X.env := by rfl) (hpl : (backTo pos (starEach es X.env)).any (·.1) = false := by rfl) :
    DE X xp WF (.Call (.Name x q) (ex :: es) [] pos) (cCall m os) (tCallS (spB K xp n m) (WE WF) t) := by
  subst eK
  exact de_callP tk F hr hot hp hg hm hk hb ha hn hdb he hpl
def suiteEnv (n i : Nat) (a : Addr) : Cs := (List.replicate n Cell.emp).set i (.frz (adrD a))
theorem suiteEnv_get {n i j : Nat} {a : Addr} {c : Cell} (h : (suiteEnv n i a)[j]? = some c) : c = .emp ∨ (j = i ∧ c = .frz (adrD a)) := by
  unfold suiteEnv at h
  by_cases z : i = j
  · subst z
    by_cases hl : i < (List.replicate n Cell.emp).length
    · rw [List.getElem?_set_self hl] at h; cases h; exact .inr ⟨rfl, rfl⟩
    · rw [List.getElem?_eq_none (by simpa using hl)] at h; cases h
  · rw [List.getElem?_set_ne z] at h
    exact .inl (List.mem_replicate.mp (List.mem_of_getElem? h)).2
theorem suite_wl {K : PySem.W.Frag} {σ : L2.St} {H F : Hp} {n i : Nat} {a : Addr} (hl : σ.length = n) (s : Sub F H) (h : σ[i]? = some (some (.ref a))) :
    Wl K ⟨H, F, fun _ => False, fun _ => none, fun _ => none⟩ σ H F (suiteEnv n i a) where
  len := by unfold suiteEnv; simp [hl]
  sub := s
  cell := fun j c x hc hx => by
    rcases suiteEnv_get hc with rfl | ⟨rfl, rfl⟩
    · trivial
    · rw [h] at hx; cases hx; exact ⟨_, rfl, .adr a⟩
  apart := fun j k c c' b _ hc _ m _ _ _ => by rcases suiteEnv_get hc with rfl | ⟨_, rfl⟩ <;> cases m
  keep := fun _ _ h _ => h
  new := fun _ h => .inl h
  mine := fun j b d b' hc _ => by rcases suiteEnv_get hc with z | ⟨_, z⟩ <;> cases z
  pin := fun j c hc h => by rcases suiteEnv_get hc with rfl | ⟨_, rfl⟩ <;> rcases h with ⟨d, z⟩ | ⟨d, z⟩ <;> cases z
  lk := fun _ _ h => nomatch h
  lk2 := fun j d hc => by rcases suiteEnv_get hc with z | ⟨_, z⟩ <;> cases z
theorem suite_of {rz : List (Str × Addr)} {st : List Stmt} {hm : Exc → Option Cell} {i : Nat} {a : Addr} {cls : Value} {d : Option Addr} (ch : Str → CS)
    (hd : ∀ x C, rz.lookup x = some C → cls = .ref C → d = none → DSs X (xpC rz) WF st (ch x))
    (hr : ∀ x c, hm x = some c → (rz.map (·.1)).contains x.cls = true → ∃ env', ch x.cls (suiteEnv X.N.length i a) = .rt c env') : PSs X st (tSuite X.K (xpC rz) hm i a cls d) := by
  refine ⟨fun pins s σ H D I ⟨x, c, F, hx, ⟨C, hl, e1, e2⟩, sf, hs, q⟩ => ?_⟩
  obtain ⟨t, p, z⟩ := hd x.cls C hl e1 e2
  refine p.run pins s σ H D I (z _ σ H F _ D (suite_wl I.len sf hs) ?_)
  obtain ⟨env', er⟩ := hr x c hx (List.contains_iff_mem.mpr (List.mem_map.mpr ⟨_, lookup_mem hl, rfl⟩))
  rw [er]
  intro v σ' H' F' w s' rc
  refine q v H' F' ⟨fun b o h => w.keep b o h (fun y => y), s', w.sub, fun b h => ?_⟩ ?_
  · rcases w.new b h with y | y | y
    · exact .inl y
    · exact .inr y
    · exact y.elim
  · cases c with
    | frz d => exact rc
    | own b d =>
      obtain ⟨p2, u, e1, h1, n1, k1, m, _⟩ := rc
      rcases m with m | m
      · exact ⟨p2, u, e1, m, h1, n1, k1⟩
      · exact m.elim
    | emp => exact rc.elim
    | lck d => exact rc.elim
    | exc x => exact rc.elim
end
end DL

/-! DNE: a comprehension within a comprehension. -/
namespace DL
open PySem PySem.Spec PyProof.Rows L2
theorem blkOk_in {X : Cx} {N : List Str} {sc sc1 scope : Scope} {own : List (Str × Nat)} {s : Shared} {H : Hp} {C : Addr} {cl : List (Str × Addr)} {fp : List Addr} (eN : X.N = N) (eS : X.env.scope = sc) (h : blkC N (relS sc1 sc) scope own = true) :
    BlkOk (X.blk s H sc1 (compEnvC sc1 cl C X.env) fp).N (X.blk s H sc1 (compEnvC sc1 cl C X.env) fp).env.scope scope own := by
  subst eN eS
  exact blkOk_by h
section
variable {X : Cx} {xp : XP} {W : WX} {K : PySem.W.Frag}
theorem di_seqN {tg iter : Expr} {c : CE} {t : TE} (h : DE X xp W iter c t) (eK : X.K = K := by rfl) : DI X xp W tg iter (iSeq c) (fun σ H R => iList K t σ H (fun J H1 => Fact K H1 → R J H1) ∨ iTup K t σ H (fun J H1 => Fact K H1 → R J H1)) := by
  subst eK; exact di_seq h
theorem de_compON {elt tg iter : Expr} {ifs : List Expr} {scope : Scope} {own : List (Str × Nat)} {pos : Pos} {i : Nat} {g : Tg} {gt : TG} {ct : CT} {tt : TT} {ce : CE} {te : TE} (hc : X.calm = true) (hN : X.N.Nodup) (hi : PE X iter (tVar i)) (ok : BlkOk X.N X.env.scope scope own)
    (hg : ∀ (s : Shared) (H : Hp) (C : Addr) (cl : List (Str × Addr)) (fp : List Addr), DG (X.blk s H scope (compEnvC scope cl C X.env) fp) tg g gt) (ht : ∀ (s : Shared) (H : Hp) (C : Addr) (cl : List (Str × Addr)) (fp : List Addr), DTs (X.blk s H scope (compEnvC scope cl C X.env) fp) xp WF ifs ct tt)
    (he : ∀ (s : Shared) (H : Hp) (C : Addr) (cl : List (Str × Addr)) (fp : List Addr), DE (X.blk s H scope (compEnvC scope cl C X.env) fp) xp WF elt ce te) (eK : X.K = K := by rfl) (hgs : ∀ i ∈ g.slots, i ∈ own.map (·.2) := by decide) (hs : ∀ x, foldedSetIterable iter X.env x = pure x := by intro _; rfl) :
    DE X xp W (.ListComp elt [⟨tg, iter, ifs, 0⟩] scope pos) (cCompO i g ct ce (own.map (·.2))) (tLc (fun σ H R => iList K (tVar i) σ H (fun J H1 => Fact K H1 → R J H1) ∨ iTup K (tVar i) σ H (fun J H1 => Fact K H1 → R J H1)) gt tt te (own.map (·.2))) := by
  subst eK; exact de_compO hc hN hi ok hg ht he hgs hs
end
end DL

/-! DNF: a tuple, so many times. -/
namespace DL
open PySem PySem.Spec PyProof.Rows L2
def oMulT : Op2
  | .tuple (d :: ds), .int k => if 2 ≤ k ∧ k ≤ 1000 ∧ ds.length < 1000 then .val (.frz (.tuple (List.replicate k.toNat (d :: ds)).flatten)) else .no
  | _, _ => .no
theorem RDs.rep {K : PySem.W.Frag} {F : Hp} {vs : List V} {ds : List PyData} (r : RDs K F vs ds) : ∀ n : Nat, RDs K F (List.replicate n vs).flatten (List.replicate n ds).flatten
  | 0 => .nil
  | n + 1 => by rw [List.replicate_succ, List.replicate_succ, List.flatten_cons, List.flatten_cons]; exact r.append (RDs.rep r n)
theorem ok_mulT {K : PySem.W.Frag} : Op2Ok K (rRepT K) oMulT := by
  intro x y dx dy H F Q s rx ry h
  unfold oMulT at h
  split at h
  · rename_i d ds k
    split at h
    · rename_i hk
      obtain ⟨a, vs, rfl, q, rs⟩ := rx.tup s
      have hl := rs.length
      refine ⟨a, k, vs, rfl, ry.int, q, fun z => by rw [z] at hl; simp at hl, hk.1, hk.2.1, by rw [hl, List.length_cons]; omega, ?_⟩
      exact h.newT s (rs.rep _)
    · exact h.elim
  · exact h.elim
end DL

/-! DNG: try .. except StoneError as e where the suite's comprehension reads e, so that e is a cell's name. -/
namespace DL
open PySem PySem.Spec PyProof.Rows L2
section
variable {X : Cx} {pins : List (Addr × Obj)} {σ : L2.St} {H : Hp} {s : Shared}
/-- only a cell of the block has changed -/
theorem cell_changed {c : Addr} {n : Str} {i : Nat} {h' : Heap} {t : Nat} {w₀ : Option Value} (I : Inv X pins σ H s) (hN : X.N.Nodup) (hi : X.N[i]? = some n) (hfn : X.fn n = true) (hc : X.env.cells.lookup n = some c)
    (hw : h'.IsCell c w₀) (hs : Heap.SameBut c s.heap h') : Inv X pins (σ.set i none) H { s with heap := h', toks := t } := by
  obtain ⟨m, hn, hl⟩ := id I.loc
  obtain ⟨v₀, oc, hoc, hod⟩ := I.cell n c hc
  have low : ∀ b o, X.s_0.heap.get? b = some o → b ≠ c := fun b o e => Nat.ne_of_lt (Nat.lt_of_lt_of_le (Heap.lt_size e) (I.ok.cab n c hfn hc))
  refine ⟨I.ok, I.os, I.bare, ⟨?_, ?_, I.base.free, ?_, I.base.tups, I.base.frzs, I.base.tbls⟩, ⟨m, hn.sameBut hs (Ne.symm (I.cne n c hc)), ?_⟩, ?_, I.free, I.freeC, ?_, ?_, by simpa using I.len⟩
  · exact fun b o e n hb hx => (hs.2 b (low b o e)).trans (I.base.keep b o e n hb hx)
  · intro b o e n hb hx
    obtain ⟨sl, e1⟩ := I.base.slot b o e n hb hx
    exact ⟨sl, (hs.2 b (low b o e)).trans e1⟩
  · intro b o e hx
    obtain ⟨o', e1⟩ := I.base.there b o e hx
    exact ⟨o', (hs.2 b (low b o e)).trans e1⟩
  · intro j y v' e1 e2 e3
    have hj : j ≠ i := fun z => by
      subst z
      by_cases hlt : j < σ.length
      · rw [List.getElem?_set_self hlt] at e2; cases e2
      · rw [List.getElem?_eq_none (by simpa using hlt)] at e2; cases e2
    rw [List.getElem?_set_ne (Ne.symm hj)] at e2
    obtain ⟨u, r, q⟩ := hl j y v' e1 e2 e3
    refine ⟨u, r, ?_⟩
    rcases q with q | ⟨k, c', e, z⟩
    · exact .inl q
    · refine .inr ⟨k, c', e, z.sameBut hs fun z2 => ?_⟩
      subst z2
      exact hj (nodup_ix hN e1 (I.ok.inj _ _ _ e hc ▸ hi))
  · intro y c' e
    by_cases z : c' = c
    · subst z; exact ⟨_, hw⟩
    · obtain ⟨w2, z2⟩ := I.cell y c' e
      exact ⟨w2, z2.sameBut hs z⟩
  · intro p hp
    obtain ⟨e, n, ne, nf, d⟩ := I.pin p hp
    refine ⟨(hs.2 p.1 fun q => ?_).trans e, n, ne, nf, d⟩
    rw [q, hoc] at e
    exact d v₀ (by rw [← Option.some.inj e]; exact hod)
  · intro b ob e
    refine (I.hok b ob e).stay (fun c' w' hc' q => (hs.2 c' fun z => ?_).trans q) (fun _ q => q) fun _ _ q => q
    subst z
    rcases hc' with z | z
    · rw [← z, I.freeC n c' hc] at e; cases e
    · rw [I.freeC n c' hc] at z; cases z
/-- the name of an except clause goes: a cell's -/
theorem gone_cell {M : Model} {A : Around} {E : Value → Shared → Prop} {i : Nat} {n : Str} {pos : Pos} {Q : Unit → Shared → Prop} (I : Inv X pins σ H s) (hN : X.N.Nodup) (hi : X.N[i]? = some n) (hl : X.env.kindOf n = some .cell) (hfn : X.fn n = true)
    (h : ∀ s', Inv X pins (σ.set i none) H s' → Q () s') : wpAny M A (do bindName X.env n .none; unbindBehindTheSuite X.env n pos) Q E s := by
  obtain ⟨c, hc⟩ := I.ok.has n (.inl hl)
  obtain ⟨v₀, hv⟩ := I.cell n c hc
  refine wpAny_bind (wpAny_bindName (wpAny_storeName_cell I.ok.kind hl hc hv fun h₁ hc₁ hs₁ => ?_))
  unfold unbindBehindTheSuite
  refine wpAny_onRaise ?_
  unfold unbindName
  refine wpAny_bind (wpAny_point (wpAny_bind ?_))
  unfold deleteName
  simp only [hl]
  refine wpAny_bind (wpAny_cellOf hc (wpAny_bind (wpAny_cellGet hc₁ ?_)))
  rw [if_pos (show (some Value.none).isSome = true from rfl)]
  refine wpAny_cellSet hc₁ fun h₂ hc₂ hs₂ => wpAny_point (h _ ?_)
  exact cell_changed (s := s) I hN hi hfn hc hc₂ (hs₁.trans hs₂)
end
section
variable {X : Cx} {W : WX} {xp : XP}
/-- ps_try_as of the kit, where the name is a cell's and the suite only returns -/
theorem ps_tryC {x n : Str} {c : Value} {i : Nat} {body suite : List Stmt} {b₀ : Stmt} {np pos pos' : Pos} {tb : WX → TS} {ts : Addr → Value → Option Addr → TS} {Wout : WX}
    (hs : X.stack = X.env :: X.outer) (hf : X.env.frame = some X.env.locals) (hN : X.N.Nodup) (hi : X.N[i]? = some n) (hln : X.env.kindOf n = some .cell) (hfn : X.fn n = true) (hc : Names X x c) (tk : L2N.Takes X Wout)
    (hb : ∀ (W : WX) (pn : List (Addr × Obj)) (xe : Value → Shared → Prop), L2N.Takes (X.tr pn xe) W → PassesOwn (model X.prog X.w) X.A X.env xe → PSs (X.tr pn xe) body (tb W))
    (hsu : ∀ (a : Addr) (oe : Obj) (cls : Value) (d : Option Addr) (pn : List (Addr × Obj)), L2N.Zn cls d oe → (∃ vs, oe.data = .fields vs) → PSs (X.suite a ((a, oe) :: pn)) (b₀ :: suite) (ts a cls d)) :
    PS X (.Try body [.ExceptHandler (some (.Name x np)) (some n) (b₀ :: suite) pos'] [] [] pos) (fun D σ H => tb (wAs X.K c i ts Wout D) D σ H) := by
  refine ⟨fun pins s σ H D I h => ?_⟩
  have ok := I.ok
  have hfr : X.A.frames = some (X.env :: X.outer) := by rw [ok.frames, hs]
  refine wpAny_Try_except ?_
  refine wpAny_mono ((hb (wAs X.K c i ts Wout D) (X.pn ++ pins) (fun e s₁ => wpAny (model X.prog X.w) X.A (noteFrame e X.env) (fun _ s₂ => wpAny (model X.prog X.w) X.A (setFlight e none) (fun _ s₃ =>
    wpAny (model X.prog X.w) X.A (handleBy e X.env [.ExceptHandler (some (.Name x np)) (some n) (b₀ :: suite) pos']) (SP X pins D) X.xe s₃) X.xe s₂) X.xe s₁) (fun u s' fly => ?_) PassesOwn.looking).run [] s σ H D (I.toTry _) h) (fun f s1 hsp => ?_) (fun u s' z => z)
  · obtain ⟨a, B, sI, pins', σ', H', cls, d, rfl, J', nb, up, sky, na, os, ag, b, hb1, hyes, hno⟩ := fly
    have J : Inv X pins σ' H' sI := J'.ofTry ok
    have land : ∀ {h3 : Heap}, HandSPX.FlyingZ B (X.env :: X.outer) a (L2N.Zn cls d) h3 → s'.heap.UpToSlots h3 → Inv X pins σ' H' { s' with heap := h3 } ∧
        ∃ oe vs, h3.get? a = some oe ∧ L2N.Zn cls d oe ∧ oe.data = .fields vs ∧ a ≠ X.env.locals ∧ a ∉ X.fs := fun {h3} fl u3 => by
      obtain ⟨oe, vs, he, hz, hd⟩ := fl.there
      have out : a ∉ frs (X.env :: X.outer) := fun hm => by
        obtain ⟨_, o', e', far⟩ := fl.2.2.1.mem hm
        rw [he] at e'; cases e'
        exact far _ hd
      refine ⟨J.landed nb fl.1 (up.trans u3) os ag, oe, vs, he, hz, hd, fun z => ?_, fun hm => ?_⟩
      · exact out (List.mem_filterMap.mpr ⟨X.env, List.mem_cons_self, by rw [hf, z]⟩)
      · obtain ⟨e, he', q⟩ := List.mem_filterMap.mp hm
        exact out (List.mem_filterMap.mpr ⟨e, List.mem_cons_of_mem _ he', q⟩)
    show wpAny (model X.prog X.w) X.A (noteFrame (.ref a) X.env) _ _ _
    refine L2N.Sky.land L2N.Zn.steady hfr hf (by rw [← hs]; exact sky) fun h3 fl3 up3 => ?_
    obtain ⟨J3, oe3, vs3, he3, hz3, hd3, nL, nF⟩ := land fl3 up3
    have S3 := J3.suite he3 hd3 na nL nF
    refine wpAny_handleBy_cons (codeAny_handlers_test ?_) (by intro q; cases q)
    have look := PySem.W.exm_one (M := model X.prog X.w) (J3.kIn) (fun A Q E s k q => wpAny_typeOf_ref (k _ _ he3) (by rw [hz3.1]; exact q) : PySem.W.Looks (model X.prog X.w) h3 (typeOf (.ref a)) cls) hb1
    have name : ∀ {Q : Value → Shared → Prop} {E : Value → Shared → Prop}, Q c { s' with heap := h3 } → wpAny (model X.prog X.w) (X.A.mark (some (.ref a))) (eval (.Name x np) X.env) Q E { s' with heap := h3 } := fun {Q E} q => by
      obtain ⟨g, dbg, m | ⟨m, v, nn⟩⟩ := hc
      · exact ld_glob (X := X.suite a ((a, oe3) :: (X.pn ++ pins))) S3 g m q dbg
      · exact ld_blt (X := X.suite a ((a, oe3) :: (X.pn ++ pins))) S3 g m v q nn dbg
    refine name (look.here ?_)
    cases b with
    | true =>
      refine codeAny_handlers_suite_as ?_
      refine HandSPX.lands_againZ fl3 fun h4 fl4 up4 => ?_
      obtain ⟨J4, oe4, vs4, he4, hz4, hd4, _, _⟩ := land fl4 (up3.trans up4)
      refine store_ok (X := X.suite a ((a, oe4) :: (X.pn ++ pins))) (v := .ref a) (J4.suite he4 hd4 na nL nF) hN hi (.inr hln) rfl (fun s5 S5 => ?_) (.inl hfn)
      refine wpAny_mono ((hsu a oe4 cls d (X.pn ++ pins) hz4 ⟨_, hd4⟩).run [] s5 _ H' _ S5 (hyes rfl a na)) (fun f s6 hsp => ?_) (fun _ _ z => False.elim z)
      cases f with
      | ret u =>
        obtain ⟨v6, σ6, H6, S6, r6, q6⟩ := hsp
        exact gone_cell (S6.unsuite ok) hN hi hln hfn fun s7 J7 => ⟨_, _, _, J7, r6, q6⟩
      | next =>
        obtain ⟨σ6, H6, S6, q6⟩ := hsp
        exact gone_cell (S6.unsuite ok) hN hi hln hfn fun s7 J7 => ⟨_, _, J7, q6⟩
      | brk =>
        obtain ⟨σ6, H6, S6, q6⟩ := hsp
        exact gone_cell (S6.unsuite ok) hN hi hln hfn fun s7 J7 => ⟨_, _, J7, q6⟩
      | cont =>
        obtain ⟨σ6, H6, S6, q6⟩ := hsp
        exact gone_cell (S6.unsuite ok) hN hi hln hfn fun s7 J7 => ⟨_, _, J7, q6⟩
    | false =>
      show wpAny _ X.A (handleBy (.ref a) X.env []) _ _ _
      refine wpAny_handleBy_nil ?_
      obtain ⟨k1, k2, k3, oe, vs, T, oT, ts', he, hz, hd, h1, hr⟩ := id fl3
      unfold PySem.passOn
      refine wpAny_bind (wpAny_field he hd h1 ?_)
      rw [if_neg (show ¬ ((Value.ref T == Value.none) = true) from by simp)]
      have fin : wpAny (model X.prog X.w) X.A (setFlight (.ref a) X.env.frame) (fun _ s4 => wpAny (model X.prog X.w) X.A (throw (.ref a) : Sem Flow) (SP X pins D) X.xe s4) X.xe { s' with heap := h3 } := by
        rw [hf]
        refine HandSPX.setFlight_upZ fl3 fun h4 hh4 up4 => wpAny_throw (tk _ _ ?_)
        exact ⟨a, B, sI, pins, σ', H', cls, d, rfl, J, nb, (up.trans up3).trans up4, .inr (.inr (by rw [hs]; exact hh4)), na, os, ag, hno rfl⟩
      first
        | exact wpAny_bind (wpAny_pure (wpAny_bind fin))
        | exact wpAny_bind fin
  · cases f with
    | next =>
      obtain ⟨σ', H', J', q⟩ := hsp
      exact wpAny_execs_nil ⟨σ', H', J'.ofTry ok, q⟩
    | brk =>
      obtain ⟨σ', H', J', q⟩ := hsp
      exact ⟨σ', H', J'.ofTry ok, q⟩
    | cont =>
      obtain ⟨σ', H', J', q⟩ := hsp
      exact ⟨σ', H', J'.ofTry ok, q⟩
    | ret u =>
      obtain ⟨v, σ', H', J', r, q⟩ := hsp
      exact ⟨v, σ', H', J'.ofTry ok, r, q⟩
theorem ds_tryC {x n : Str} {cS : Value} {i : Nat} {body suite : List Stmt} {b₀ : Stmt} {np pos pos' : Pos} {hm : Exc → Option Cell} {cb : CS}
    (hs : X.stack = X.env :: X.outer) (hf : X.env.frame = some X.env.locals) (hN : X.N.Nodup) (hi : X.N[i]? = some n) (hln : X.env.kindOf n = some .cell) (hfn : X.fn n = true) (hc : Names X x cS) (tk : L2N.Takes X W)
    (hk : ∀ ex cls d H', (hm ex).isSome = true → xp ex cls d H' → PySem.W.exmOne X.K cls cS = some true)
    (hb : ∀ (W' : WX) (pn : List (Addr × Obj)) (xe : Value → Shared → Prop), L2N.Takes (X.tr pn xe) W' → PassesOwn (model X.prog X.w) X.A X.env xe → DSs (X.tr pn xe) xp W' body cb)
    (hsu : ∀ (a : Addr) (oe : Obj) (cls : Value) (d : Option Addr) (pn : List (Addr × Obj)), L2N.Zn cls d oe → (∃ vs, oe.data = .fields vs) → PSs (X.suite a ((a, oe) :: pn)) (b₀ :: suite) (tSuite X.K xp hm i a cls d)) :
    DS X xp W (.Try body [.ExceptHandler (some (.Name x np)) (some n) (b₀ :: suite) pos'] [] [] pos) (cTry i hm cb) := by
  refine ⟨_, ps_tryC (tb := tSem X.K xp cb) hs hf hN hi hln hfn hc tk (fun W' pn xe tk' po => ?_) hsu, fun e σ H F env D w h => ⟨e, F, env, w, ?_⟩⟩
  · obtain ⟨t, p, q⟩ := hb W' pn xe tk' po
    exact ⟨fun pins s σ H D I ⟨e, F, env, w, h⟩ => p.run pins s σ H D I (q e σ H F env D w h)⟩
  · unfold cTry at h
    cases g : cb env with
    | nx env1 => rw [g] at h; exact h
    | rt c env1 => rw [g] at h; exact h
    | bk env1 => rw [g] at h; exact h
    | ct env1 => rw [g] at h; exact h
    | no => rw [g] at h; exact h
    | ex ex env1 =>
      rw [g] at h; dsimp only at h
      cases gi : decide (i < env1.length) with
      | false => rw [gi] at h; exact h.elim
      | true =>
        rw [gi] at h
        have hil : i < env1.length := of_decide_eq_true gi
        cases gm : hm ex with
        | none => rw [gm] at h; exact h.elim
        | some c =>
          rw [gm] at h; dsimp only at h
          intro σ' H' F' cls d w' s' hx
          refine ⟨true, hk ex cls d H' (by rw [gm]; rfl) hx, fun _ a na => ?_, fun z => by cases z⟩
          exact ⟨ex, c, F', gm, hx, w'.sub, by rw [List.getElem?_set_self (by rw [w'.len]; exact hil)], fun v H2 F2 gr rn => h v σ' H2 F2 (w'.grow gr) (s'.trans gr.fz) (rn.rc w' gr)⟩
end
end DL

/-! DNH: a dict is not equal to a list or a tuple. -/
namespace DL
open PySem PySem.Spec PyProof.Rows L2
open PySem.SeqAt PySem.AutoSeq1 PySem.MeetsSeq PySem.MeetsSeq2 PySem.MeetsSeq3
theorem dict_ne_declines_list (d l : Addr) (es : Array DictEntry) (ep : Nat) (items : Array Value) (n : Nat) (dd dd2 : Option Addr) (sl sl2 : Array (Option Value)) :
    Meets (Builtin.«dict.__ne__» ⟨[.ref d, .ref l], []⟩) (fun _ R s => s.heap.get? d = some { cls := .type "dict", dict := dd, data := .dict es ep, slots := sl } ∧ s.heap.get? l = some { cls := .type "list", dict := dd2, data := .seq items n, slots := sl2 } ∧ R (.ok (.ret .notImplemented)) s) :=
  .of_wp fun prog w A R s h => by obtain ⟨hp, g, d, tk, os⟩ := s; obtain ⟨hl, hb, h⟩ := h; have f1 := F.sub_list_dict; wp_walk using wpAny_loadPart' hl, wpAny_loadPart' hb; exact ⟨_, rfl, h⟩
theorem dict_ne_declines_tuple (d l : Addr) (es : Array DictEntry) (ep : Nat) (items : Array Value) (n : Nat) (dd dd2 : Option Addr) (sl sl2 : Array (Option Value)) :
    Meets (Builtin.«dict.__ne__» ⟨[.ref d, .ref l], []⟩) (fun _ R s => s.heap.get? d = some { cls := .type "dict", dict := dd, data := .dict es ep, slots := sl } ∧ s.heap.get? l = some { cls := .type "tuple", dict := dd2, data := .seq items n, slots := sl2 } ∧ R (.ok (.ret .notImplemented)) s) :=
  .of_wp fun prog w A R s h => by obtain ⟨hp, g, d, tk, os⟩ := s; obtain ⟨hl, hb, h⟩ := h; have f1 := F.sub_tuple_dict; wp_walk using wpAny_loadPart' hl, wpAny_loadPart' hb; exact ⟨_, rfl, h⟩
theorem list_ne_declines_dict (d l : Addr) (es : Array DictEntry) (ep : Nat) (items : Array Value) (n : Nat) (dd dd2 : Option Addr) (sl sl2 : Array (Option Value)) :
    Meets (Builtin.«list.__ne__» ⟨[.ref l, .ref d], []⟩) (fun _ R s => s.heap.get? d = some { cls := .type "dict", dict := dd, data := .dict es ep, slots := sl } ∧ s.heap.get? l = some { cls := .type "list", dict := dd2, data := .seq items n, slots := sl2 } ∧ R (.ok (.ret .notImplemented)) s) :=
  .of_wp fun prog w A R s h => by obtain ⟨hp, g, d, tk, os⟩ := s; obtain ⟨hl, hb, h⟩ := h; have f1 := F.sub_dict_list; wp_walk using wpAny_loadPart' hl, wpAny_loadPart' hb; exact ⟨_, rfl, h⟩
theorem tuple_ne_declines_dict (d l : Addr) (es : Array DictEntry) (ep : Nat) (items : Array Value) (n : Nat) (dd dd2 : Option Addr) (sl sl2 : Array (Option Value)) :
    Meets (Builtin.«tuple.__ne__» ⟨[.ref l, .ref d], []⟩) (fun _ R s => s.heap.get? d = some { cls := .type "dict", dict := dd, data := .dict es ep, slots := sl } ∧ s.heap.get? l = some { cls := .type "tuple", dict := dd2, data := .seq items n, slots := sl2 } ∧ R (.ok (.ret .notImplemented)) s) :=
  .of_wp fun prog w A R s h => by obtain ⟨hp, g, d, tk, os⟩ := s; obtain ⟨hl, hb, h⟩ := h; have f1 := F.sub_dict_tuple; wp_walk using wpAny_loadPart' hl, wpAny_loadPart' hb; exact ⟨_, rfl, h⟩
section
variable {A : Around} {s : Shared}
theorem ne_dict_list {d l : Addr} {o : Obj} {es : Array DictEntry} {ep : Nat} {items : Array Value} (h1 : s.heap.get? d = some o) (h2 : o.cls = .type "dict") (h3 : o.data = .dict es ep) (hl : s.heap.IsList l items) (hu : A.units < cLine) : RcNeAt A s (.ref d) (.ref l) true := fun prog w E Q h => by
  obtain ⟨⟨cls2, dd2, data2, sl2⟩, ho2, hc2, n2, hd2⟩ := id hl
  obtain ⟨cls, dd, data, sl⟩ := o
  simp only at hc2 hd2 h2 h3
  subst hc2 hd2 h2 h3
  have hne : d ≠ l := fun z => by subst z; rw [h1] at ho2; simp at ho2
  exact (rc_ne_decline_or (k := false) ⟨_, h1, rfl⟩ ⟨_, ho2, rfl⟩ (by decide) F.sub_list_dict F.slot_dict_ne F.slot_list_ne_refl
    (fun _ hq => call_meets F.slot_dict_ne ⟨_, h1, rfl⟩ F.entry_dict_ne (F.args_dict_ne_2 _ _) (dict_ne_declines_list d l es ep items n2 dd dd2 sl sl2) ⟨h1, ho2, hq⟩)
    (fun _ hq => call_meets F.slot_list_ne_refl ⟨_, ho2, rfl⟩ F.entry_list_ne (F.args_list_ne_2 _ _) (list_ne_declines_dict d l es ep items n2 dd dd2 sl sl2) ⟨h1, ho2, hq⟩)
    (fun _ hq => wpAny_isSame_ref_other hne h1 ho2 (by simp) hq) (.inr hu) h)
theorem ne_dict_tuple {d l : Addr} {o : Obj} {es : Array DictEntry} {ep : Nat} {items : Array Value} (h1 : s.heap.get? d = some o) (h2 : o.cls = .type "dict") (h3 : o.data = .dict es ep) (hl : s.heap.IsTuple l items) (hu : A.units < cLine) : RcNeAt A s (.ref d) (.ref l) true := fun prog w E Q h => by
  obtain ⟨⟨cls2, dd2, data2, sl2⟩, ho2, hc2, n2, hd2⟩ := id hl
  obtain ⟨cls, dd, data, sl⟩ := o
  simp only at hc2 hd2 h2 h3
  subst hc2 hd2 h2 h3
  have hne : d ≠ l := fun z => by subst z; rw [h1] at ho2; simp at ho2
  exact (rc_ne_decline_or (k := false) ⟨_, h1, rfl⟩ ⟨_, ho2, rfl⟩ (by decide) F.sub_tuple_dict F.slot_dict_ne F.slot_tuple_ne_refl
    (fun _ hq => call_meets F.slot_dict_ne ⟨_, h1, rfl⟩ F.entry_dict_ne (F.args_dict_ne_2 _ _) (dict_ne_declines_tuple d l es ep items n2 dd dd2 sl sl2) ⟨h1, ho2, hq⟩)
    (fun _ hq => call_meets F.slot_tuple_ne_refl ⟨_, ho2, rfl⟩ F.entry_tuple_ne (F.args_tuple_ne_2 _ _) (tuple_ne_declines_dict d l es ep items n2 dd dd2 sl sl2) ⟨h1, ho2, hq⟩)
    (fun _ hq => wpAny_isSame_ref_other hne h1 ho2 (by simp) hq) (.inr hu) h)
end
/-- a dict's data, but neither a script nor an address -/
def isDic : PyData → Bool
  | .dict ((.none, _) :: _) => false
  | .dict (_ :: _) => true
  | _ => false
def isSeqD : PyData → Bool
  | .list _ => true
  | .tuple _ => true
  | _ => false
/-- != where a dict may stand on the left -/
def oNeX : Op2 := fun x y => if isDic x && isSeqD y && shp y then frzB true else oNe x y
/-- a dict and a list or a tuple -/
def rNeM (K : PySem.W.Frag) : R2 := fun x y H Q => ∃ a e, x = .ref a ∧ ((∃ kvs, Rd H a (.dK kvs)) ∨ ∃ kvs, Rd H a (.dT kvs)) ∧ Dp K H y e ∧ isSeqD e = true ∧ Q (.bl true) H
def rNeX (K : PySem.W.Frag) : R2 := fun x y H Q => rNeA K x y H Q ∨ rNeM K x y H Q
theorem dic_obj {X : Cx} {pins : List (Addr × Obj)} {σ : L2.St} {H : Hp} {s : Shared} {a : Addr} (I : Inv X pins σ H s) (h : (∃ kvs, Rd H a (.dK kvs)) ∨ ∃ kvs, Rd H a (.dT kvs)) : ∃ o es ep, s.heap.get? a = some o ∧ o.cls = .type "dict" ∧ o.data = .dict es ep := by
  rcases h with ⟨kvs, h | ⟨o, h⟩⟩ | ⟨kvs, h | ⟨o, h⟩⟩
  · obtain ⟨_, _, vs, _, o, es, ep, e, hx, hd, _⟩ := I.hok a _ h
    exact ⟨o, es, ep, e, hx.1, hd⟩
  · obtain ⟨_, e, hx, es, ep, _, hd, _⟩ := I.frzK h
    exact ⟨o, es, ep, e, hx.1, hd⟩
  · obtain ⟨_, _, xs, _, o, es, ep, e, hx, hd, _⟩ := I.hok a _ h
    exact ⟨o, es, ep, e, hx.1, hd⟩
  · obtain ⟨_, e, hx, es, ep, hd, _⟩ := I.frzT h
    exact ⟨o, es, ep, e, hx.1, hd⟩
theorem op_neM {X : Cx} (hu : X.A.units + 64 < cLine) : OpR X (compareOp .NotEq) (rNeM X.K) := by
  intro pins s σ H x y v u Q I rx ry h
  obtain ⟨a, e, rfl, hd, he, hs, q⟩ := h
  obtain ⟨o, es, ep, h1, h2, h3⟩ := dic_obj I hd
  obtain ⟨bs, r2⟩ := Dp.reads I e y u he ry
  cases rx
  have hu' : X.A.units < cLine := by omega
  cases r2 with
  | list k1 k2 k3 k4 => exact ne_dict_list h1 h2 h3 ⟨_, k1, k2, _, k3⟩ hu' X.prog X.w X.xe _ ⟨.bl true, H, I, rfl, q⟩
  | tuple k1 k2 k3 k4 => exact ne_dict_tuple h1 h2 h3 ⟨_, k1, k2, _, k3⟩ hu' X.prog X.w X.xe _ ⟨.bl true, H, I, rfl, q⟩
  | _ => cases hs
theorem or_neX {X : Cx} (hu : X.A.units + 64 < cLine) : OpR X (compareOp .NotEq) (rNeX X.K) := OpR.or (or_ne hu) (op_neM hu)
theorem ok_neX {K : PySem.W.Frag} : Op2Ok K (rNeX K) oNeX := by
  intro x y dx dy H F Q s rx ry h
  unfold oNeX at h
  split at h
  · rename_i hc
    rw [Bool.and_eq_true, Bool.and_eq_true] at hc
    obtain ⟨⟨c1, c2⟩, c3⟩ := hc
    refine .inr ?_
    have rd := rx.rd s
    have q : Q (.bl true) H := h.bl s
    cases rd with
    | dK n k r => exact ⟨_, dy, rfl, .inl ⟨_, k⟩, RD.dp (SeqAt.canLay_of_shaped c3) (ry.rd s), c2, q⟩
    | dT k r => exact ⟨_, dy, rfl, .inr ⟨_, k⟩, RD.dp (SeqAt.canLay_of_shaped c3) (ry.rd s), c2, q⟩
    | _ => cases c1
  · exact .inl (ok_ne x y dx dy H F Q s rx ry h)
end DL

/-! DNI: a or b, by the truth of data. -/
namespace DL
open PySem PySem.Spec PyProof.Rows L2
def truB : PyData → Option Bool
  | .none => some false
  | .bool b => some b
  | .int i => some (i != 0)
  | .str x => if x.length ≤ lim then some ((x.length : Int) != 0) else none
  | .list ds => some (!ds.isEmpty)
  | .tuple ds => some (!ds.isEmpty)
  | .dict ((.int _, _) :: _) => some true
  | .dict ((.str _, _) :: _) => some true
  | .dict _ => none
/-- truth, of frozen dicts also -/
def TruX (K : PySem.W.Frag) (x : V) (H : Hp) (k : Bool) : Prop := TruV K x H k ∨ ∃ p o kvs, x = .ref p ∧ H p = some (.frz o (.dK kvs)) ∧ k = !kvs.isEmpty
theorem tru_okX {X : Cx} : TruR X (fun x H Q => ∃ k, TruX X.K x H k ∧ Q k H) := by
  intro pins s σ H x v Q I rx h
  obtain ⟨k, e | ⟨p, o, kvs, rfl, hx, e⟩, q⟩ := h
  · exact tru_ok pins s σ H x v Q I rx ⟨k, e, q⟩
  · subst e
    cases rx
    have hl := line63
    obtain ⟨_, hz, hS, vs, r, m⟩ := I.hok p _ hx
    have hlen : kvs.length = vs.length := Paired.length r
    exact wpAny_truthy_dict hS m (by omega) ⟨H, I.tok _, by rw [isEmpty_kv r]; exact q⟩
def tOrX (K : PySem.W.Frag) (ta tb : TE) : TE := fun σ H Q => ta σ H fun x H1 => ∃ k, TruX K x H1 k ∧ if k = true then Q x H1 else tb σ H1 Q
theorem pe_orX {X : Cx} {a b : Expr} {rest : List Expr} {ta tb : TE} {pos : Pos} (ha : PE X a ta) (hb : PE X (.BoolOp .Or (b :: rest) pos) tb) : PE X (.BoolOp .Or (a :: b :: rest) pos) (tOrX X.K ta tb) := by
  refine ⟨fun pins s σ H Q I h => ?_⟩
  refine BoolOp_or (thn (ha.run pins s σ H _ I h) fun v s1 ⟨x, H1, I1, r1, k, e, q1⟩ => ?_)
  refine thn (tru_okX pins s1 σ H1 x v (fun c H2 => c = k ∧ H2 = H1) I1 r1 ⟨k, e, rfl, rfl⟩) fun c s2 ⟨H2, I2, e1, e2⟩ => ?_
  subst e1 e2
  cases c with
  | true => exact ⟨x, _, I2, r1, q1⟩
  | false => exact hb.run pins s2 σ _ Q I2 q1
theorem tru_of {K : PySem.W.Frag} {F H : Hp} {v : V} {d : PyData} {k : Bool} (r : RD K F v d) (s : Sub F H) (h : truB d = some k) : TruX K v H k := by
  have r := r.mono s
  cases r with
  | non => exact .inl (Option.some.inj h).symm
  | bl b => exact .inl (Option.some.inj h).symm
  | int i => exact .inl (Option.some.inj h).symm
  | str x =>
    have h : (if x.length ≤ lim then some ((x.length : Int) != 0) else none) = some k := h
    by_cases hx : x.length ≤ lim
    · rw [if_pos hx] at h
      exact .inl ⟨Nat.le_trans hx (by rw [sizeLine_eq]; decide), (Option.some.inj h).symm⟩
    · rw [if_neg hx] at h; cases h
  | @lst a vs ds q rs =>
    have h : some (!ds.isEmpty) = some k := h
    refine .inl (.inl ⟨_, .inl q, ?_⟩)
    rw [← Option.some.inj h]
    cases rs <;> rfl
  | @tup a vs ds q rs =>
    have h : some (!ds.isEmpty) = some k := h
    refine .inl (.inr (.inl ⟨_, .inl (.inl q), ?_⟩))
    rw [← Option.some.inj h]
    cases rs <;> rfl
  | scr q => cases h
  | adr a => cases h
  | @dK a kvs ds n q rs =>
    match kvs, ds, n, q, rs, h with
    | [], _, n, _, _, _ => exact (n rfl).elim
    | x :: kvs, [], _, _, rs, _ => cases rs
    | (key, val) :: kvs, d :: ds, n, q, rs, h =>
      have hk : k = true := by cases key <;> exact (Option.some.inj h).symm
      subst hk
      rcases q with q | ⟨o, q⟩
      · exact .inl (.inr (.inr ⟨_, q, rfl⟩))
      · exact .inr ⟨_, o, _, rfl, q, rfl⟩
  | @dT a kvs ds q rs =>
    match kvs, ds, rs, h with
    | [], _, _, h => cases h
    | x :: kvs, [], rs, _ => cases rs
    | x :: kvs, d :: ds, rs, h => cases h
/-- a or b, whatever a is -/
def cOrV (c d : CE) : CE := fun env => (c env).bind fun x env1 => match x with
  | .frz v => match truB v with
    | some true => .ok (.frz v) env1
    | some false => d env1
    | none => .no
  | _ => .no
section
variable {X : Cx} {xp : XP} {W : WX}
theorem de_orV {a b : Expr} {rest : List Expr} {c d : CE} {t u : TE} {pos : Pos} (ha : DE X xp W a c t) (hb : DE X xp W (.BoolOp .Or (b :: rest) pos) d u) : DE X xp W (.BoolOp .Or (a :: b :: rest) pos) (cOrV c d) (tOrX X.K t u) := by
  obtain ⟨p, q⟩ := ha
  obtain ⟨p2, q2⟩ := hb
  refine ⟨pe_orX p p2, fun e σ H F env Q w h => q e σ H F env _ w ?_⟩
  unfold cOrV at h
  cases g : c env with
  | no => rw [g] at h; exact h
  | ex x env1 => rw [g] at h; exact h
  | ok x env1 =>
    rw [g] at h
    intro v H' F' w' s rc
    cases x with
    | frz dd =>
      have rd : RD X.K F' v dd := rc
      have h : Post X.K xp W e σ F Q (match truB dd with | some true => .ok (.frz dd) env1 | some false => d env1 | none => .no) := h
      cases ht : truB dd with
      | none => rw [ht] at h; exact h.elim
      | some k =>
        rw [ht] at h
        cases k with
        | true => exact ⟨true, tru_of rd w'.sub ht, iteT (h v H' F' w' s rc)⟩
        | false => exact ⟨false, tru_of rd w'.sub ht, iteF (q2 e σ H' F' env1 Q w' (Post.subs s h))⟩
    | _ => exact h.elim
end
end DL

/-! DNJ: a, b, c = e1, e2, e3 where all three are frozen data. -/
namespace DL
open PySem PySem.Spec PyProof.Rows L2
def cPar3 (i j l : Nat) (c d g : CE) : CS := fun env => match c env with
  | .ex x env1 => .ex x env1
  | .ok (.frz x) env1 => (match d env1 with
    | .ex x env2 => .ex x env2
    | .ok (.frz y) env2 => (match g env2 with
      | .ex x env3 => .ex x env3
      | .ok (.frz z) env3 => (match isLck (env3.getD i .emp) || isLck (env3.getD j .emp) || isLck (env3.getD l .emp) with
        | true => .no
        | false => .nx (((env3.set i (.frz x)).set j (.frz y)).set l (.frz z)))
      | _ => .no)
    | _ => .no)
  | _ => .no
section
variable {X : Cx} {xp : XP} {W : WX}
theorem ds_par3 {i j l : Nat} {x y z : Str} {a b c : Expr} {ca cb cc : CE} {ta tb tc : TE} {px py pz pt : Pos} {kt k2 pt2} {pos : Pos} (hc : X.calm = true) (hN : X.N.Nodup) (hi : X.N[i]? = some x) (hj : X.N[j]? = some y) (hl : X.N[l]? = some z) (hij : i ≠ j) (hil : i ≠ l) (hjl : j ≠ l)
    (hx : X.env.scope.names.lookup x = some .local) (hy : X.env.scope.names.lookup y = some .local) (hz : X.env.scope.names.lookup z = some .local) (ha : DE X xp W a ca ta) (hb : DE X xp W b cb tb) (hd : DE X xp W c cc tc)
    (hw : swappedStores [.Tuple [.Name x px, .Name y py, .Name z pz] kt pt] (.Tuple [a, b, c] k2 pt2) X.env = pure (some [x, y, z]))
    (hs1 : starEach [a, b, c] X.env = (false, eval a X.env) :: starEach [b, c] X.env := by rfl) (hs2 : starEach [b, c] X.env = (false, eval b X.env) :: starEach [c] X.env := by rfl) (hs3 : starEach [c] X.env = (false, eval c X.env) :: starEach [] X.env := by rfl)
    (hs : swapsWithSole [.Tuple [.Name x px, .Name y py, .Name z pz] kt pt] (.Tuple [a, b, c] k2 pt2) pos.line X.env = pure false := by rfl) :
    DS X xp W (.Assign [.Tuple [.Name x px, .Name y py, .Name z pz] kt pt] (.Tuple [a, b, c] k2 pt2) pos) (cPar3 i j l ca cb cc) := by
  refine ⟨_, ps_par3 hc hN hi hj hl hij hil hjl hx hy hz (pa_cons ha.1 (pa_cons hb.1 (pa_cons hd.1 pa_nil hs3) hs2) hs1) hw hs, fun e σ H F env D w q => ha.2 e σ H F env _ w ?_⟩
  unfold cPar3 at q
  cases gc : ca env with
  | no => rw [gc] at q; exact q
  | ex x env1 => rw [gc] at q; exact fun H' F' cls d w' s y => q σ H' F' cls d w' s y
  | ok c1 env1 =>
    rw [gc] at q
    intro v H1 F1 w1 s1 r1
    cases c1 with
    | frz x1 =>
      dsimp only at q
      have r1 : RD X.K F1 v x1 := r1
      refine hb.2 e σ H1 F1 env1 _ w1 ?_
      cases gd : cb env1 with
      | no => rw [gd] at q; exact q
      | ex x env2 => rw [gd] at q; exact fun H' F' cls d w' s y => q σ H' F' cls d w' (s1.trans s) y
      | ok d1 env2 =>
        rw [gd] at q
        intro u H2 F2 w2 s2 r2
        cases d1 with
        | frz y1 =>
          dsimp only at q
          have r2 : RD X.K F2 u y1 := r2
          refine hd.2 e σ H2 F2 env2 _ w2 ?_
          cases ge : cc env2 with
          | no => rw [ge] at q; exact q
          | ex x env3 => rw [ge] at q; exact fun H' F' cls d w' s y => q σ H' F' cls d w' ((s1.trans s2).trans s) y
          | ok g1 env3 =>
            rw [ge] at q
            intro t H3 F3 w3 s3 r3
            cases g1 with
            | frz z1 =>
              dsimp only at q
              have r3 : RD X.K F3 t z1 := r3
              cases gl : isLck (env3.getD i .emp) || isLck (env3.getD j .emp) || isLck (env3.getD l .emp) with
              | true => rw [gl] at q; exact q.elim
              | false =>
                rw [gl] at q
                rw [Bool.or_eq_false_iff, Bool.or_eq_false_iff] at gl
                obtain ⟨⟨g1, g2⟩, g3⟩ := gl
                have r1' := (r1.mono s2).mono s3
                have r2' := r2.mono s3
                exact ⟨v, u, t, rfl, q _ H3 F3 (((w3.putF (nolck w3 g1) r1').putF (nolck w3 g2) r2').putF (nolck w3 g3) r3) ((s1.trans s2).trans s3)⟩
            | _ => exact q.elim
        | _ => exact q.elim
    | _ => exact q.elim
end
end DL

/-! DNK: NAME[e], e not in NAME, NAME a dict of the module with text keys; reversed(list or tuple). -/
namespace DL
open PySem PySem.Spec PyProof.Rows L2
section
variable {X : Cx} {xp : XP} {W : WX}
theorem KEnt.isSome {es : List DictEntry} {kvs : List (Str × PyData)} (h : KEnt es kvs) (x : Str) : (findBy Value.isStrOf es.toArray x).isSome = (lookS kvs x).isSome := by
  have f := h.find x
  cases g : lookS kvs x with
  | none => rw [g] at f; dsimp only at f; rw [f]; rfl
  | some d => rw [g] at f; obtain ⟨u, e, k⟩ := f; rw [e]; rfl
def cKNotIn (kvs : List (Str × PyData)) (o : Opd) : CE := fun env => (o.ev env).bind fun l env1 => match l.get env1 with
  | some (.str x) => .ok (.frz (.bool (!(lookS kvs x).isSome))) env1
  | _ => .no
def rKNotIn (a : Addr) (es : List DictEntry) : R2 := fun x y H Q => ∃ z : Str, x = .str z ∧ y = .ref a ∧ Q (.bl (!(findBy Value.isStrOf es.toArray z).isSome)) H
theorem op_kNotIn {a : Addr} {es : List DictEntry} {n : Nat} (D : KDict X.K X.w a es.toArray n) : OpR X (compareOp .NotIn) (rKNotIn a es) := by
  intro pins s σ H x y v u Q I rx ry h
  obtain ⟨z, rfl, rfl, q⟩ := h
  obtain ⟨t, rfl⟩ := rx
  cases ry
  exact wpAny_notIn_of (PySem.strKind_is X.prog X.w z t) D.low (PySem.W.mapOf_K (prog := X.prog) I.kIn D.at_ D.lit) ⟨.bl (!(findBy Value.isStrOf es.toArray z).isSome), H, I.tok _, rfl, q⟩
theorem de_knotin {x : Str} {a : Addr} {es : List DictEntry} {kvs : List (Str × PyData)} {e : Expr} {o : Opd} {te : TE} {p pos : Pos} (D : KDc X.K X.w a es kvs) (hg : Gl X x) (hm : X.mg x = some (.ref a)) (h : DO X xp W e o te) (hd : (x == ("__debug__" : Str)) = false := by decide) :
    DE X xp W (.Compare e [.NotIn] [.Name x p] pos) (cKNotIn kvs o) (tOp (rKNotIn a es) te (tC (.ref a))) := by
  obtain ⟨n, D, k⟩ := D
  refine ⟨pe_cmpR (op_kNotIn D) h.pe (pe_glob hg hm rfl hd) rfl, fun en σ H F env Q w q => ?_⟩
  unfold cKNotIn at q
  refine h.run w (fun x env1 H' F' cls d g w' s y => ?_) (fun g => ?_) fun l env1 v H1 F1 g w1 s1 l1 => ?_
  · rw [g] at q; exact q H' F' cls d w' s y
  · rw [g] at q; exact q
  · rw [g] at q; simp only [Res.bind] at q
    cases g1 : l.get env1 with
    | none => rw [g1] at q; exact q.elim
    | some d =>
      rw [g1] at q
      cases d with
      | str z =>
        refine ⟨z, (RB.of w1 l1 g1).str, rfl, ?_⟩
        rw [k.isSome]
        exact q _ H1 F1 w1 s1 (.bl _)
      | _ => exact q.elim
theorem dt_knotin {x : Str} {a : Addr} {es : List DictEntry} {kvs : List (Str × PyData)} {e : Expr} {o : Opd} {te : TE} {p pos : Pos} (D : KDc X.K X.w a es kvs) (hg : Gl X x) (hm : X.mg x = some (.ref a)) (h : DO X xp W e o te) (hd : (x == ("__debug__" : Str)) = false := by decide) :
    DT X xp W (.Compare e [.NotIn] [.Name x p] pos) (toT (cKNotIn kvs o)) (tTest (tOp (rKNotIn a es) te (tC (.ref a)))) := by
  have q := (de_knotin (pos := pos) (p := p) D hg hm h hd).2
  obtain ⟨n, D, k⟩ := D
  exact ⟨pt_cmpR (op_kNotIn D) h.pe (pe_glob hg hm rfl hd) rfl, fun _ _ _ _ _ _ w h => q _ _ _ _ _ _ w (toT_run h)⟩
def cKIx (kvs : List (Str × PyData)) (o : Opd) : CE := fun env => (o.ev env).bind fun l env1 => match l.get env1 with
  | some (.str x) => match lookS kvs x with
    | some d => .ok (.frz d) env1
    | none => .no
  | _ => .no
def rKIx (a : Addr) (es : List DictEntry) : R2 := fun x y H Q => ∃ (z : Str) (u0 : Value) (v0 : V), x = .ref a ∧ y = .str z ∧ findBy Value.isStrOf es.toArray z = some u0 ∧ RelV v0 u0 ∧ Q v0 H
theorem ix_k {a : Addr} {es : List DictEntry} {n : Nat} (D : KDict X.K X.w a es.toArray n) : IxR X (rKIx a es) := by
  intro value slice pins s σ H x y v u Q I rx ry h hs
  obtain ⟨z, u0, v0, rfl, rfl, e, r, q⟩ := h
  cases rx
  obtain ⟨t, rfl⟩ := ry
  have hm := PySem.W.mapOf_K (prog := X.prog) (w := X.w) I.kIn D.at_ D.lit
  exact tail_any hm.typeIs PySem.F.slot_dict_getitem.lookup (wpAny_getItem_of (PySem.strKind_is X.prog X.w z t) hm e ⟨v0, H, I.tok _, r, q⟩) hs
theorem de_kix {x : Str} {a : Addr} {es : List DictEntry} {kvs : List (Str × PyData)} {e : Expr} {o : Opd} {te : TE} {p pos : Pos} (D : KDc X.K X.w a es kvs) (hg : Gl X x) (hm : X.mg x = some (.ref a)) (h : DO X xp W e o te) (hs : PlainIx e) (hd : (x == ("__debug__" : Str)) = false := by decide) :
    DE X xp W (.Subscript (.Name x p) e pos) (cKIx kvs o) (tOp (rKIx a es) (tC (.ref a)) te) := by
  obtain ⟨n, D, k⟩ := D
  refine ⟨pe_ix (ix_k D) (pe_glob hg hm rfl hd) h.pe hs, fun en σ H F env Q w q => ?_⟩
  unfold cKIx at q
  refine h.run w (fun x env1 H' F' cls d g w' s y => ?_) (fun g => ?_) fun l env1 v H1 F1 g w1 s1 l1 => ?_
  · rw [g] at q; exact q H' F' cls d w' s y
  · rw [g] at q; exact q
  · rw [g] at q; simp only [Res.bind] at q
    cases g1 : l.get env1 with
    | none => rw [g1] at q; exact q.elim
    | some d =>
      rw [g1] at q
      cases d with
      | str z =>
        dsimp only at q
        have f := k.find z
        cases g2 : lookS kvs z with
        | none => rw [g2] at q; exact q.elim
        | some d =>
          rw [g2] at q f
          obtain ⟨u, eu, kv⟩ := f
          obtain ⟨v0, r0, _⟩ := kv.v
          exact ⟨z, u, v0, rfl, (RB.of w1 l1 g1).str, eu, r0, q v0 H1 F1 w1 s1 (kv.rd r0)⟩
      | _ => exact q.elim
/-! ### reversed(list or tuple) -/
def iRevC (c : CE) : CI := fun env => (c env).bind fun c env1 => match c.val with
  | some d => match seqOf d with
    | some ds => .ok ds.reverse env1
    | none => .no
  | none => .no
theorem itvl_ok {e : Ent} {F₁ : Hp} {a : Addr} {vs : List V} {ds : List PyData} {K : PySem.W.Frag} (h : SqL K F₁ a vs) (r : RDs K F₁ vs ds) : ItOk K (Itv K a vs.length) ds.reverse e F₁ := by
  intro σ H F env w s i
  have hH : SqL K H a vs := w.sub.sqL (s.sqL h)
  refine ⟨fun d hd => ?_, fun hl => by show vs.length ≤ i; rw [r.length]; simp at hl; omega⟩
  have hi : i < ds.length := by have := (List.getElem?_eq_some_iff.mp hd).1; simpa using this
  rw [List.getElem?_reverse hi] at hd
  obtain ⟨v, hv, rv⟩ := r.get' hd
  rw [← r.length] at hv
  refine ⟨⟨by rw [r.length]; exact hi, vs, v, hH, hv⟩, fun x H' y => ?_⟩
  obtain ⟨rfl, f⟩ := y
  have ev := (f vs hH).symm.trans hv
  cases ev
  exact ⟨F, .refl w.sub, rv.mono s⟩
theorem itvt_ok {e : Ent} {F₁ : Hp} {a : Addr} {vs : List V} {ds : List PyData} {K : PySem.W.Frag} (h : SqT K F₁ a vs) (r : RDs K F₁ vs ds) : ItOk K (RT.ItvT K a vs.length) ds.reverse e F₁ := by
  intro σ H F env w s i
  have hH : SqT K H a vs := w.sub.sqT (s.sqT h)
  refine ⟨fun d hd => ?_, fun hl => by show vs.length ≤ i; rw [r.length]; simp at hl; omega⟩
  have hi : i < ds.length := by have := (List.getElem?_eq_some_iff.mp hd).1; simpa using this
  rw [List.getElem?_reverse hi] at hd
  obtain ⟨v, hv, rv⟩ := r.get' hd
  rw [← r.length] at hv
  refine ⟨⟨by rw [r.length]; exact hi, vs, v, hH, hv⟩, fun x H' y => ?_⟩
  obtain ⟨rfl, f⟩ := y
  have ev := (f vs hH).symm.trans hv
  cases ev
  exact ⟨F, .refl w.sub, rv.mono s⟩
theorem di_rev {tg ex : Expr} {p pos : Pos} {c : CE} {t : TE} (hg : Gl X "reversed") (hm : X.mg "reversed" = none) (h : DE X xp W ex c t) (hs : starEach [ex] X.env = (false, eval ex X.env) :: starEach [] X.env := by rfl) :
    DI X xp W tg (.Call (.Name "reversed" p) [ex] [] pos) (iRevC c) (fun σ H R => RT.iRevA X.K t σ H (fun J H1 => Fact X.K H1 → R J H1)) := by
  refine ⟨PI.fact (RT.pi_revA hg hm h.1 hs), fun e σ H F env R w p => ?_⟩
  unfold iRevC at p
  refine h.2 e σ H F env _ w ?_
  cases g : c env with
  | no => rw [g] at p; exact p.elim
  | ex x env1 => rw [g] at p; exact p
  | ok c1 env1 =>
    rw [g] at p; simp only [Res.bind] at p
    cases g2 : c1.val with
    | none => rw [g2] at p; exact p.elim
    | some d =>
      rw [g2] at p; dsimp only at p
      cases g3 : seqOf d with
      | none => rw [g3] at p; exact p.elim
      | some ds =>
        rw [g3] at p
        intro v H' F' w' s r
        obtain ⟨F2, d2, e2, w2, s2, r2⟩ := r.freeze w'
        rw [g2] at e2; cases e2
        cases d with
        | list ds' =>
          cases g3
          cases r2 with
          | lst q rs => exact ⟨_, _, rfl, .inl ⟨w2.sub.sqL (.inl q), fun ff => p _ H' F2 w2 (s.trans s2) (itvl_ok (.inl q) rs) (by rw [List.length_reverse, ← rs.length]; exact ff.1 _ _ (w2.sub.sqL (.inl q)))⟩⟩
        | tuple ds' =>
          cases g3
          cases r2 with
          | tup q0 rs => exact (fun q : SqT X.K F2 _ _ => ⟨_, _, rfl, .inr ⟨w2.sub.sqT q, fun ff => p _ H' F2 w2 (s.trans s2) (itvt_ok q rs) (by rw [List.length_reverse, ← rs.length]; exact ff.2 _ _ (w2.sub.sqT q))⟩⟩) (.inl (.inl q0))
        | none => cases g3
        | bool b => cases g3
        | int b => cases g3
        | str b => cases g3
        | dict b => cases g3
theorem de_isiK {K : PySem.W.Frag} {T : String} {p p2 pos : Pos} {ex : Expr} {o : Opd} {te : TE} (kt : KitT T) (hg : Gl X "isinstance") (hm : X.mg "isinstance" = none) (hgT : Gl X (Str.ofString T)) (hmT : X.mg (Str.ofString T) = none) (hvT : bootBuiltins (Str.ofString T) = some (.type T)) (h : DO X xp W ex o te)
    (hnT : (Str.ofString T) ≠ "__name__" := by decide) (hdT : ((Str.ofString T) == ("__debug__" : Str)) = false := by decide)
    (he : starEach [ex, .Name (Str.ofString T) p2] X.env = (false, eval ex X.env) :: starEach [.Name (Str.ofString T) p2] X.env := by rfl) (he2 : starEach [.Name (Str.ofString T) p2] X.env = (false, eval (.Name (Str.ofString T) p2) X.env) :: starEach [] X.env := by rfl)
    (hpl : (backTo pos (starEach [.Name (Str.ofString T) p2] X.env)).any (·.1) = false := by rfl) (eK : X.K = K := by rfl) :
    DE X xp W (.Call (.Name "isinstance" p) [ex, .Name (Str.ofString T) p2] [] pos) (cIsi T o) (tCB (rIsiA K) (tCons te (tCons (tC (.ty T)) tNil))) := by
  subst eK
  exact de_isi kt hg hm hgT hmT hvT h hnT hdT he he2 hpl
theorem de_slK {K : PySem.W.Frag} {ex : Expr} {lo hi : Option Expr} {o : Opd} {plo phi : POp} {te : TE} {tl th : TO} {p2 pos : Pos} (h : DO X xp W ex o te) (hl : DP X xp W lo plo tl) (hh : DP X xp W hi phi th) (eK : X.K = K := by rfl) :
    DE X xp W (.Subscript ex (.Slice lo hi none p2) pos) (cSl o plo phi) (tSl (rSlA3 K) te tl th) := by
  subst eK
  exact de_sl h hl hh
end
end DL

/-! DNL: list(reversed(xs)). -/
namespace DL
open PySem PySem.Spec PyProof.Rows RT
section
variable {prog : Program} {w : World} {A : Around} {E : Value → Shared → Prop} {s : Shared}
theorem rev_extend {it l : Addr} {items : Array Value} {R : Result → Shared → Prop} (hh : A.handled = none) (S : Addr) (hSi : S ≠ it) (hSl : S ≠ l) (hit : s.heap.IsRevIter it l ((items.size : Int) - 1)) (hl : s.heap.IsList l items) (hne : l ≠ it) (hn : items.size ≤ sizeLine) (res : Value) (c₀ : Nat) (hS : s.heap.get? S = some { cls := .type "list", data := .seq #[] c₀ })
    (hR : ∀ h' tk acc' c', (∀ b o, b ≠ S → b ≠ it → s.heap.get? b = some o → h'.get? b = some o) → h'.get? S = some { cls := .type "list", dict := none, data := .seq acc' c', slots := #[] } → ItemsOf (fun i v => items[items.size - 1 - i]? = some v) acc' items.size → R (.ok (.ret res)) { s with heap := h', toks := tk }) :
    wpAny (model prog w) A.in1 (Builtin.List.listExtendWith (.ref S) (.ref it) res)
      (fun fin s' => match fin with | .done f => R (.ok f) s' | .again c' => c'.quiet = true ∧ codeAny (model prog w) A c' R s') (fun e s' => R (.error e) s') s := by
  have W := (Walks.listRev (prog := prog) (w := w) (A := A.in1) hh it l hne items).toS
  have hSf : S ∉ [it, l] := by simp only [List.mem_cons, List.not_mem_nil, or_false, not_or]; exact ⟨hSi, hSl⟩
  have hT : s.TypeIs (.ref it) "list_reverseiterator" := hit.typeIs
  have h1 : Builtin.List.listSameRef (.ref S) (.ref it) = false := by simp [Builtin.List.listSameRef, hSi]
  unfold Builtin.List.listExtendWith
  refine wpAny_bind (wpAny_typeOf hT ?_)
  rw [if_neg (by rw [h1]; decide)]
  refine wpAny_bind (wpAny_pyIter_revIter hit ?_)
  refine wpAny_bind (wpAny_holding ?_)
  unfold Builtin.List.listLengthHint
  refine wpAny_bind (wpAny_specialOf hT nolen_lri ?_)
  show wpAny _ A.in1 (specialOf (Value.ref it) (Str.ofString "__length_hint__") >>= _) _ _ _
  refine wpAny_bind (wpAny_specialOf hT hint_lri ?_)
  generalize hid : ("list_reverseiterator.__length_hint__" : String) = id0
  wp_delta
  rw [show splitId id0 = some ("list_reverseiterator", "__length_hint__") from by subst hid; decide +kernel]
  subst hid
  refine wpAny_bind (wpAny_isInstance (b := true) hT (by rw [isSubtype_type]; kernel_rfl) ?_)
  refine wpAny_pure ?_
  rw [if_neg (by decide)]
  have e0 : ((items.size : Nat) : Int) - 1 - ((0 : Nat) : Int) = (items.size : Int) - 1 := by omega
  refine wpAny_pure ⟨plainId_quiet PySem.F.plain_extend_loop _, codeAny_extend_loopS W hn S hSf res items.size 0 _ #[] c₀ rfl (Nat.zero_le _) ⟨Nat.zero_le _, by rw [e0]; exact hit, hl⟩ hS (ItemsOf.nil _) fun s' acc' c' hm hS' hacc => ?_⟩
  rw [Moved.eq_with hm]
  refine hR s'.heap s'.toks acc' c' (fun b o hb hb2 e => hm.heap b o (fun hmem => ?_) e) hS' hacc
  rcases List.mem_cons.mp hmem with e' | hmem
  · exact hb e'
  · exact hb2 (List.mem_singleton.mp hmem)
theorem rev_init {it l : Addr} {items : Array Value} {R : Result → Shared → Prop} (hh : A.handled = none) (S : Addr) (hSi : S ≠ it) (hSl : S ≠ l) (hit : s.heap.IsRevIter it l ((items.size : Int) - 1)) (hl : s.heap.IsList l items) (hne : l ≠ it) (hn : items.size ≤ sizeLine) (hS : s.heap.get? S = some { cls := .type "list", data := .seq #[] })
    (hR : ∀ h' tk acc' c', (∀ b o, b ≠ S → b ≠ it → s.heap.get? b = some o → h'.get? b = some o) → h'.get? S = some { cls := .type "list", dict := none, data := .seq acc' c', slots := #[] } → ItemsOf (fun i v => items[items.size - 1 - i]? = some v) acc' items.size → R (.ok (.ret .none)) { s with heap := h', toks := tk }) :
    wpAny (model prog w) A.in1 (Builtin.«list.__init__» ⟨[.ref S, .ref it], []⟩)
      (fun fin s' => match fin with | .done f => R (.ok f) s' | .again c' => c'.quiet = true ∧ codeAny (model prog w) A c' R s') (fun e s' => R (.error e) s') s := by
  show wpAny _ _ (do let old ← Builtin.List.listItems (.ref S); Builtin.List.listUpdate (.ref S) (fun _ => #[]); letGo old.toList.reverse; Builtin.List.listExtendWith (.ref S) (.ref it) .none) _ _ s
  refine wpAny_bind ?_
  unfold Builtin.List.listItems
  refine wpAny_bind (wpAny_seqItems hS rfl (wpAny_pure ?_))
  show wpAny _ _ (updateSeq S (fun _ => #[]) >>= fun _ => letGo (#[] : Array Value).toList.reverse >>= fun _ => Builtin.List.listExtendWith (.ref S) (.ref it) .none) _ _ s
  refine wpAny_bind (wpAny_updateSeq hS rfl ?_)
  have hS₂ := Heap.get?_update_self (Obj.mapSeq (fun _ => (#[] : Array Value))) hS rfl
  have oth : ∀ b o, b ≠ S → s.heap.get? b = some o → (s.heap.update S (Obj.mapSeq (fun _ => (#[] : Array Value)))).get? b = some o :=
    fun b o hb e => (Heap.get?_update_other _ _ (Ne.symm hb)).trans e
  refine wpAny_bind (wpAny_letGo ?_)
  obtain ⟨oi, hoi, hi2⟩ := id hit
  obtain ⟨ol, hol, hl2⟩ := id hl
  refine rev_extend hh S hSi hSl ⟨oi, oth _ _ hSi.symm hoi, hi2⟩ ⟨ol, oth _ _ hSl.symm hol, hl2⟩ hne hn .none _ hS₂ (fun h' tk acc' c' hk hS' hacc => ?_)
  exact hR h' tk acc' c' (fun b o hb hb2 e => hk b o hb hb2 (oth b o hb e)) hS' hacc
theorem call_list_rev {it l : Addr} {items : Array Value} {Q : Value → Shared → Prop} (hh : A.handled = none) (hit : s.heap.IsRevIter it l ((items.size : Int) - 1)) (hl : s.heap.IsList l items) (hne : l ≠ it) (hn : items.size ≤ sizeLine)
    (hQ : ∀ h' tk acc' c', (∀ b o, b ≠ it → s.heap.get? b = some o → h'.get? b = some o) → h'.get? s.heap.objs.size = some { cls := .type "list", dict := none, data := .seq acc' c', slots := #[] } → ItemsOf (fun i v => items[items.size - 1 - i]? = some v) acc' items.size → Q (.ref s.heap.objs.size) { s with heap := h', toks := tk }) :
    wpAny (model prog w) A (call (.type "list") [.ref it]) Q E s := by
  refine callType_codes (Q₁ := fun obj s₁ => obj = .ref s.heap.objs.size ∧ s₁ = { s with heap := s.heap.push { cls := .type "list", data := .seq #[] } }) PySem.F.called_list (PySem.F.typeCall_list_1 _) PySem.F.entry_list_init
    (code_list_new _ ⟨rfl, rfl⟩) fun obj s₁ h₁ => ?_
  obtain ⟨rfl, rfl⟩ := h₁
  have hS : (s.heap.push { cls := .type "list", data := .seq #[] }).get? s.heap.objs.size = some { cls := .type "list", data := .seq #[] } := Heap.get?_push_size _ rfl
  obtain ⟨oi, hoi, hi2⟩ := id hit
  obtain ⟨ol, hol, hl2⟩ := id hl
  refine ⟨⟨_, hS, rfl⟩, PySem.F.args_list_init_2 _ _, rev_init (A := A.in1) (s := { s with heap := s.heap.push { cls := .type "list", data := .seq #[] } }) hh _ (Nat.ne_of_gt (Heap.lt_size hoi)) (Nat.ne_of_gt (Heap.lt_size hol)) ⟨oi, Heap.get?_push_of_some _ hoi, hi2⟩ (hl.push _) hne hn hS (fun h' tk acc' c' hk hS' hacc => ?_)⟩
  exact ⟨rfl, hQ h' tk acc' c' (fun b o hb e => hk b o (Nat.ne_of_lt (Heap.lt_size e)) hb (Heap.get?_push_of_some _ e)) hS' hacc⟩
end
section
open L2
variable {X : Cx} {xp : XP} {W : WX}
def tListRev (K : PySem.W.Frag) (te : TE) : TE := fun σ H Q => te σ H fun v H1 => ∃ (a : Addr) (xs : List V), v = .ref a ∧ SqL K H1 a xs ∧ ∀ q, H1 q = none → Q (.ref q) (upd H1 q (.lst xs.reverse))
theorem pe_listRev {e : Expr} {te : TE} {p p2 pos pos2 : Pos} (hc : X.calm = true) (hg : Gl X "list") (hm : X.mg "list" = none) (hg2 : Gl X "reversed") (hm2 : X.mg "reversed" = none) (he : PE X e te)
    (hs : starEach [e] X.env = (false, eval e X.env) :: starEach [] X.env := by rfl)
    (hs2 : starEach [.Call (.Name "reversed" p2) [e] [] pos2] X.env = (false, eval (.Call (.Name "reversed" p2) [e] [] pos2) X.env) :: starEach [] X.env := by rfl) :
    PE X (.Call (.Name "list" p) [.Call (.Name "reversed" p2) [e] [] pos2] [] pos) (tListRev X.K te) := by
  refine ⟨fun pins s σ H Q I h => ?_⟩
  refine Call_ (ld_blt I hg hm boot_list (PyProof.Rows.callWith_type1 (args_cons (Call_ (ld_blt I hg2 hm2 PyProof.Rows.boot_reversed (PyProof.Rows.callWith_type1 (args_cons (thn (he.run pins s σ H _ I h) fun u s1 ⟨v, H1, I1, r1, q1⟩ => args_nil ?_) hs) hs rfl))) hs2) hs2 rfl))
  obtain ⟨a, xs, ev, hq, q⟩ := q1
  subst ev
  obtain rfl : u = Value.ref a := r1
  obtain ⟨its, rv, p', hz⟩ := I1.list hq
  refine call_reversed_list p'.isList (args_nil ?_)
  have k0 : ∀ b o, s1.heap.get? b = some o → (s1.heap.push (revObj a ((its.toArray.size : Int) - 1))).get? b = some o := fun b o e => Heap.get?_push_of_some _ e
  have I2 : Inv X pins σ H1 { s1 with heap := s1.heap.push (revObj a ((its.toArray.size : Int) - 1)) } := I1.kept (t' := s1.toks) k0
  have hl := p'.isList
  obtain ⟨ol, hol, _⟩ := id hl
  have hne : a ≠ s1.heap.objs.size := Nat.ne_of_lt (Heap.lt_size hol)
  have hn : its.toArray.size ≤ sizeLine := by rw [List.size_toArray, ← rv.length]; exact hz
  refine call_list_rev (s := { s1 with heap := s1.heap.push (revObj a ((its.toArray.size : Int) - 1)) }) (I1.ok.hd hc) ⟨_, Heap.get?_push_size _ rfl, rfl, rfl⟩ (hl.push _) hne hn fun h' tk acc c' hk hS hi => ?_
  refine ⟨.ref (s1.heap.push (revObj a ((its.toArray.size : Int) - 1))).objs.size, upd H1 (s1.heap.push (revObj a ((its.toArray.size : Int) - 1))).objs.size (.lst xs.reverse),
    I2.turnedNew (t' := tk) (ch := [s1.heap.objs.size]) (fun b o hb e => hk b o (fun z => hb (by simp [z])) e) (fun b hb => ?_) (Nat.le_refl _) (show ObjOk X.prog X.w _ _ _ (.lst xs.reverse) from ⟨by rw [List.length_reverse]; exact hz, acc.toList, c', vals_rev rv hi, ?_⟩), rfl, q _ (I2.hok.fresh (Nat.le_refl _))⟩
  · rw [List.mem_singleton.mp hb]; exact I1.fpOk (H' := H1) (Nat.le_refl _) (I1.hok.fresh (Nat.le_refl _))
  · rw [Array.toArray_toList]; exact hS
/-- list(reversed(xs)), xs a list -/
def cListRev (o : Opd) : CE := fun env => (o.ev env).bind fun l env1 => match l.get env1 with
  | some (.list ds) => .ok (.own false (.list ds.reverse)) env1
  | _ => .no
theorem de_listRev {e : Expr} {o : Opd} {te : TE} {p p2 pos pos2 : Pos} (hc : X.calm = true) (hg : Gl X "list") (hm : X.mg "list" = none) (hg2 : Gl X "reversed") (hm2 : X.mg "reversed" = none) (h : DO X xp W e o te)
    (hs : starEach [e] X.env = (false, eval e X.env) :: starEach [] X.env := by rfl)
    (hs2 : starEach [.Call (.Name "reversed" p2) [e] [] pos2] X.env = (false, eval (.Call (.Name "reversed" p2) [e] [] pos2) X.env) :: starEach [] X.env := by rfl) :
    DE X xp W (.Call (.Name "list" p) [.Call (.Name "reversed" p2) [e] [] pos2] [] pos) (cListRev o) (tListRev X.K te) := by
  refine ⟨pe_listRev hc hg hm hg2 hm2 h.pe hs hs2, fun en σ H F env Q w q => ?_⟩
  unfold cListRev at q
  refine h.run w (fun x env1 H' F' cls d g w' s y => ?_) (fun g => ?_) fun l env1 v H1 F1 g w1 s1 l1 => ?_
  · rw [g] at q; exact q H' F' cls d w' s y
  · rw [g] at q; exact q
  · rw [g] at q; simp only [Res.bind] at q
    cases g1 : l.get env1 with
    | none => rw [g1] at q; exact q.elim
    | some d =>
      rw [g1] at q
      cases d with
      | list ds =>
        obtain ⟨a, vs, rfl, r1, r2⟩ := (RB.of w1 l1 g1).lst w1.sub
        exact ⟨a, vs, rfl, .inl r1, fun p hp => OPost.newL (b := false) w1.sub (.of w1 s1 q) r2.reverse p hp⟩
      | _ => exact q.elim
end
end DL

/-! DNM: repr of data in which dicts with one text key stand. -/
namespace DL
open PySem PySem.Spec PyProof.Rows L2
mutual
def canX : PyData → Bool
  | .list ds => canXs ds
  | .tuple ds => canXs ds
  | .dict [(.str _, .int _)] => true
  | .dict _ => false
  | _ => true
def canXs : List PyData → Bool
  | [] => true
  | d :: ds => canX d && canXs ds
end
theorem canX_dict {kvs : List (PyData × PyData)} (h : canX (.dict kvs) = true) : ∃ k i, kvs = [(.str k, .int i)] := by
  unfold canX at h
  split at h
  · rename_i e; cases e
  · rename_i e; cases e
  · rename_i e; injection e with e; exact ⟨_, _, e⟩
  · cases h
  · rename_i e; exact (e _ rfl).elim
def showX (d : PyData) : Bool := showOk d || (canX d && d.showable && decide (d.depth ≤ 40) && decide (d.shown.length ≤ lim))
def oReprX : OpN
  | [d] => if showX d then .val (.frz (.str d.shown)) else .no
  | _ => .no
def rReprD (K : PySem.W.Frag) : List V → Hp → VK → Prop := fun xs H Q => ∃ (x : V) (d : PyData), xs = [x] ∧ RD K H x d ∧ canX d = true ∧ d.showable = true ∧ d.depth ≤ 40 ∧ d.shown.length ≤ lim ∧ Q (.str d.shown) H
def rReprX (K : PySem.W.Frag) : List V → Hp → VK → Prop := fun xs H Q => rRepr K xs H Q ∨ rReprD K xs H Q
theorem dic1_reads {X : Cx} {pins : List (Addr × Obj)} {σ : L2.St} {H : Hp} {s : Shared} {a : Addr} {k : Str} {i : Int} (I : Inv X pins σ H s) (h : Rd H a (.dK [(.inr k, .int i)])) : (a == sysModules) = false ∧ ∃ o es n t1 t2, s.heap.get? a = some o ∧ o.cls = .type "dict" ∧ o.data = .dict es n ∧ es.toList.map (·.key) = [.str k t1] ∧ es.toList.map (·.val) = [.int i t2] := by
  obtain ⟨_, lo, vs, kv, o, es, ep, ho, hx, hd, _, hp, _⟩ := h.ok I.hok
  refine ⟨lo, o, es, ep, ?_⟩
  obtain ⟨k2, v2, rfl, e1, r1⟩ : ∃ k2 v2, vs = [(k2, v2)] ∧ Sum.inr k = k2 ∧ RelV (.int i) v2 := by
    cases kv with
    | cons h1 h2 => cases h2; exact ⟨_, _, rfl, h1.1, h1.2⟩
  subst e1
  obtain ⟨t2, rfl⟩ := r1
  have go : ∀ L : List DictEntry, PySem.Pairs (mixKind X.prog X.w) L [(Sum.inr k, Value.int i t2)] → ∃ t1, L.map (·.key) = [.str k t1] ∧ L.map (·.val) = [.int i t2] := by
    intro L hp
    cases hp with
    | cons h1 h2 h3 =>
      cases h3
      have h1' : keyIs (Sum.inr k) _ = true := h1
      rcases keyIs_shape h1' with ⟨i, t, e, _⟩ | ⟨x, t, e, e2⟩
      · cases e
      · cases e
        exact ⟨t, by rw [List.map_cons, List.map_nil]; exact congrArg (fun x => [x]) e2, by rw [List.map_cons, List.map_nil, h2]⟩
  obtain ⟨t1, g1, g2⟩ := go _ hp
  exact ⟨t1, t2, ho, hx.1, hd, g1, g2⟩
theorem dic1_rd {K : PySem.W.Frag} {H : Hp} {v : V} {k : Str} {i : Int} (rd : RD K H v (.dict [(.str k, .int i)])) : ∃ a, v = .ref a ∧ Rd H a (.dK [(.inr k, .int i)]) := by
  generalize hd : PyData.dict [(PyData.str k, PyData.int i)] = d at rd
  cases rd with
  | @dK a kvs ds n kk r =>
    injection hd with hd
    have hl := r.length
    refine ⟨a, rfl, ?_⟩
    cases kvs with
    | nil => cases hd
    | cons p kvs =>
      cases ds with
      | nil => cases hd
      | cons d2 ds =>
        rw [List.map_cons, List.zip_cons_cons] at hd
        injection hd with e1 e2
        injection e1 with e3 e4
        cases kvs with
        | cons p2 kvs =>
          cases ds with
          | nil => simp at hl
          | cons d3 ds => cases e2
        | nil =>
          obtain ⟨k2, v2⟩ := p
          have r1 : RD K H v2 d2 := by cases r with | cons a b => exact a
          rw [← e4] at r1
          have hv : v2 = .int i := by cases r1; rfl
          subst hv
          cases k2 with
          | inl j => cases e3
          | inr x =>
            have : k = x := by injection e3
            subst this
            exact kk
  | @dT a kvs ds kk r =>
    injection hd with hd
    cases kvs with
    | nil => cases hd
    | cons p kvs =>
      cases ds with
      | nil => cases hd
      | cons d2 ds =>
        rw [List.map_cons, List.zip_cons_cons] at hd
        injection hd with e1 e2
        injection e1 with e3 e4
        cases e3
  | _ => cases hd
section
variable {X : Cx} {pins : List (Addr × Obj)} {σ : L2.St} {H : Hp} {s : Shared}
mutual
theorem rk_of (I : Inv X pins σ H s) : ∀ (d : PyData) (v : V) (u : Value), RD X.K H v d → RelV v u → canX d = true → d.showable = true → d.shown.length ≤ sizeLine →
    ∃ as bs, Reads s.heap u d as ∧ ReadAtMost s.heap d.depth bs ∧ ReprK X.prog X.w bs s.heap d.depth u d.shown
  | .none, _, _, h, r, _, hs, hz => by
    cases h; cases r
    have h := ReprK.of_reads (prog := X.prog) (w := X.w) (h₀ := s.heap) Reads.none hs (fun e => by cases e) hz
    obtain ⟨bs, h1, h2⟩ := h
    exact ⟨_, bs, Reads.none, h1, h2⟩
  | .bool b, _, _, h, r, _, hs, hz => by
    cases h; cases r
    obtain ⟨bs, h1, h2⟩ := ReprK.of_reads (prog := X.prog) (w := X.w) (h₀ := s.heap) (Reads.bool b) hs (fun e => by cases e) hz
    exact ⟨_, bs, Reads.bool b, h1, h2⟩
  | .int i, _, _, h, r, _, hs, hz => by
    cases h
    obtain ⟨t, rfl⟩ := r
    obtain ⟨bs, h1, h2⟩ := ReprK.of_reads (prog := X.prog) (w := X.w) (h₀ := s.heap) (Reads.int i t) hs (fun e => by cases e) hz
    exact ⟨_, bs, Reads.int i t, h1, h2⟩
  | .str x, _, _, h, r, _, hs, hz => by
    cases h
    obtain ⟨t, rfl⟩ := r
    obtain ⟨bs, h1, h2⟩ := ReprK.of_reads (prog := X.prog) (w := X.w) (h₀ := s.heap) (Reads.str x t) hs (fun e => by cases e) hz
    exact ⟨_, bs, Reads.str x t, h1, h2⟩
  | .list ds, _, _, h, r, hc, hs, hz => by
    cases h with
    | lst hr ha =>
      cases r
      obtain ⟨its, rv, ⟨o, n, ho, hcl, _, hd⟩, _⟩ := I.list (.inl hr)
      have hz' : (listText (PyData.shownAll ds)).length ≤ sizeLine := by simpa only [PyData.shown] using hz
      obtain ⟨as, bs, h4, hb, hk⟩ := rks_of I ds _ its ha rv (by unfold canX at hc; exact hc) (by simpa [PyData.showable] using hs) (fun t ht => Nat.le_trans (listText_mem_le ht) hz')
      have rd := Reads.list ho hcl hd h4
      have hna := not_mem_of_deeper rd (by simp only [PyData.depth]; omega) hb
      refine ⟨_, _, rd, ReadAtMost.cons rd (by simp only [PyData.depth]; omega) hb, ?_⟩
      simp only [PyData.depth, PyData.shown]
      cases its with
      | nil =>
        cases h4
        simp only [PyData.shownAll, listText_nil]
        exact ReprK.listEmpty ho hcl hd
      | cons x l => exact ReprK.list ho hcl hd hna (by simpa using hk.length_eq) (fun i y e => hk.item i y (by simpa using e))
  | .tuple ds, _, _, h, r, hc, hs, hz => by
    cases h with
    | tup hr ha =>
      cases r
      obtain ⟨its, rv, ⟨o, ho, hcl, n, hd⟩, _⟩ := I.tuple (.inl (.inl hr))
      have hz' : (tupleText (PyData.shownAll ds)).length ≤ sizeLine := by simpa only [PyData.shown] using hz
      obtain ⟨as, bs, h4, hb, hk⟩ := rks_of I ds _ its ha rv (by unfold canX at hc; exact hc) (by simpa [PyData.showable] using hs) (fun t ht => Nat.le_trans (tupleText_mem_le ht) hz')
      have rd := Reads.tuple ho hcl hd h4
      have hna := not_mem_of_deeper rd (by simp only [PyData.depth]; omega) hb
      refine ⟨_, _, rd, ReadAtMost.cons rd (by simp only [PyData.depth]; omega) hb, ?_⟩
      simp only [PyData.depth, PyData.shown]
      exact ReprK.tuple ho hcl hd hna hk
  | .dict kvs, v, u, h, r, hc, hs, hz => by
    obtain ⟨k, i, rfl⟩ : ∃ k i, kvs = [(.str k, .int i)] := canX_dict hc
    obtain ⟨a, rfl, hr⟩ := dic1_rd h
    cases r
    obtain ⟨lo, o, es, n, t1, t2, h1, h2, h3, h4, h5⟩ := dic1_reads I hr
    have rd : Reads s.heap (.ref a) (.dict [(.str k, .int i)]) (a :: ([] ++ []) ++ ([] ++ [])) := .dict h1 h2 h3 (by rw [h4]; exact .cons (.str k t1) .nil) (by rw [h5]; exact .cons (.int i t2) .nil)
    obtain ⟨bs, q1, q2⟩ := ReprK.of_reads (prog := X.prog) (w := X.w) rd hs (fun _ hm => by
      simp at hm
      rw [← hm] at lo
      simp at lo) hz
    exact ⟨_, bs, rd, q1, q2⟩
theorem rks_of (I : Inv X pins σ H s) : ∀ (ds : List PyData) (vs : List V) (us : List Value), RDs X.K H vs ds → Vals vs us → canXs ds = true → PyData.showableAll ds = true → (∀ t ∈ PyData.shownAll ds, t.length ≤ sizeLine) →
    ∃ as bs, ReadsAll s.heap us ds as ∧ ReadAtMost s.heap (PyData.depthAll ds) bs ∧ ReprAllK X.prog X.w bs s.heap (PyData.depthAll ds) us (PyData.shownAll ds)
  | [], _, _, h, r, _, _, _ => by
    cases h; cases r
    exact ⟨_, [], ReadsAll.nil, (fun _ h => nomatch h), by simp only [PyData.shownAll]; exact .nil⟩
  | d :: ds, _, _, h, r, hc, hs, hz => by
    cases h with
    | cons g1 g2 =>
      cases r with
      | cons r1 r2 =>
        unfold canXs at hc
        rw [Bool.and_eq_true] at hc
        have hs' : d.showable = true ∧ PyData.showableAll ds = true := by simpa [PyData.showableAll] using hs
        obtain ⟨as, b1, a1, hb1, k1⟩ := rk_of I d _ _ g1 r1 hc.1 hs'.1 (hz _ (by simp only [PyData.shownAll]; exact List.mem_cons_self ..))
        obtain ⟨as2, b2, a2, hb2, k2⟩ := rks_of I ds _ _ g2 r2 hc.2 hs'.2 (fun t ht => hz t (by simp only [PyData.shownAll]; exact List.mem_cons_of_mem _ ht))
        refine ⟨_, b1 ++ b2, ReadsAll.cons a1 a2, ?_, ?_⟩
        · simp only [PyData.depthAll]
          exact (hb1.mono (Nat.le_max_left _ _)).append (hb2.mono (Nat.le_max_right _ _))
        · simp only [PyData.depthAll, PyData.shownAll]
          exact .cons ((k1.more fun b hb => List.mem_append_left _ hb).level_le (Nat.le_max_left _ _)) (k2.more_le (fun b hb => List.mem_append_right _ hb) (Nat.le_max_right _ _))
end
end
theorem cr_reprX {X : Cx} (hg : X.A.guards = some []) (hu : X.A.units + 64 < cLine) : CallR X (.builtin "repr") (rReprX X.K) := by
  intro pins s σ H xs us Q I r h
  rcases h with h | ⟨x, d, rfl, hr, hc, o2, o3, o4, q⟩
  · exact cr_repr hg hu pins s σ H xs us Q I r h
  · cases r with
    | cons r1 r2 =>
      rename_i u us
      cases r2
      have hz : d.shown.length ≤ sizeLine := lim_le o4
      have fin : ∀ h' (t : Tok) tk, (∀ b o, s.heap.get? b = some o → h'.get? b = some o) → EP X pins σ Q (.str d.shown t) { s with heap := h', toks := tk } := fun h' t tk k => ⟨.str d.shown, H, I.kept (t' := tk) k, ⟨t, rfl⟩, q⟩
      have hu' : X.A.units + 1 + d.depth < cLine := by omega
      cases d with
      | none => cases hr; cases r1; exact PySem.P.repr_of_none (fin s.heap _ _ (fun _ _ z => z))
      | bool b => cases hr; cases r1; exact PySem.P.repr_of_bool (fin s.heap _ _ (fun _ _ z => z))
      | int i => cases hr; obtain ⟨t, rfl⟩ := r1; exact PySem.P.repr_of_int (by simpa [PyData.showable] using o2) (fin s.heap _ _ (fun _ _ z => z))
      | str y => cases hr; obtain ⟨t, rfl⟩ := r1; exact PySem.P.repr_of_str (fin s.heap _ _ (fun _ _ z => z)) hz
      | list ds =>
        cases hr with
        | lst hr ha =>
          cases r1
          obtain ⟨its, rv, ⟨o, n, ho, hcl, _, hd⟩, _⟩ := I.list (.inl hr)
          have hz' : (listText (PyData.shownAll ds)).length ≤ sizeLine := by simpa only [PyData.shown] using hz
          obtain ⟨as, bs, h4, hb, hk⟩ := rks_of I ds _ its ha rv (by unfold canX at hc; exact hc) (by simpa [PyData.showable] using o2) (fun t ht => Nat.le_trans (listText_mem_le ht) hz')
          have rd := Reads.list ho hcl hd h4
          have hna := not_mem_of_deeper rd (by simp only [PyData.depth]; omega) hb
          simp only [PyData.depth] at hu'
          simp only [PyData.shown] at fin
          refine call_repr_slot (by omega) ⟨o, ho, hcl⟩ F.slot_list_repr.toG ?_
          cases its with
          | nil =>
            cases h4
            simp only [PyData.shownAll, listText_nil] at fin
            exact call_list_repr_empty ⟨o, ho, hcl⟩ ho hd ⟨_, _, rfl, fin s.heap _ _ fun _ _ e => e⟩
          | cons x l =>
            exact call_list_reprK ho hcl hd hna (by simpa using hk.length_eq) (fun i y e => hk.item i y (by simpa using e)) hg (fun b _ => Clear.nil b) hu' (fun _ _ z => z) (fun h' t tk k => ⟨_, _, rfl, fin h' t tk k⟩) hz'
      | tuple ds =>
        cases hr with
        | tup hr ha =>
          cases r1
          obtain ⟨its, rv, ⟨o, ho, hcl, n, hd⟩, _⟩ := I.tuple (.inl (.inl hr))
          have hz' : (tupleText (PyData.shownAll ds)).length ≤ sizeLine := by simpa only [PyData.shown] using hz
          obtain ⟨as, bs, h4, hb, hk⟩ := rks_of I ds _ its ha rv (by unfold canX at hc; exact hc) (by simpa [PyData.showable] using o2) (fun t ht => Nat.le_trans (tupleText_mem_le ht) hz')
          have rd := Reads.tuple ho hcl hd h4
          have hna := not_mem_of_deeper rd (by simp only [PyData.depth]; omega) hb
          simp only [PyData.depth] at hu'
          simp only [PyData.shown] at fin
          refine call_repr_slot (by omega) ⟨o, ho, hcl⟩ F.slot_tuple_repr ?_
          exact call_tuple_reprK ho hcl hd hna hk hg (fun b _ => Clear.nil b) hu' (fun _ _ z => z) (fun h' t tk k => ⟨_, _, rfl, fin h' t tk k⟩) hz'
      | dict kvs =>
        obtain ⟨k, i, rfl⟩ : ∃ k i, kvs = [(.str k, .int i)] := canX_dict hc
        obtain ⟨a, rfl, hr2⟩ := dic1_rd hr
        cases r1
        obtain ⟨lo, o, es, n, t1, t2, h1, h2, h3, h4, h5⟩ := dic1_reads I hr2
        have rd : Reads s.heap (.ref a) (.dict [(.str k, .int i)]) (a :: ([] ++ []) ++ ([] ++ [])) := .dict h1 h2 h3 (by rw [h4]; exact .cons (.str k t1) .nil) (by rw [h5]; exact .cons (.int i t2) .nil)
        refine repr_of_reads' rd o2 (fun _ hm => ?_) hg (by omega) (fun _ _ z => z) (fun h' t tk kp => fin h' t tk kp) hz
        simp at hm
        rw [← hm] at lo
        simp at lo
theorem ok_reprX {K : PySem.W.Frag} : OpNOk K (rReprX K) oReprX := by
  intro xs ds H F Q s r p
  match ds, p with
  | [], p => exact p.elim
  | _ :: _ :: _, p => exact p.elim
  | [d], p =>
    have e : oReprX [d] = if showX d then .val (.frz (.str d.shown)) else .no := rfl
    rw [e] at p
    cases ok : showX d with
    | false => rw [ok] at p; exact p.elim
    | true =>
      rw [ok] at p
      unfold showX at ok
      rw [Bool.or_eq_true] at ok
      rcases ok with ok | ok
      · refine .inl (ok_repr xs [d] H F Q s r ?_)
        have e2 : oRepr [d] = if showOk d then .val (.frz (.str d.shown)) else .no := rfl
        rw [e2, ok]; exact p
      · obtain ⟨v, rfl, rv⟩ := RBs.one r
        simp only [Bool.and_eq_true, decide_eq_true_eq] at ok
        obtain ⟨⟨⟨o1, o2⟩, o3⟩, o4⟩ := ok
        exact .inr ⟨v, d, rfl, rv.rd s, o1, o2, o3, o4, OPost.str s p⟩
end DL

/-! DNO: "..".join(a list of texts). -/
namespace DL
open PySem PySem.Spec PyProof.Rows L2
def strsJ : List PyData → Option (List Str)
  | [] => some []
  | .str x :: ds => (strsJ ds).map (x :: ·)
  | _ :: _ => none
theorem strsJ_rds {K : PySem.W.Frag} {F : Hp} : ∀ {vs : List V} {ds : List PyData} {ys : List Str}, RDs K F vs ds → strsJ ds = some ys → vs = ys.map V.str
  | _, _, ys, .nil, h => by cases h; rfl
  | _, _, ys, .cons (d := d) a b, h => by
    cases d with
    | str x =>
      have h : (strsJ _).map (x :: ·) = some ys := h
      obtain ⟨zs, h1, rfl⟩ := Option.map_eq_some_iff.mp h
      cases a
      rw [strsJ_rds b h1]; rfl
    | _ => cases h
def cJoin (s : Str) (o : Opd) : CE := fun env => (o.ev env).bind fun l env1 => match l.get env1 with
  | some (.list ds) => match strsJ ds with
    | some ys => if (ys.map (·.length)).sum + ys.length * s.length ≤ 16777216 then .ok (.frz (.str (Txt.join s ys))) env1 else .no
    | none => .no
  | _ => .no
def rJoin (K : PySem.W.Frag) : V → List V → Hp → VK → Prop := fun x xs H Q => ∃ a p, ∃ ys : List Str, x = .str a ∧ xs = [.ref p] ∧ (SqL K H p (ys.map V.str) ∨ SqT K H p (ys.map V.str)) ∧ (ys.map (·.length)).sum + ys.length * a.length ≤ 16777216 ∧ Q (.str (Txt.join a ys)) H
section
variable {X : Cx} {xp : XP} {W : WX} {K : PySem.W.Frag}
theorem de_join {s : Str} {oe e : Expr} {o : Opd} {to te : TE} {apos pos : Pos} (ho : DE X xp W oe (cK (.str s)) to) (he : DO X xp W e o te) (hs : starEach [e] X.env = [(false, eval e X.env)] := by rfl) (hbase : attributeBase oe "join" X.env (eval oe X.env) = eval oe X.env := by rfl) (hline : (apos.endLine == pos.line) = true := by rfl) (eK : X.K = K := by rfl) :
    DE X xp W (.Call (.Attribute oe "join" apos) [e] [] pos) (cJoin s o) (tM1 (rJoin K) to te) := by
  subst eK
  refine ⟨pe_join ho.1 he.pe hs hbase hline, fun en σ H F env Q w q => ?_⟩
  refine ho.2 en σ H F env _ w ?_
  intro v H0 F0 w0 s0 r0
  have hv : v = .str s := by cases (show RD X.K F0 v (.str s) from r0); rfl
  subst hv
  refine ⟨⟨s, rfl⟩, ?_⟩
  unfold cJoin at q
  refine he.run w0 (fun x env1 H' F' cls d g w' s y => ?_) (fun g => ?_) fun l env1 v H1 F1 g w1 s1 l1 => ?_
  · rw [g] at q; exact q H' F' cls d w' (s0.trans s) y
  · rw [g] at q; exact q
  · rw [g] at q; simp only [Res.bind] at q
    cases g1 : l.get env1 with
    | none => rw [g1] at q; exact q.elim
    | some d =>
      rw [g1] at q
      cases d with
      | list ds =>
        obtain ⟨a, vs, rfl, r1, r2⟩ := (RB.of w1 l1 g1).lst w1.sub
        dsimp only at q
        cases g2 : strsJ ds with
        | none => rw [g2] at q; exact q.elim
        | some ys =>
          rw [g2] at q
          have e := strsJ_rds r2 g2
          subst e
          dsimp only at q
          by_cases hz : (ys.map (·.length)).sum + ys.length * s.length ≤ 16777216
          · rw [if_pos hz] at q
            exact ⟨s, a, ys, rfl, rfl, .inl (.inl r1), hz, q _ H1 F1 w1 (s0.trans s1) (.str _)⟩
          · rw [if_neg hz] at q; exact q.elim
      | _ => exact q.elim
end
end DL

/-! DNP: xs[::-1] of a list. -/
namespace DL
open PySem PySem.Spec PyProof.Rows L2
section
variable {X : Cx} {xp : XP} {W : WX}
theorem de_revL {e : Expr} {o : Opd} {te : TE} {k : Nat} {p1 p2 p3 pos : Pos} (h : DO X xp W e o te) : DE X xp W (.Subscript e (.Slice none none (some (.UnaryOp .USub (.Constant (.int 1) k p1) p2)) p3) pos) (cListRev o) (tRevL X.K te) := by
  refine ⟨pe_revL h.pe, fun en σ H F env Q w q => ?_⟩
  unfold cListRev at q
  refine h.run w (fun x env1 H' F' cls d g w' s y => ?_) (fun g => ?_) fun l env1 v H1 F1 g w1 s1 l1 => ?_
  · rw [g] at q; exact q H' F' cls d w' s y
  · rw [g] at q; exact q
  · rw [g] at q; simp only [Res.bind] at q
    cases g1 : l.get env1 with
    | none => rw [g1] at q; exact q.elim
    | some d =>
      rw [g1] at q
      cases d with
      | list ds =>
        obtain ⟨a, vs, rfl, r1, r2⟩ := (RB.of w1 l1 g1).lst w1.sub
        exact ⟨a, vs, rfl, .inl r1, fun p hp => OPost.newL (b := false) w1.sub (.of w1 s1 q) r2.reverse p hp⟩
      | _ => exact q.elim
end
end DL

/-! DNQ: xs[::-1] of a list or a tuple. -/
namespace DL
open PySem PySem.Spec PyProof.Rows L2 HT
section
variable {prog : Program} {w : World} {A : Around} {E : Value → Shared → Prop} {s : Shared}
theorem places_rev (n : Nat) : Builtin.Slice.slicePlaces ((n : Int) - 1) (-1) (-1) = n := by
  unfold Builtin.Slice.slicePlaces
  have h1 : ¬ (-1 : Int) > 0 := by omega
  have h2 : (-(-1) : Int) = 1 := rfl
  simp only [h1, if_false, h2, Int.ediv_one]
  split <;> omega
theorem applied_rev {sl : Addr} {vs : Value} {n : Nat} {Q : Int × Int × Nat → Shared → Prop} (hs : s.heap.IsSliceOf sl .none .none vs) (ps : IsPart vs (some (-1)))
    (h : Q ((n : Int) - 1, -1, n) s) : wpAny (model prog w) A (Builtin.Slice.sliceApplied (.ref sl) (pure (n : Int))) Q E s := by
  obtain ⟨os, hos, hcs, hds⟩ := id hs
  unfold Builtin.Slice.sliceApplied Builtin.Slice.sliceFields
  refine wpAny_bind (wpAny_bind (wpAny_field hos hds (x := .none) rfl (wpAny_bind (wpAny_field hos hds (x := .none) rfl (wpAny_bind (wpAny_field hos hds (x := vs) rfl (wpAny_pure ?_)))))))
  refine wpAny_bind (slicePart_ ps ?_)
  show wpAny _ _ (if ((-1 : Int) == 0) = true then _ else _) _ _ s
  rw [if_neg (by decide)]
  refine wpAny_bind (slicePart_ .none (wpAny_bind (slicePart_ .none (wpAny_bind (wpAny_pure ?_)))))
  show wpAny _ _ (pure (((n : Int) - 1), (-1 : Int), Builtin.Slice.slicePlaces ((n : Int) - 1) (-1) (-1))) _ _ s
  rw [places_rev]
  exact wpAny_pure h
theorem pick_rev (xs : Array Value) : ((List.range xs.size).filterMap fun (m : Nat) => xs[(((xs.size : Int) - 1) + (m : Int) * (-1)).toNat]?).toArray = xs.toList.reverse.toArray := by
  congr 1
  have e : (List.range xs.size).filterMap (fun (m : Nat) => xs[(((xs.size : Int) - 1) + (m : Int) * (-1)).toNat]?) = (List.range xs.size).filterMap fun m => xs[xs.size - 1 - m]? := by
    refine congrArg (fun f => List.filterMap f (List.range xs.size)) (funext fun m => ?_)
    have : (((xs.size : Int) - 1) + (m : Int) * (-1)).toNat = xs.size - 1 - m := by omega
    rw [this]
  rw [e]
  have h := PySem.W.krv_range xs.size
  have h2 : (List.range xs.size).filterMap (fun m => xs[xs.size - 1 - m]?) = ((List.range xs.size).map fun k => xs.size - 1 - k).filterMap (xs[·]?) := by rw [List.filterMap_map]; rfl
  rw [h2, h, List.filterMap_reverse, PySem.W.krv_all]
theorem getItem_tuple_rev {t sl : Addr} {items : Array Value} {vs : Value} {Q : Value → Shared → Prop} (ht : IsTup s.heap t items) (hs : s.heap.IsSliceOf sl .none .none vs) (ps : IsPart vs (some (-1)))
    (h : Q (.ref s.heap.objs.size) { s with heap := s.heap.push { cls := .type "tuple", data := .seq items.toList.reverse.toArray } })
    (hsz : items.size ≤ sizeLine) : wpAny (model prog w) A (getItem (.ref t) (.ref sl)) Q E s := by
  have htake : sizeOk (.seq items.toList.reverse.toArray) := by
    show items.toList.reverse.toArray.size ≤ sizeLine
    rw [List.size_toArray, List.length_reverse, Array.length_toList]
    exact hsz
  obtain ⟨os, hos, hcs, hds⟩ := id hs
  have hTs : s.TypeIs (.ref sl) "slice" := ⟨os, hos, hcs⟩
  unfold getItem
  try with_reducible refine wpAny_holding ?_
  first | refine wpAny_bind (wpAny_pure ?_) | skip
  refine wpAny_bind (wpAny_sequenceKey ht.typeIs (by decide) ?_)
  refine wpAny_bind (wpAny_callSpecial?_slot (name := Str.ofString "__getitem__") ht.typeIs PyProof.Rows.slot_tuple_getitem
    (wpAny_call_entry PyProof.Rows.slot_tuple_getitem ht.typeIs entry_tuple_getitem ?_ (args_tuple_getitem _ _)))
  show wpAny _ _ (Builtin.Tuple.tupleItemsOf (.ref t) >>= _) _ _ s
  refine wpAny_bind (tupleItemsOf_ ht ?_)
  refine wpAny_bind (wpAny_typeOf hTs ?_)
  rw [if_pos (by decide)]
  refine wpAny_bind (applied_rev hs ps ?_)
  have hno : ¬ ((((items.size : Int) - 1) == 0 && (-1 : Int) == 1 && items.size == items.size) = true) := by
    intro q
    rw [Bool.and_eq_true, Bool.and_eq_true] at q
    exact absurd q.1.2 (by decide)
  show wpAny _ _ (if (((items.size : Int) - 1) == 0 && (-1 : Int) == 1 && items.size == items.size) = true then _ else _) _ _ s
  rw [if_neg hno, pick_rev]
  first
    | exact wpAny_bind (m := Builtin.Tuple.tupleExact _) (wpAny_newObj_type (wpAny_pure ⟨_, rfl, wpAny_pure h⟩) htake)
    | exact wpAny_bind (m := Builtin.Tuple.tupleExact _) (wpAny_newObj_type (wpAny_bind (wpAny_pure (wpAny_pure ⟨_, rfl, wpAny_pure h⟩))) htake)
    | exact wpAny_bind (wpAny_bind (m := Builtin.Tuple.tupleExact _) (wpAny_newObj_type (wpAny_pure (wpAny_pure ⟨_, rfl, wpAny_pure h⟩)) htake))
    | exact wpAny_bind (wpAny_bind (m := Builtin.Tuple.tupleExact _) (wpAny_newObj_type (wpAny_pure ⟨_, rfl, wpAny_pure h⟩) htake))
end
section
variable {X : Cx}
def tRevA (K : PySem.W.Frag) (te : TE) : TE := fun σ H Q => te σ H fun x H1 =>
  (∃ a xs, x = .ref a ∧ SqL K H1 a xs ∧ ∀ p, H1 p = none → Q (.ref p) (upd H1 p (.lst xs.reverse))) ∨
  (∃ a xs, x = .ref a ∧ SqT K H1 a xs ∧ ∀ p, H1 p = none → Q (.ref p) (upd H1 p (.tup xs.reverse)))
theorem pe_revA {e : Expr} {te : TE} {k : Nat} {p1 p2 p3 pos : Pos} (he : PE X e te) : PE X (.Subscript e (.Slice none none (some (.UnaryOp .USub (.Constant (.int 1) k p1) p2)) p3) pos) (tRevA X.K te) := by
  refine ⟨fun pins s σ H Q I h => ?_⟩
  refine Subscript_ (thn (he.run pins s σ H _ I h) fun v s1 ⟨x, H1, I1, r1, q1⟩ => ?_)
  have hst : PO X (some (.UnaryOp .USub (.Constant (.int 1) k p1) p2)) (tPart (tUn (rU fun i => .int (-i)) (tC (.int 1)))) := po_some (pe_un un_neg pe_int)
  refine wpAny_Slice (thn (po_none.run pins s1 σ H1 (fun o H2 => o = none ∧ H2 = H1) I1 ⟨rfl, rfl⟩) fun vl s2 ⟨l, H2, I2, pl, el, e2⟩ => ?_)
  subst el e2
  refine thn (po_none.run pins s2 σ H2 (fun o H3 => o = none ∧ H3 = H2) I2 ⟨rfl, rfl⟩) fun vu s3 ⟨u, H3, I3, pu, eu, e3⟩ => ?_
  subst eu e3
  refine thn (hst.run pins s3 σ H3 (fun o H4 => o = some (-1) ∧ H4 = H3) I3 ⟨1, rfl, -1, rfl, rfl, rfl⟩) fun vs s4 ⟨o, H4, I4, ps, eo, e4⟩ => ?_
  subst eo e4
  have I5 : Inv X pins σ H4 { s4 with heap := s4.heap.push { cls := .type "slice", data := .fields #[vl, vu, vs] } } := I4.kept (t' := s4.toks) fun b ob q => Heap.get?_push_of_some _ q
  rcases q1 with ⟨a, xs, ex, hx, q⟩ | ⟨a, xs, ex, hx, q⟩
  · subst ex
    cases r1
    obtain ⟨its, r, ht, hz⟩ := I5.list hx
    have hlen := r.length
    show wpAny (model X.prog X.w) X.A (subscriptTail e (.Slice none none (some (.UnaryOp .USub (.Constant (.int 1) k p1) p2)) p3) (.ref a) (.ref s4.heap.objs.size)) (EP X pins σ Q) X.xe { s4 with heap := s4.heap.push { cls := .type "slice", data := .fields #[vl, vu, vs] } }
    refine tail_any (ops := [.ref a, .ref s4.heap.objs.size]) ht.isList.typeIs (PySem.slot_list_getitem.lookup) ?_ (by with_unfolding_all rfl)
    refine wpAny_getItem_list_slice ht.isList (Heap.IsSliceOf.new _ vl vu vs) pl pu ps (by decide) ?_ (by rw [List.size_toArray]; omega)
    rw [PySem.W.krv_pick]
    refine ⟨.ref _, _, I5.laid (t' := s4.toks) (o := .lst xs.reverse) (fun b ob q => Heap.get?_push_of_some _ q) (Nat.le_refl _) ?_, rfl, q _ (I5.hok.fresh (Nat.le_refl _))⟩
    exact ⟨by rw [List.length_reverse]; exact hz, _, 0, r.reverse, Heap.get?_push_size _ rfl⟩
  · subst ex
    cases r1
    obtain ⟨its, r, ht, hz⟩ := I5.tuple hx
    have hlen := r.length
    cases pl
    cases pu
    show wpAny (model X.prog X.w) X.A (subscriptTail e (.Slice none none (some (.UnaryOp .USub (.Constant (.int 1) k p1) p2)) p3) (.ref a) (.ref s4.heap.objs.size)) (EP X pins σ Q) X.xe { s4 with heap := s4.heap.push { cls := .type "slice", data := .fields #[.none, .none, vs] } }
    refine tail_any (ops := [.ref a, .ref s4.heap.objs.size]) ht.typeIs (PyProof.Rows.slot_tuple_getitem.lookup) ?_ (by with_unfolding_all rfl)
    refine getItem_tuple_rev ht (Heap.IsSliceOf.new _ .none .none vs) ps ?_ (by rw [List.size_toArray]; omega)
    refine ⟨.ref _, _, I5.laid (t' := s4.toks) (o := .tup xs.reverse) (fun b ob q => Heap.get?_push_of_some _ q) (Nat.le_refl _) ?_, rfl, q _ (I5.hok.fresh (Nat.le_refl _))⟩
    refine ⟨by rw [List.length_reverse]; exact hz, _, r.reverse, ?_⟩
    exact ⟨_, Heap.get?_push_size _ rfl, rfl, 0, rfl⟩
end
def cRevA (o : Opd) : CE := fun env => (o.ev env).bind fun l env1 => match l.get env1 with
  | some (.list ds) => .ok (.own false (.list ds.reverse)) env1
  | some (.tuple ds) => .ok (.frz (.tuple ds.reverse)) env1
  | _ => .no
section
variable {X : Cx} {xp : XP} {W : WX}
theorem de_revA {e : Expr} {o : Opd} {te : TE} {k : Nat} {p1 p2 p3 pos : Pos} (h : DO X xp W e o te) : DE X xp W (.Subscript e (.Slice none none (some (.UnaryOp .USub (.Constant (.int 1) k p1) p2)) p3) pos) (cRevA o) (tRevA X.K te) := by
  refine ⟨pe_revA h.pe, fun en σ H F env Q w q => ?_⟩
  unfold cRevA at q
  refine h.run w (fun x env1 H' F' cls d g w' s y => ?_) (fun g => ?_) fun l env1 v H1 F1 g w1 s1 l1 => ?_
  · rw [g] at q; exact q H' F' cls d w' s y
  · rw [g] at q; exact q
  · rw [g] at q; simp only [Res.bind] at q
    cases g1 : l.get env1 with
    | none => rw [g1] at q; exact q.elim
    | some d =>
      rw [g1] at q
      cases d with
      | list ds =>
        obtain ⟨a, vs, rfl, r1, r2⟩ := (RB.of w1 l1 g1).lst w1.sub
        exact .inl ⟨a, vs, rfl, .inl r1, fun p hp => OPost.newL (b := false) w1.sub (.of w1 s1 q) r2.reverse p hp⟩
      | tuple ds =>
        obtain ⟨a, vs, rfl, r1, r2⟩ := (RB.of w1 l1 g1).tup w1.sub
        exact .inr ⟨a, vs, rfl, r1, fun p hp => OPost.newT w1.sub (.of w1 s1 q) r2.reverse p hp⟩
      | _ => exact q.elim
end
end DL

/-! DNR: a tuple, so many times, or once, or not at all. -/
namespace DL
open PySem PySem.Spec PyProof.Rows L2
theorem tuple_mul1 (l : Addr) (items : Array Value) (n : Nat) (u : Tok) (dd : Option Addr) (sl : Array (Option Value)) :
    Meets (Builtin.«tuple.__mul__» ⟨[.ref l, .int 1 u], []⟩) (fun _ R s => s.heap.get? l = some { cls := .type "tuple", dict := dd, data := .seq items n, slots := sl } ∧ R (.ok (.ret (Value.ref l))) s) :=
  .of_wp fun prog w A R s h => by
    obtain ⟨hp, g, d, tk, os⟩ := s
    obtain ⟨hl, h⟩ := h
    have f1 := AutoSeq1.idx_int
    have c1 : (items.isEmpty || (1 : Int) == 1) = true := by simp
    wp_walk using wpAny_loadPart' hl
    repeat (first
      | (refine wpAny_ite_false (decide_eq_false (by decide)) ?_; wp_walk using wpAny_loadPart' hl)
      | (refine wpAny_ite_true (decide_eq_true c1) ?_; wp_walk using wpAny_loadPart' hl))
    exact ⟨_, rfl, h⟩
theorem tuple_mul0 (l : Addr) (items : Array Value) (n : Nat) (dd : Option Addr) (sl : Array (Option Value)) (x : Int) (u : Tok) (c0 : (decide (x < -(2 ^ 63)) || decide (x ≥ 2 ^ 63)) = false) (c1 : (items.isEmpty || x == 1) = false) (c2 : (decide (x ≤ 0) || items.isEmpty) = true) :
    Meets (Builtin.«tuple.__mul__» ⟨[.ref l, .int x u], []⟩) (fun _ R s => s.heap.get? l = some { cls := .type "tuple", dict := dd, data := .seq items n, slots := sl } ∧
      R (.ok (.ret (Value.ref s.heap.objs.size))) { s with heap := s.heap.push { cls := Value.type "tuple", data := Data.seq #[] }, toks := s.toks }) :=
  .of_wp fun prog w A R s h => by
    obtain ⟨hp, g, d, tk, os⟩ := s
    obtain ⟨hl, h⟩ := h
    have f1 := AutoSeq1.idx_int
    wp_walk using wpAny_loadPart' hl
    repeat (first
      | (refine wpAny_ite_false (decide_eq_false (by rw [c0]; exact Bool.false_ne_true)) ?_; wp_walk using wpAny_loadPart' hl)
      | (refine wpAny_ite_false (decide_eq_false (by rw [c1]; exact Bool.false_ne_true)) ?_; wp_walk using wpAny_loadPart' hl)
      | (refine wpAny_ite_true (decide_eq_true c2) ?_; wp_walk using wpAny_loadPart' hl))
    exact ⟨_, rfl, h⟩
def rRepU (K : PySem.W.Frag) : R2 := fun x y H Q => ∃ l k xs, x = .ref l ∧ y = .int k ∧ SqT K H l xs ∧ xs ≠ [] ∧
  ((k = 1 ∧ Q (.ref l) H) ∨ (k ≤ 0 ∧ -1000 ≤ k ∧ ∀ p, H p = none → Q (.ref p) (upd H p (.tup []))))
section
variable {X : Cx}
theorem op_repU0 : OpR X (binaryOp .Mult) (rRepU X.K) := by
  intro pins s σ H x y v u Q I rx ry h
  obtain ⟨l, k, xs, rfl, rfl, hT, hne, h⟩ := h
  cases rx
  obtain ⟨t, rfl⟩ := ry
  obtain ⟨its, r, ⟨⟨cls, dd, data, sl⟩, ho, hc, n, hd⟩, hs⟩ := I.tuple hT
  simp only at hc hd
  subst hc hd
  have hle : its.length = xs.length := r.length.symm
  have hn : its ≠ [] := fun e => hne (by
    rw [e] at hle
    exact List.eq_nil_of_length_eq_zero hle.symm)
  have hi : its.toArray.isEmpty = false := by
    cases its with
    | nil => exact absurd rfl hn
    | cons a b => rfl
  rcases h with ⟨rfl, q⟩ | ⟨h1, h2, q⟩
  · refine wpAny_binaryOp_repeat_ref (T := "tuple") (U := "int") (by decide) ⟨_, ho, rfl⟩ (fun s' => typeIs_int s' 1 t) noFill_tuple_mul F.fills_int_mul F.slot_int_rmul repeat_tuple F.slot_int_index.lookup
      (call_meets F.slot_int_rmul (typeIs_int s 1 t) F.entry_int_rmul (F.args_int_rmul_2 _ _) (int_rmul_tuple 1 t l its.toArray n dd sl)
        ⟨ho, rfl, ⟨_, ho, rfl⟩, call_meets F.slot_tuple_mul ⟨_, ho, rfl⟩ F.entry_tuple_mul (F.args_tuple_mul_2 _ _) (tuple_mul1 l its.toArray n t dd sl) ⟨ho, ?_⟩⟩)
    exact ⟨.ref l, H, I, rfl, q⟩
  · have c0 : (decide (k < -(2 ^ 63)) || decide (k ≥ 2 ^ 63)) = false := by
      rw [decide_eq_false (by omega), decide_eq_false (by omega)] <;> rfl
    have c1 : (its.toArray.isEmpty || k == 1) = false := by
      rw [hi, Bool.false_or]
      exact beq_eq_false_iff_ne.mpr (by omega)
    have c2 : (decide (k ≤ 0) || its.toArray.isEmpty) = true := by
      rw [decide_eq_true h1]; rfl
    refine wpAny_binaryOp_repeat_ref (T := "tuple") (U := "int") (by decide) ⟨_, ho, rfl⟩ (fun s' => typeIs_int s' k t) noFill_tuple_mul F.fills_int_mul F.slot_int_rmul repeat_tuple F.slot_int_index.lookup
      (call_meets F.slot_int_rmul (typeIs_int s k t) F.entry_int_rmul (F.args_int_rmul_2 _ _) (int_rmul_tuple k t l its.toArray n dd sl)
        ⟨ho, rfl, ⟨_, ho, rfl⟩, call_meets F.slot_tuple_mul ⟨_, ho, rfl⟩ F.entry_tuple_mul (F.args_tuple_mul_2 _ _) (tuple_mul0 l its.toArray n dd sl k t c0 c1 c2) ⟨ho, ?_⟩⟩)
    refine ⟨.ref s.heap.objs.size, _, I.laid (t' := s.toks) (o := .tup []) (fun b ob q => Heap.get?_push_of_some _ q) (Nat.le_refl _) ?_, rfl, q _ (I.hok.fresh (Nat.le_refl _))⟩
    exact ⟨Nat.zero_le _, [], .nil, IsTup.new _ _⟩
end
abbrev rRepA (K : PySem.W.Frag) : R2 := fun x y H Q => rRepT K x y H Q ∨ rRepU K x y H Q
theorem op_repU {X : Cx} : OpR X (binaryOp .Mult) (rRepA X.K) := OpR.or op_repT op_repU0
def oMulU : Op2
  | .tuple (d :: ds), .int k => if 2 ≤ k ∧ k ≤ 1000 ∧ ds.length < 1000 then .val (.frz (.tuple (List.replicate k.toNat (d :: ds)).flatten))
    else if k = 1 then .val (.frz (.tuple (d :: ds))) else if k ≤ 0 ∧ -1000 ≤ k then .val (.frz (.tuple [])) else .no
  | _, _ => .no
theorem ok_mulU {K : PySem.W.Frag} : Op2Ok K (rRepA K) oMulU := by
  intro x y dx dy H F Q s rx ry h
  unfold oMulU at h
  split at h
  · rename_i d ds k
    split at h
    · rename_i hk
      refine .inl (ok_mulT x y _ _ H F Q s rx ry ?_)
      unfold oMulT
      simp only [if_pos hk]
      exact h
    · obtain ⟨a, vs, rfl, q, rs⟩ := rx.tup s
      have hl := rs.length
      have hne : vs ≠ [] := fun z => by rw [z] at hl; simp at hl
      split at h
      · rename_i hk
        refine .inr ⟨a, k, vs, rfl, ry.int, q, hne, .inl ⟨hk, h.here s ?_⟩⟩
        cases rx with
        | fz z => exact z
        | own h1 n1 k1 => cases k1
      · split at h
        · rename_i hk
          exact .inr ⟨a, k, vs, rfl, ry.int, q, hne, .inr ⟨hk.1, hk.2, h.newT s .nil⟩⟩
        · exact h.elim
  · exact h.elim
end DL

/-! PVA: what the meanings compute, read step by step by simp. -/
namespace DL
open PySem

/-! ### cells by place -/
def gC : Nat → Cs → Cell
  | _, [] => .emp
  | 0, c :: _ => c
  | i + 1, _ :: l => gC i l
theorem getD_gC : ∀ (i : Nat) (env : Cs), env.getD i .emp = gC i env
  | _, [] => by simp [gC]
  | 0, c :: _ => rfl
  | i + 1, c :: l => by rw [List.getD_cons_succ, getD_gC i l]; rfl
@[simp] theorem gC_0 (c : Cell) (l : Cs) : gC 0 (c :: l) = c := rfl
@[simp] theorem gC_s (i : Nat) (c : Cell) (l : Cs) : gC (i + 1) (c :: l) = gC i l := rfl
@[simp] theorem read_frz (d : PyData) : (Cell.frz d).read = some d := rfl
@[simp] theorem read_own (b : Bool) (d : PyData) : (Cell.own b d).read = some d := rfl
@[simp] theorem read_lck (d : PyData) : (Cell.lck d).read = some d := rfl
@[simp] theorem read_emp : Cell.emp.read = none := rfl
@[simp] theorem val_frz (d : PyData) : (Cell.frz d).val = some d := rfl
@[simp] theorem val_own (b : Bool) (d : PyData) : (Cell.own b d).val = some d := rfl
@[simp] theorem asg_own (b : Bool) (d : PyData) : (Cell.own b d).asg = .own false d := rfl
@[simp] theorem asg_frz (d : PyData) : (Cell.frz d).asg = .frz d := rfl
@[simp] theorem mine_frz (d : PyData) : (Cell.frz d).mine = false := rfl
@[simp] theorem mine_own (b : Bool) (d : PyData) : (Cell.own b d).mine = true := rfl
@[simp] theorem mine_lck (d : PyData) : (Cell.lck d).mine = true := rfl
@[simp] theorem mine_emp : Cell.emp.mine = false := rfl
@[simp] theorem lck_frz (d : PyData) : isLck (.frz d) = false := rfl
@[simp] theorem lck_own (b : Bool) (d : PyData) : isLck (.own b d) = false := rfl
@[simp] theorem lck_lck (d : PyData) : isLck (.lck d) = true := rfl
@[simp] theorem lck_emp : isLck .emp = false := rfl
@[simp] theorem out_frz (d : PyData) : (Cell.frz d).out = .frz d := rfl
@[simp] theorem out_own (b : Bool) (d : PyData) : (Cell.own b d).out = .own false d := by cases b <;> rfl

/-! ### results -/
@[simp] theorem bind_ok {α β : Type} (a : α) (env : Cs) (k : α → Cs → Res β) : (Res.ok a env).bind k = k a env := rfl
@[simp] theorem bind_ex {α β : Type} (x : Exc) (env : Cs) (k : α → Cs → Res β) : (Res.ex x env : Res α).bind k = .ex x env := rfl
@[simp] theorem fin_val (c : Cell) (env : Cs) : (OR.val c).fin env = .ok c env := rfl
@[simp] theorem frzI_eq (i : Int) : frzI i = .val (.frz (.int i)) := rfl
@[simp] theorem frzB_eq (i : Bool) : frzB i = .val (.frz (.bool i)) := rfl

/-! ### operands -/
@[simp] theorem ev_nm (i : Nat) (env : Cs) : (Opd.nm i).ev env = match (gC i env).read with
    | some _ => .ok (.late i) env
    | none => .no := by
  show (match (env.getD i .emp).read with | some _ => Res.ok (Lt.late i) env | none => .no) = _
  rw [getD_gC]
@[simp] theorem ev_ex (c : CE) (env : Cs) : (Opd.ex c).ev env = (c env).bind fun c env1 => match c.val with
    | some d => .ok (.now d) env1
    | none => .no := rfl
@[simp] theorem get_now (env : Cs) (d : PyData) : Lt.get env (.now d) = some d := rfl
@[simp] theorem get_late (env : Cs) (i : Nat) : Lt.get env (.late i) = (gC i env).read := by show (env.getD i .emp).read = _; rw [getD_gC]
@[simp] theorem evs_nil (env : Cs) : evs [] env = .ok [] env := rfl
@[simp] theorem evs_cons (o : Opd) (os : List Opd) (env : Cs) : evs (o :: os) env = (o.ev env).bind fun l env1 => (evs os env1).bind fun ls env2 => .ok (l :: ls) env2 := rfl
@[simp] theorem gets_nil (env : Cs) : gets env [] = some [] := rfl
@[simp] theorem gets_cons (env : Cs) (l : Lt) (ls : List Lt) : gets env (l :: ls) = match l.get env, gets env ls with
    | some d, some ds => some (d :: ds)
    | _, _ => none := rfl
@[simp] theorem nows_nil : nows [] = some [] := rfl
@[simp] theorem nows_now (d : PyData) (ls : List Lt) : nows (.now d :: ls) = match nows ls with
    | some ds => some (d :: ds)
    | none => none := rfl
@[simp] theorem anyMine_nil (env : Cs) : anyMine env [] = false := rfl
@[simp] theorem anyMine_late (env : Cs) (i : Nat) (ls : List Lt) : anyMine env (.late i :: ls) = ((gC i env).mine || anyMine env ls) := by show ((env.getD i .emp).mine || _) = _; rw [getD_gC]
@[simp] theorem anyMine_now (env : Cs) (d : PyData) (ls : List Lt) : anyMine env (.now d :: ls) = anyMine env ls := rfl

/-! ### two ways -/
def orB {α : Type} (a b : α) : Bool → α
  | true => a
  | false => b
@[simp] theorem orB_t {α : Type} (a b : α) : orB a b true = a := rfl
@[simp] theorem orB_f {α : Type} (a b : α) : orB a b false = b := rfl
@[simp] theorem orB_okT (b c : Bool) (env : Cs) : orB (Res.ok true env) (.ok c env) b = .ok (b || c) env := by cases b <;> rfl
@[simp] theorem orB_okF (b c : Bool) (env : Cs) : orB (Res.ok c env) (.ok false env) b = .ok (b && c) env := by cases b <;> rfl
@[simp] theorem orB_vT (b c : Bool) (env : Cs) : orB (Res.ok (Cell.frz (.bool true)) env) (Res.ok (Cell.frz (.bool c)) env) b = Res.ok (Cell.frz (.bool (b || c))) env := by cases b <;> rfl
@[simp] theorem orB_vF (b c : Bool) (env : Cs) : orB (Res.ok (Cell.frz (.bool c)) env) (Res.ok (Cell.frz (.bool false)) env) b = Res.ok (Cell.frz (.bool (b && c))) env := by cases b <;> rfl
@[simp] theorem orB_same {α : Type} (a : α) (b : Bool) : orB a a b = a := by cases b <;> rfl

/-! ### expressions -/
@[simp] theorem ev_var (i : Nat) (env : Cs) : cVar i env = match gC i env with
    | .frz d => .ok (.frz d) env
    | .own false d => .ok (.frz d) (env.set i (.frz d))
    | _ => .no := by
  unfold cVar; rw [getD_gC] <;> (cases gC i env with | own b d => cases b <;> rfl | _ => rfl)
@[simp] theorem ev_k (d : PyData) (env : Cs) : cK d env = .ok (.frz d) env := rfl
@[simp] theorem ev_move (i : Nat) (env : Cs) : cMove i env = match gC i env with
    | .frz d => .ok (.frz d) env
    | .own false d => .ok (.own false d) (env.set i .emp)
    | _ => .no := by
  unfold cMove; rw [getD_gC] <;> (cases gC i env with | own b d => cases b <;> rfl | _ => rfl)
@[simp] theorem ev_op2 (k : Op2) (a b : Opd) (env : Cs) : cOp2 k a b env = (a.ev env).bind fun la env1 => (b.ev env1).bind fun lb env2 =>
    match la.get env2, lb.get env2 with
    | some x, some y => (k x y).fin env2
    | _, _ => .no := rfl
@[simp] theorem ev_opN (k : OpN) (os : List Opd) (env : Cs) : cOpN k os env = (evs os env).bind fun ls env1 => match gets env1 ls with
    | some ds => (k ds).fin env1
    | none => .no := rfl
@[simp] theorem ev_tup (os : List Opd) (env : Cs) : cTup os env = (evs os env).bind fun ls env1 => match nows ls with
    | some ds => .ok (.frz (.tuple ds)) env1
    | none => .no := rfl
@[simp] theorem ev_lst (os : List Opd) (env : Cs) : cLst os env = (evs os env).bind fun ls env1 => match nows ls with
    | some ds => .ok (.own false (.list ds)) env1
    | none => .no := rfl
@[simp] theorem ev_toT (c : CE) (env : Cs) : toT c env = (c env).bind fun c env' => match c with
    | .frz (.bool b) => .ok b env'
    | _ => .no := rfl
@[simp] theorem ev_notT (c : CT) (env : Cs) : cNotT c env = (c env).bind fun b env' => .ok (!b) env' := rfl
@[simp] theorem ev_andT (c d : CT) (env : Cs) : cAndT c d env = (c env).bind fun b env' => orB (d env') (.ok false env') b := by
  unfold cAndT; cases c env with | ok b e => cases b <;> rfl | ex x e => rfl | no => rfl
@[simp] theorem ev_orT (c d : CT) (env : Cs) : cOrT c d env = (c env).bind fun b env' => orB (.ok true env') (d env') b := by
  unfold cOrT; cases c env with | ok b e => cases b <;> rfl | ex x e => rfl | no => rfl
@[simp] theorem ev_and (c d : CE) (env : Cs) : cAnd c d env = (toT c env).bind fun b env' => orB (d env') (.ok (.frz (.bool false)) env') b := by
  unfold cAnd; cases toT c env with | ok b e => cases b <;> rfl | ex x e => rfl | no => rfl
@[simp] theorem ev_or (c d : CE) (env : Cs) : cOr c d env = (toT c env).bind fun b env' => orB (.ok (.frz (.bool true)) env') (d env') b := by
  unfold cOr; cases toT c env with | ok b e => cases b <;> rfl | ex x e => rfl | no => rfl
@[simp] theorem ev_not (c : CE) (env : Cs) : cNot c env = (toT c env).bind fun b env' => .ok (.frz (.bool !b)) env' := rfl
@[simp] theorem ev_if (c : CT) (a b : CE) (env : Cs) : cIf c a b env = (c env).bind fun t env' => orB (a env') (b env') t := by
  unfold cIf; cases c env with | ok b e => cases b <;> rfl | ex x e => rfl | no => rfl
@[simp] theorem ev_chain (k k' : Op2) (a b c : Opd) (env : Cs) : cChain k k' a b c env = cChain k k' a b c env := rfl
@[simp] theorem ev_call (m : Fn) (os : List Opd) (env : Cs) : cCall m os env = (evs os env).bind fun ls env1 => match gets env1 ls with
    | some ds => match m ds with
      | .ok c => match anyMine env1 ls && !lowC c with
        | true => .no
        | false => .ok c env1
      | .ex x => .ex x env1
      | .no => .no
    | none => .no := rfl
@[simp] theorem ev_callI (m : Fm) (i : Nat) (os : List Opd) (env : Cs) : cCallI m i os env = match (gC i env).read with
    | none => .no
    | some _ => (evs os env).bind fun ls env1 => match nows ls with
      | none => .no
      | some ds => match gC i env1 with
        | .own b d => match m d ds with
          | .ok c d' => .ok c (env1.set i (.own b d'))
          | .no => .no
        | _ => .no := by
  unfold cCallI; rw [getD_gC]
  cases (gC i env).read with
  | none => rfl
  | some d =>
    dsimp only
    congr 1; funext ls env1
    cases nows ls with
    | none => rfl
    | some ds => dsimp only; rw [getD_gC] <;> cases gC i env1 <;> rfl
@[simp] theorem ev_neg (o : Opd) (env : Cs) : cNeg o env = (o.ev env).bind fun l env1 => match l.get env1 with
    | some (.int i) => .ok (.frz (.int (-i))) env1
    | _ => .no := rfl
@[simp] theorem ev_isi (T : String) (o : Opd) (env : Cs) : cIsi T o env = (o.ev env).bind fun l env1 => match l.get env1 with
    | some d => match isiD T d with
      | some b => .ok (.frz (.bool b)) env1
      | none => .no
    | none => .no := rfl
end DL

/-! PVB: statements, loops, comprehensions: what is to be shown. -/
namespace DL
open PySem

@[simp] theorem ev_chain' (k k' : Op2) (a b c : Opd) (env : Cs) : cChain k k' a b c env = (a.ev env).bind fun la env1 => (b.ev env1).bind fun lb env2 =>
    match la.get env2, lb.get env2 with
    | some x, some y => match k x y with
      | .val (.frz (.bool t)) => orB ((c.ev env2).bind fun lc env3 => match lb.get env3, lc.get env3 with
        | some y, some z => (k' y z).fin env3
        | _, _ => .no) (.ok (.frz (.bool false)) env2) t
      | _ => .no
    | _, _ => .no := by
  unfold cChain
  congr 1; funext la env1; congr 1; funext lb env2
  cases la.get env2 with
  | none => rfl
  | some x =>
    cases lb.get env2 with
    | none => rfl
    | some y =>
      dsimp only
      cases k x y with
      | no => rfl
      | val c => cases c with
        | frz d => cases d with
          | bool t => cases t <;> rfl
          | _ => rfl
        | _ => rfl

def Res.is {α : Type} (r : Res α) (P : α → Cs → Prop) : Prop := match r with
  | .ok a e => P a e
  | _ => False
@[simp] theorem is_ok {α : Type} (a : α) (e : Cs) (P : α → Cs → Prop) : (Res.ok a e).is P = P a e := rfl
@[simp] theorem is_no {α : Type} (P : α → Cs → Prop) : (Res.no : Res α).is P = False := rfl
@[simp] theorem is_ex {α : Type} (x : Exc) (e : Cs) (P : α → Cs → Prop) : (Res.ex x e : Res α).is P = False := rfl
@[simp] theorem is_orB {α : Type} (a b : Res α) (t : Bool) (P : α → Cs → Prop) : (orB a b t).is P = ((t = true → a.is P) ∧ (t = false → b.is P)) := by cases t <;> simp
theorem is_ex1 {α : Type} {r : Res α} {P : α → Cs → Prop} (h : r.is P) : ∃ a e, r = .ok a e ∧ P a e := by
  cases r with
  | ok a e => exact ⟨a, e, rfl, h⟩
  | ex x e => exact h.elim
  | no => exact h.elim
def isO {α : Type} (r : Option α) (P : α → Prop) : Prop := match r with
  | some a => P a
  | none => False
@[simp] theorem isO_some {α : Type} (a : α) (P : α → Prop) : isO (some a) P = P a := rfl
@[simp] theorem isO_none {α : Type} (P : α → Prop) : isO none P = False := rfl
theorem isO_ex {α : Type} {r : Option α} {P : α → Prop} (h : isO r P) : ∃ a, r = some a ∧ P a := by
  cases r with
  | some a => exact ⟨a, rfl, h⟩
  | none => exact h.elim

/-! ### what a statement comes to -/
structure KS where
  nx : Cs → Prop
  rt : Cell → Cs → Prop
  bk : Cs → Prop := fun _ => False
  ct : Cs → Prop := fun _ => False
  ex : Exc → Cs → Prop := fun _ _ => False
def SRes.sat (K : KS) : SRes → Prop
  | .nx e => K.nx e
  | .rt c e => K.rt c e
  | .bk e => K.bk e
  | .ct e => K.ct e
  | .ex x e => K.ex x e
  | .no => False
@[simp] theorem sat_nx (K : KS) (e : Cs) : (SRes.nx e).sat K = K.nx e := rfl
@[simp] theorem sat_rt (K : KS) (c : Cell) (e : Cs) : (SRes.rt c e).sat K = K.rt c e := rfl
@[simp] theorem sat_bk (K : KS) (e : Cs) : (SRes.bk e).sat K = K.bk e := rfl
@[simp] theorem sat_ct (K : KS) (e : Cs) : (SRes.ct e).sat K = K.ct e := rfl
@[simp] theorem sat_ex (K : KS) (x : Exc) (e : Cs) : (SRes.ex x e).sat K = K.ex x e := rfl
@[simp] theorem sat_no (K : KS) : SRes.no.sat K = False := rfl
def SRes.then (r : SRes) (d : CS) : SRes := match r with
  | .nx e => d e
  | r => r
@[simp] theorem then_nx (e : Cs) (d : CS) : (SRes.nx e).then d = d e := rfl
@[simp] theorem then_rt (c : Cell) (e : Cs) (d : CS) : (SRes.rt c e).then d = .rt c e := rfl
@[simp] theorem then_bk (e : Cs) (d : CS) : (SRes.bk e).then d = .bk e := rfl
@[simp] theorem then_ct (e : Cs) (d : CS) : (SRes.ct e).then d = .ct e := rfl
@[simp] theorem then_ex (x : Exc) (e : Cs) (d : CS) : (SRes.ex x e).then d = .ex x e := rfl
@[simp] theorem then_orB (a b : SRes) (t : Bool) (d : CS) : (orB a b t).then d = orB (a.then d) (b.then d) t := by cases t <;> rfl
theorem sat_then {K : KS} {r : SRes} {d : CS} (h : r.sat { K with nx := fun e => (d e).sat K }) : (r.then d).sat K := by
  cases r <;> exact h
@[simp] theorem sat_orB (K : KS) (a b : SRes) (t : Bool) : (orB a b t).sat K = ((t = true → a.sat K) ∧ (t = false → b.sat K)) := by
  cases t <;> simp
theorem SRes.sat.mono {K K' : KS} {r : SRes} (h : r.sat K) (h1 : ∀ e, K.nx e → K'.nx e) (h2 : ∀ c e, K.rt c e → K'.rt c e) (h3 : ∀ e, K.bk e → K'.bk e) (h4 : ∀ e, K.ct e → K'.ct e) (h5 : ∀ x e, K.ex x e → K'.ex x e) : r.sat K' := by
  cases r with
  | nx e => exact h1 e h
  | rt c e => exact h2 c e h
  | bk e => exact h3 e h
  | ct e => exact h4 e h
  | ex x e => exact h5 x e h
  | no => exact h
@[simp] theorem ev_seq (c d : CS) (env : Cs) : cSeq c d env = (c env).then d := by
  unfold cSeq; cases c env <;> rfl
@[simp] theorem ev_next (env : Cs) : cNext env = .nx env := rfl
@[simp] theorem ev_break (env : Cs) : cBreak env = .bk env := rfl
@[simp] theorem ev_cont (env : Cs) : cCont env = .ct env := rfl
@[simp] theorem ev_never (env : Cs) : cNever env = .no := rfl
@[simp] theorem ev_dict0 (env : Cs) : cDict0 env = .ok (.own false (.dict [])) env := rfl
@[simp] theorem ev_raise (x : Str) (env : Cs) : cRaise x env = .ex ⟨x, none⟩ env := rfl
@[simp] theorem ev_retN (env : Cs) : cRetN env = .rt (.frz .none) env := rfl
@[simp] theorem ev_drop (c : CE) (env : Cs) : cDrop c env = match c env with
    | .ok _ e => .nx e
    | .ex x e => .ex x e
    | .no => .no := rfl
@[simp] theorem ev_ret (c : CE) (env : Cs) : cRet c env = match c env with
    | .ok c e => .rt c e
    | .ex x e => .ex x e
    | .no => .no := rfl
@[simp] theorem ev_ifS (c : CT) (a b : CS) (env : Cs) : cIfS c a b env = match c env with
    | .ok t e => orB (a e) (b e) t
    | .ex x e => .ex x e
    | .no => .no := by
  unfold cIfS; cases c env with | ok t e => cases t <;> rfl | ex x e => rfl | no => rfl
@[simp] theorem ev_set (i : Nat) (c : CE) (env : Cs) : cSet i c env = match c env with
    | .ok c e => match isLck (gC i e) with
      | true => .no
      | false => .nx (e.set i c.asg)
    | .ex x e => .ex x e
    | .no => .no := by
  unfold cSet; cases c env with
  | ok c e => dsimp only; rw [getD_gC] <;> cases isLck (gC i e) <;> rfl
  | ex x e => rfl
  | no => rfl
@[simp] theorem ev_unp (g : Tg) (c : CE) (env : Cs) : cUnp g c env = match c env with
    | .ok c env1 => match c.val with
      | some d => match g.put d env1 with
        | some env2 => .nx env2
        | none => .no
      | none => .no
    | .ex x env1 => .ex x env1
    | .no => .no := rfl
@[simp] theorem ev_par (i j : Nat) (c d : CE) (env : Cs) : cPar i j c d env = match c env with
    | .ok c1 env1 => match d env1 with
      | .ok d1 env2 => match isLck (gC i env2) || isLck (gC j env2) with
        | true => .no
        | false => .nx ((env2.set i c1.asg).set j d1.asg)
      | .ex x env2 => .ex x env2
      | .no => .no
    | .ex x env1 => .ex x env1
    | .no => .no := by
  unfold cPar; cases c env with
  | ok c e => dsimp only; cases d e with
    | ok d e => dsimp only; rw [getD_gC, getD_gC] <;> cases isLck (gC i e) || isLck (gC j e) <;> rfl
    | ex x e => rfl
    | no => rfl
  | ex x e => rfl
  | no => rfl
@[simp] theorem ev_setItem (k : OpS) (i : Nat) (oi : Opd) (c : CE) (env : Cs) : cSetItem k i oi c env = match c env with
    | .ok c1 env1 => match c1.val, (gC i env1).read with
      | some dv, some _ => match oi.ev env1 with
        | .ok l env2 => match gC i env2, l.get env2 with
          | .own b d, some dx => match k d dx dv with
            | some d' => .nx (env2.set i (.own b d'))
            | none => .no
          | _, _ => .no
        | .ex x env2 => .ex x env2
        | .no => .no
      | _, _ => .no
    | .ex x env1 => .ex x env1
    | .no => .no := by
  unfold cSetItem; cases c env with
  | ok c1 e =>
    dsimp only; rw [getD_gC]
    cases c1.val with
    | none => rfl
    | some dv =>
      cases (gC i e).read with
      | none => rfl
      | some _ =>
        dsimp only
        cases oi.ev e with
        | ok l env2 => dsimp only; rw [getD_gC] <;> cases gC i env2 <;> cases l.get env2 <;> rfl
        | ex x e => rfl
        | no => rfl
  | ex x e => rfl
  | no => rfl
@[simp] theorem ev_methT (T : String) (k : OpM) (i : Nat) (os : List Opd) (env : Cs) : cMethT T k i os env = match gC i env with
    | .own _ d0 => match isT T d0 with
      | true => (evs os env).bind fun ls env1 => match nows ls with
        | none => .no
        | some ds => match gC i env1 with
          | .own b d => match k d ds with
            | .ok c d' => .ok c (env1.set i (.own b d'))
            | .no => .no
          | _ => .no
      | false => .no
    | _ => .no := by
  unfold cMethT; rw [getD_gC]
  cases gC i env with
  | own b d0 =>
    dsimp only
    cases isT T d0 with
    | false => rfl
    | true =>
      dsimp only
      congr 1; funext ls env1
      cases nows ls with
      | none => rfl
      | some ds => dsimp only; rw [getD_gC] <;> cases gC i env1 <;> rfl
  | _ => rfl
@[simp] theorem ev_for (g : Tg) (ci : CI) (body : CS) (env : Cs) : cFor g ci body env = match ci env with
    | .ok items env1 => forL g body items env1
    | .ex x env1 => .ex x env1
    | .no => .no := rfl
@[simp] theorem ev_iSeq (c : CE) (env : Cs) : iSeq c env = (c env).bind fun c env1 => match c.val with
    | some d => match seqOf d with
      | some ds => .ok ds env1
      | none => .no
    | none => .no := by
  unfold iSeq; congr 1
@[simp] theorem ev_iArgs (k : List PyData → Option (List PyData)) (os : List Opd) (env : Cs) : iArgs k os env = (evs os env).bind fun ls env1 => match gets env1 ls with
    | some ds => match k ds with
      | some xs => .ok xs env1
      | none => .no
    | none => .no := by
  unfold iArgs; congr 1; funext ls env1
  cases gets env1 ls with
  | none => rfl
  | some ds => dsimp only <;> cases k ds <;> rfl
@[simp] theorem put_one (i : Nat) (d : PyData) (env : Cs) : (Tg.one i).put d env = match isLck (gC i env) with
    | true => none
    | false => some (env.set i (.frz d)) := by
  show (match isLck (env.getD i .emp) with | true => none | false => some (env.set i (.frz d))) = _
  rw [getD_gC]
@[simp] theorem put_many (is : List Nat) (ds : List PyData) (env : Cs) : (Tg.many is).put (.tuple ds) env = tgGo is ds env := rfl
@[simp] theorem tgGo_nil (env : Cs) : tgGo [] [] env = some env := rfl
@[simp] theorem tgGo_cons (i : Nat) (is : List Nat) (d : PyData) (ds : List PyData) (env : Cs) : tgGo (i :: is) (d :: ds) env = match isLck (gC i env) with
    | true => none
    | false => tgGo is ds (env.set i (.frz d)) := by
  show (match isLck (env.getD i .emp) with | true => none | false => tgGo is ds (env.set i (.frz d))) = _
  rw [getD_gC]

theorem ev_comp (g : Tg) (ci : CI) (ct : CT) (ce : CE) (vs : List Nat) (env : Cs) : cComp g ci ct ce vs env = match ci env with
    | .ok items env1 => match anyMineS env1 vs with
      | true => .no
      | false => match compL g ct ce vs items env1 with
        | .ok xs env2 => .ok (.own false (.list xs)) (backE env1 vs env2)
        | _ => .no
    | .ex x env1 => .ex x env1
    | .no => .no := rfl
@[simp] theorem anyMineS_nil (env : Cs) : anyMineS env [] = false := rfl
@[simp] theorem anyMineS_cons (env : Cs) (v : Nat) (vs : List Nat) : anyMineS env (v :: vs) = ((gC v env).mine || anyMineS env vs) := by
  show ((env.getD v .emp).mine || _) = _; rw [getD_gC]
@[simp] theorem backE_nil (env1 env : Cs) : backE env1 [] env = env := rfl
@[simp] theorem backE_cons (env1 env : Cs) (v : Nat) (vs : List Nat) : backE env1 (v :: vs) env = (backE env1 vs env).set v (gC v env1) := by
  show (backE env1 vs env).set v (env1.getD v .emp) = _; rw [getD_gC]
@[simp] theorem wipeE_nil (env : Cs) : wipeE env [] = env := rfl
@[simp] theorem wipeE_cons (env : Cs) (v : Nat) (vs : List Nat) : wipeE env (v :: vs) = (wipeE env vs).set v .emp := rfl

/-! ### a def's end -/
@[simp] theorem emps_0 : emps 0 = [] := rfl
@[simp] theorem emps_s (n : Nat) : emps (n + 1) = .emp :: emps n := rfl
/-- how a def's body may end -/
structure RK (K : KS) (N : Prop) (R : Cell → Cs → Prop) (X : Exc → Prop) : Prop where
  nx : N → ∀ e, K.nx e
  rt : ∀ c e, R c e → K.rt c e
  ex : ∀ x e, X x → K.ex x e
theorem run_gen {n : Nat} {c : CS} {ds : List PyData} {P : FR → Prop} (h : ∀ K, RK K (P (.ok (.frz .none))) (fun c _ => P (.ok c.out)) (fun x => P (.ex x)) → (c (ds.map .frz ++ emps (n - ds.length))).sat K) : P (runDef n c ds) := by
  have h := h ⟨fun _ => P (.ok (.frz .none)), fun c _ => P (.ok c.out), fun _ => False, fun _ => False, fun x _ => P (.ex x)⟩ ⟨fun h _ => h, fun _ _ h => h, fun _ _ h => h⟩
  unfold runDef
  cases g : c (ds.map .frz ++ emps (n - ds.length)) with
  | nx e => rw [g] at h; exact h
  | rt c e => rw [g] at h; exact h
  | ex x e => rw [g] at h; exact h
  | _ => rw [g] at h; exact h.elim
theorem run_of {n : Nat} {c : CS} {ds : List PyData} {r : Cell} (h : ∀ K, RK K (r = .frz .none) (fun c _ => c.out = r) (fun _ => False) → (c (ds.map .frz ++ emps (n - ds.length))).sat K) : runDef n c ds = .ok r :=
  run_gen (P := fun x => x = .ok r) fun K k => h K ⟨fun q => k.nx (by rw [q]), fun c e q => k.rt c e (by rw [q]), fun _ _ q => q.elim⟩
theorem run_ex {n : Nat} {c : CS} {ds : List PyData} {P : Cell → Prop} (h : ∀ K, RK K (P (.frz .none)) (fun c _ => P c.out) (fun _ => False) → (c (ds.map .frz ++ emps (n - ds.length))).sat K) : ∃ r, runDef n c ds = .ok r ∧ P r :=
  run_gen (P := fun x => ∃ r, x = .ok r ∧ P r) fun K k => h K ⟨fun q => k.nx ⟨_, rfl, q⟩, fun c e q => k.rt c e ⟨_, rfl, q⟩, fun _ _ q => q.elim⟩
theorem run_raise {n : Nat} {c : CS} {ds : List PyData} {x : Exc} (h : ∀ K, RK K False (fun _ _ => False) (fun y => y = x) → (c (ds.map .frz ++ emps (n - ds.length))).sat K) : runDef n c ds = .ex x :=
  run_gen (P := fun y => y = .ex x) fun K k => h K ⟨fun q => q.elim, fun _ _ q => q.elim, fun y e q => k.ex y e (by rw [q])⟩
structure RKI (K : KS) (R : Cell → PyData → Prop) : Prop where
  nx : ∀ e d, gC 0 e = .own true d → R (.frz .none) d → K.nx e
  rt : ∀ c e d, gC 0 e = .own true d → R c.out d → K.rt c e
theorem runI_ex {n : Nat} {c : CS} {d : PyData} {ds : List PyData} {P : Cell → PyData → Prop} (h : ∀ K, RKI K P → (c (.own true d :: ds.map .frz ++ emps (n - (ds.length + 1)))).sat K) : ∃ r d', runDefI n c d ds = .ok r d' ∧ P r d' := by
  have h := h ⟨fun e => ∃ d, gC 0 e = .own true d ∧ P (.frz .none) d, fun c e => ∃ d, gC 0 e = .own true d ∧ P c.out d, fun _ => False, fun _ => False, fun _ _ => False⟩ ⟨fun e d a b => ⟨d, a, b⟩, fun c e d a b => ⟨d, a, b⟩⟩
  unfold runDefI
  cases g : c (.own true d :: ds.map .frz ++ emps (n - (ds.length + 1))) with
  | nx e => rw [g] at h; obtain ⟨d', h1, h2⟩ := h; dsimp only; rw [getD_gC, h1]; exact ⟨_, _, rfl, h2⟩
  | rt c e => rw [g] at h; obtain ⟨d', h1, h2⟩ := h; dsimp only; rw [getD_gC, h1]; exact ⟨_, _, rfl, h2⟩
  | _ => rw [g] at h; exact h.elim
theorem runI_of {n : Nat} {c : CS} {d : PyData} {ds : List PyData} {r : Cell} {d' : PyData} (h : ∀ K, RKI K (fun c x => c = r ∧ x = d') → (c (.own true d :: ds.map .frz ++ emps (n - (ds.length + 1)))).sat K) : runDefI n c d ds = .ok r d' := by
  obtain ⟨r1, d1, e, rfl, rfl⟩ := runI_ex h
  exact e

theorem lck_of_mine {c : Cell} (h : c.mine = false) : isLck c = false := by cases c <;> first | rfl | cases h
/-! ### loops -/
/-- how a loop's turn may end: N the next turn, B behind the loop -/
structure LK (K' : KS) (N B : Cs → Prop) (K : KS) : Prop where
  nx : ∀ e, N e → K'.nx e
  ct : ∀ e, N e → K'.ct e
  bk : ∀ e, B e → K'.bk e
  rt : ∀ c e, K.rt c e → K'.rt c e
  ex : ∀ x e, K.ex x e → K'.ex x e
theorem LK.self (K : KS) (N B : Cs → Prop) : LK ⟨N, K.rt, B, N, K.ex⟩ N B K := ⟨fun _ h => h, fun _ h => h, fun _ h => h, fun _ _ h => h, fun _ _ h => h⟩
theorem sat_for0 {α : Type} {f : α → PyData} {g : Tg} {body : CS} {K : KS} {B : Cs → Prop} (I : List α → Cs → Prop)
    (hs : ∀ x rest e, I (x :: rest) e → ∀ K', LK K' (I rest) B K → isO (g.put (f x) e) fun e1 => (body e1).sat K') (he : ∀ e, I [] e → B e) :
    ∀ {xs : List α} {env : Cs}, I xs env → (forL g body (xs.map f) env).sat { K with nx := B }
  | [], env, h => he env h
  | x :: xs, env, h => by
    obtain ⟨e1, p, b⟩ := isO_ex (hs x xs env h _ (LK.self K (I xs) B))
    show (forL g body (f x :: xs.map f) env).sat _
    unfold forL
    rw [p]; dsimp only
    cases q : body e1 with
    | nx e2 => rw [q] at b; exact sat_for0 I hs he b
    | ct e2 => rw [q] at b; exact sat_for0 I hs he b
    | bk e2 => rw [q] at b; exact b
    | rt c e2 => rw [q] at b; exact b
    | ex x e2 => rw [q] at b; exact b
    | no => rw [q] at b; exact b
theorem sat_for {α : Type} {f : α → PyData} {g : Tg} {body : CS} {K : KS} {xs : List α} {env : Cs} (I : List α → Cs → Prop) (h0 : I xs env)
    (hs : ∀ x rest e, I (x :: rest) e → ∀ K', LK K' (I rest) K.nx K → isO (g.put (f x) e) fun e1 => (body e1).sat K') (he : ∀ e, I [] e → K.nx e) :
    (forL g body (xs.map f) env).sat K := sat_for0 (B := K.nx) I hs he h0
theorem sat_forT {α : Type} {f : α → PyData} {g : Tg} {body d : CS} {K : KS} {xs : List α} {env : Cs} (I : List α → Cs → Prop) (h0 : I xs env)
    (hs : ∀ x rest e, I (x :: rest) e → ∀ K', LK K' (I rest) (fun e => (d e).sat K) K → isO (g.put (f x) e) fun e1 => (body e1).sat K') (he : ∀ e, I [] e → (d e).sat K) :
    ((forL g body (xs.map f) env).then d).sat K := sat_then (sat_for0 (B := fun e => (d e).sat K) I hs he h0)
theorem sat_while0 {c : CT} {body : CS} {K : KS} {B : Cs → Prop} (I : Nat → Cs → Prop)
    (hs : ∀ k e, I k e → ∀ K' (Z : Cs → Prop), LK K' (fun e2 => ∃ k', k' < k ∧ I k' e2) B K → (∀ e, B e → Z e) → (c e).is fun t e1 => (t = true → (body e1).sat K') ∧ (t = false → Z e1)) :
    ∀ {n k : Nat} {env : Cs}, I k env → k < n → (whileL c body n env).sat { K with nx := B }
  | 0, k, env, h, hk => by omega
  | n + 1, k, env, h, hk => by
    obtain ⟨t, e1, p, b, a⟩ := is_ex1 (hs k env h _ _ (LK.self K _ B) fun _ h => h)
    unfold whileL
    rw [p]
    cases t with
    | false => exact a rfl
    | true =>
      dsimp only
      have b := b rfl
      cases q : body e1 with
      | nx e2 => rw [q] at b; obtain ⟨k', l, i⟩ := b; exact sat_while0 I hs i (by omega)
      | ct e2 => rw [q] at b; obtain ⟨k', l, i⟩ := b; exact sat_while0 I hs i (by omega)
      | bk e2 => rw [q] at b; exact b
      | rt c e2 => rw [q] at b; exact b
      | ex x e2 => rw [q] at b; exact b
      | no => rw [q] at b; exact b
theorem sat_while {c : CT} {body : CS} {K : KS} {n k : Nat} {env : Cs} (I : Nat → Cs → Prop) (h0 : I k env) (hk : k < n)
    (hs : ∀ k e, I k e → ∀ K' (Z : Cs → Prop), LK K' (fun e2 => ∃ k', k' < k ∧ I k' e2) K.nx K → (∀ e, K.nx e → Z e) → (c e).is fun t e1 => (t = true → (body e1).sat K') ∧ (t = false → Z e1)) :
    (whileL c body n env).sat K := sat_while0 (B := K.nx) I hs h0 hk
theorem sat_whileT {c : CT} {body d : CS} {K : KS} {n k : Nat} {env : Cs} (I : Nat → Cs → Prop) (h0 : I k env) (hk : k < n)
    (hs : ∀ k e, I k e → ∀ K' (Z : Cs → Prop), LK K' (fun e2 => ∃ k', k' < k ∧ I k' e2) (fun e => (d e).sat K) K → (∀ e, (d e).sat K → Z e) → (c e).is fun t e1 => (t = true → (body e1).sat K') ∧ (t = false → Z e1)) :
    ((whileL c body n env).then d).sat K := sat_then (sat_while0 (B := fun e => (d e).sat K) I hs h0 hk)

/-! ### a walk over the def's own list -/
@[simp] theorem ev_forO (i : Nat) (g : Tg) (body : CS) (env : Cs) : cForO i g body env = match g.slots.contains i with
    | true => .no
    | false => match gC i env with
      | .frz d => match seqOf d with
        | some ds => forL g body ds env
        | none => .no
      | .own b (.list ds) => openR i (.own b (.list ds)) (forL g body ds (env.set i (.lck (.list ds))))
      | .lck (.list ds) => forL g body ds env
      | _ => .no := by
  unfold cForO
  cases g.slots.contains i with
  | true => rfl
  | false =>
    dsimp only
    rw [getD_gC] <;> (cases gC i env with
      | own b d => cases d <;> rfl
      | lck d => cases d <;> rfl
      | _ => rfl)
@[simp] theorem slots_one (i : Nat) : (Tg.one i).slots = [i] := rfl
@[simp] theorem slots_many (is : List Nat) : (Tg.many is).slots = is := rfl
def KS.open (K : KS) (i : Nat) (c : Cell) : KS := ⟨fun e => K.nx (e.set i c), fun r e => K.rt r (e.set i c), fun e => K.bk (e.set i c), fun e => K.ct (e.set i c), fun x e => K.ex x (e.set i c)⟩
theorem sat_open {K : KS} {i : Nat} {c : Cell} {r : SRes} (h : r.sat (K.open i c)) : (openR i c r).sat K := by
  cases r <;> exact h
theorem sat_forO {α : Type} {f : α → PyData} {g : Tg} {body : CS} {K : KS} {xs : List α} {env : Cs} {i : Nat} {c : Cell} (I : List α → Cs → Prop) (h0 : I xs env)
    (hs : ∀ x rest e, I (x :: rest) e → ∀ K', LK K' (I rest) (fun e => K.nx (e.set i c)) (K.open i c) → isO (g.put (f x) e) fun e1 => (body e1).sat K') (he : ∀ e, I [] e → K.nx (e.set i c)) :
    (openR i c (forL g body (xs.map f) env)).sat K := sat_open (sat_for0 (B := fun e => K.nx (e.set i c)) (K := K.open i c) I hs he h0)
theorem sat_forOT {α : Type} {f : α → PyData} {g : Tg} {body d : CS} {K : KS} {xs : List α} {env : Cs} {i : Nat} {c : Cell} (I : List α → Cs → Prop) (h0 : I xs env)
    (hs : ∀ x rest e, I (x :: rest) e → ∀ K', LK K' (I rest) (fun e => (d (e.set i c)).sat K) (K.open i c) → isO (g.put (f x) e) fun e1 => (body e1).sat K') (he : ∀ e, I [] e → (d (e.set i c)).sat K) :
    ((openR i c (forL g body (xs.map f) env)).then d).sat K := by
  refine sat_then (sat_open ?_)
  exact sat_for0 (B := fun e => (d (e.set i c)).sat K) (K := K.open i c) I hs he h0
@[simp] theorem open_rt (K : KS) (i : Nat) (c r : Cell) (e : Cs) : (K.open i c).rt r e = K.rt r (e.set i c) := rfl

/-! ### comprehensions -/
theorem compL_run {α : Type} {f : α → PyData} {g : Tg} {ct : CT} {ce : CE} {vs : List Nat} (p : α → Bool) (h : α → PyData) (J : List α → Cs → Prop)
    (hs : ∀ x rest e, J (x :: rest) e → ∃ e1 e2, g.put (f x) (wipeE e vs) = some e1 ∧ ct e1 = .ok (p x) e2 ∧ (p x = true → ∃ c e3, ce e2 = .ok c e3 ∧ c.val = some (h x) ∧ J rest e3) ∧ (p x = false → J rest e2)) :
    ∀ {xs : List α} {env : Cs}, J xs env → ∃ e', compL g ct ce vs (xs.map f) env = .ok ((xs.filter p).map h) e' ∧ J [] e'
  | [], env, j => ⟨env, rfl, j⟩
  | x :: xs, env, j => by
    obtain ⟨e1, e2, p1, p2, p3, p4⟩ := hs x xs env j
    show ∃ e', compL g ct ce vs (f x :: xs.map f) env = _ ∧ _
    unfold compL
    rw [p1]; dsimp only; rw [p2]
    cases q : p x with
    | true =>
      obtain ⟨c, e3, q1, q2, q3⟩ := p3 q
      obtain ⟨e', r1, r2⟩ := compL_run p h J hs q3
      refine ⟨e', ?_, r2⟩
      dsimp only; rw [q1]; dsimp only; rw [q2]; dsimp only; rw [r1]
      simp [List.filter_cons, q]
    | false =>
      obtain ⟨e', r1, r2⟩ := compL_run p h J hs (p4 q)
      refine ⟨e', ?_, r2⟩
      dsimp only; rw [r1]
      simp [List.filter_cons, q]
theorem compL_inv {α : Type} {f : α → PyData} {g : Tg} {ct : CT} {ce : CE} {vs : List Nat} (J : List α → List PyData → Cs → Prop)
    (hs : ∀ x rest acc e, J (x :: rest) acc e → ∃ e1 t e2, g.put (f x) (wipeE e vs) = some e1 ∧ ct e1 = .ok t e2 ∧ (t = true → ∃ c e3 d, ce e2 = .ok c e3 ∧ c.val = some d ∧ J rest (acc ++ [d]) e3) ∧ (t = false → J rest acc e2)) :
    ∀ {xs : List α} {acc : List PyData} {env : Cs}, J xs acc env → ∃ ds e', compL g ct ce vs (xs.map f) env = .ok ds e' ∧ J [] (acc ++ ds) e'
  | [], acc, env, j => ⟨[], env, rfl, by rw [List.append_nil]; exact j⟩
  | x :: xs, acc, env, j => by
    obtain ⟨e1, t, e2, p1, p2, p3, p4⟩ := hs x xs acc env j
    show ∃ ds e', compL g ct ce vs (f x :: xs.map f) env = _ ∧ _
    unfold compL
    rw [p1]; dsimp only; rw [p2]
    cases t with
    | true =>
      obtain ⟨c, e3, d, q1, q2, q3⟩ := p3 rfl
      obtain ⟨ds, e', r1, r2⟩ := compL_inv J hs q3
      refine ⟨d :: ds, e', ?_, by rw [List.append_cons]; exact r2⟩
      dsimp only; rw [q1]; dsimp only; rw [q2]; dsimp only; rw [r1]
    | false =>
      obtain ⟨ds, e', r1, r2⟩ := compL_inv J hs (p4 rfl)
      refine ⟨ds, e', ?_, r2⟩
      dsimp only; rw [r1]
theorem comp_inv {α : Type} {f : α → PyData} {g : Tg} {ci : CI} {ct : CT} {ce : CE} {vs : List Nat} {env env1 : Cs} {xs : List α} {r : Res Cell} (hr : cComp g ci ct ce vs env = r) (J : List α → List PyData → Cs → Prop) (hci : ci env = .ok (xs.map f) env1) (hm : anyMineS env1 vs = false) (h0 : J xs [] env1)
    (hs : ∀ x rest acc e, J (x :: rest) acc e → ∀ (Y : PyData → Cs → Prop) (Z : Cs → Prop), (∀ d e3, J rest (acc ++ [d]) e3 → Y d e3) → (∀ e2, J rest acc e2 → Z e2) → isO (g.put (f x) (wipeE e vs)) fun e1 => (ct e1).is fun t e2 => (t = true → (ce e2).is fun c e3 => isO c.val fun d => Y d e3) ∧ (t = false → Z e2)) :
    ∃ ds e', r = .ok (.own false (.list ds)) (backE env1 vs e') ∧ J [] ds e' := by
  obtain ⟨ds, e', r1, r2⟩ := compL_inv J (fun x rest acc e hj => by
    obtain ⟨e1, p1, b⟩ := isO_ex (hs x rest acc e hj (fun d e3 => J rest (acc ++ [d]) e3) (fun e2 => J rest acc e2) (fun _ _ h => h) (fun _ h => h))
    obtain ⟨t, e2, p2, b1, b2⟩ := is_ex1 b
    refine ⟨e1, t, e2, p1, p2, fun q => ?_, b2⟩
    obtain ⟨c, e3, p3, b3⟩ := is_ex1 (b1 q)
    obtain ⟨d, p4, b4⟩ := isO_ex b3
    exact ⟨c, e3, d, p3, p4, b4⟩) h0
  refine ⟨ds, e', ?_, r2⟩
  rw [← hr, ev_comp, hci]; dsimp only; rw [hm]; dsimp only; rw [r1]
theorem set_back {env : Cs} {v : Nat} {j : Cell} (hv : v < env.length) : (env.set v j).set v (gC v env) = env := by
  rw [List.set_set, ← getD_gC, List.getD_eq_getElem?_getD, List.getElem?_eq_getElem hv]
  simp
theorem set_back_get {env : Cs} {v : Nat} {j : Cell} (hv : v < env.length) : (env.set v j).set v (env.getD v .emp) = env := by
  rw [getD_gC, set_back hv]
theorem comp_key {α : Type} {f : α → PyData} {v : Nat} {ct : CT} {ce : CE} {env : Cs} {xs : List α} (p : α → Bool) (h : α → PyData) (hv : v < env.length)
    (hs : ∀ x ∈ xs, ct (env.set v (.frz (f x))) = .ok (p x) (env.set v (.frz (f x))) ∧ (p x = true → (ce (env.set v (.frz (f x)))).is fun c e' => c.val = some (h x) ∧ ∃ j, e' = env.set v j)) :
    ∃ j, compL (.one v) ct ce [v] (xs.map f) env = .ok ((xs.filter p).map h) (env.set v j) := by
  have key := compL_run (g := .one v) (vs := [v]) (ct := ct) (ce := ce) (f := f) p h (fun rest e => (∃ j, e = env.set v j) ∧ ∀ x ∈ rest, x ∈ xs) (fun x rest e hj => by
    obtain ⟨⟨j, rfl⟩, hr⟩ := hj
    obtain ⟨s1, s2⟩ := hs x (hr x List.mem_cons_self)
    refine ⟨env.set v (.frz (f x)), env.set v (.frz (f x)), ?_, s1, fun q => ?_, fun _ => ⟨⟨_, rfl⟩, fun y hy => hr y (List.mem_cons_of_mem _ hy)⟩⟩
    · have e1 : wipeE (env.set v j) [v] = env.set v .emp := by
        show (env.set v j).set v .emp = _
        rw [List.set_set]
      rw [e1, put_one]
      have e2 : gC v (env.set v .emp) = .emp := by rw [← getD_gC, List.getD_eq_getElem?_getD, List.getElem?_set_self hv]; rfl
      rw [e2, lck_emp]
      dsimp only
      rw [List.set_set]
    · obtain ⟨c, e', q1, q2, j, rfl⟩ := is_ex1 (s2 q)
      exact ⟨c, _, q1, q2, ⟨_, rfl⟩, fun y hy => hr y (List.mem_cons_of_mem _ hy)⟩) (xs := xs) (env := env)
  obtain ⟨e', r1, ⟨j, rfl⟩, _⟩ := key ⟨⟨gC v env, by rw [← getD_gC, List.getD_eq_getElem?_getD, List.getElem?_eq_getElem hv]; simp⟩, fun x h => h⟩
  exact ⟨j, r1⟩
/-- nothing but the comprehension's own name is changed -/
theorem comp1 {α : Type} {f : α → PyData} {v : Nat} {ci : CI} {ct : CT} {ce : CE} {env : Cs} {xs : List α} (p : α → Bool) (h : α → PyData)
    (hci : ci env = .ok (xs.map f) env) (hv : v < env.length) (hm : (gC v env).mine = false)
    (hs : ∀ x ∈ xs, ct (env.set v (.frz (f x))) = .ok (p x) (env.set v (.frz (f x))) ∧ (p x = true → (ce (env.set v (.frz (f x)))).is fun c e' => c.val = some (h x) ∧ ∃ j, e' = env.set v j)) :
    cComp (.one v) ci ct ce [v] env = .ok (.own false (.list ((xs.filter p).map h))) env := by
  obtain ⟨j, r1⟩ := comp_key p h hv hs
  unfold cComp
  rw [hci]; dsimp only
  have e3 : anyMineS env [v] = false := by
    show ((env.getD v .emp).mine || false) = false
    rw [getD_gC, hm]; rfl
  rw [e3]; dsimp only; rw [r1]
  show Res.ok _ ((env.set v j).set v (env.getD v .emp)) = _
  rw [getD_gC, set_back hv]
/-- .. all of it true -/
theorem comp1T {α : Type} {f : α → PyData} {v : Nat} {ci : CI} {ct : CT} {ce : CE} {env : Cs} (xs : List α)
    (hci : ci env = .ok (xs.map f) env) (hv : v < env.length) (hm : (gC v env).mine = false)
    (hs : ∀ x ∈ xs, ct (env.set v (.frz (f x))) = .ok true (env.set v (.frz (f x))) ∧ (true = true → (ce (env.set v (.frz (f x)))).is fun c e' => c.val = some (.bool true) ∧ ∃ j, e' = env.set v j)) :
    ∃ ds, cComp (.one v) ci ct ce [v] env = .ok (.own false (.list ds)) env ∧ oAll [.list ds] = .val (.frz (.bool true)) := by
  refine ⟨_, comp1 (fun _ => true) (fun _ => .bool true) hci hv hm hs, ?_⟩
  have : ∀ l : List α, boolsOf (l.map fun _ => PyData.bool true) = some (l.map fun _ => true) := fun l => by
    induction l with
    | nil => rfl
    | cons x l ih => rw [List.map_cons, List.map_cons]; unfold boolsOf; simp [ih]
  unfold oAll onBools; simp [this]
/-- .. over a name of the def's: its own list is locked while it is walked -/
theorem compO_own {α : Type} {f : α → PyData} {i v : Nat} {ct : CT} {ce : CE} {env : Cs} {xs : List α} {b : Bool} (p : α → Bool) (h : α → PyData)
    (hi : gC i env = .own b (.list (xs.map f))) (hv : v < env.length) (hm : (gC v env).mine = false) (hne : i ≠ v)
    (hs : ∀ x ∈ xs, ct ((env.set i (.lck (.list (xs.map f)))).set v (.frz (f x))) = .ok (p x) ((env.set i (.lck (.list (xs.map f)))).set v (.frz (f x))) ∧ (p x = true → (ce ((env.set i (.lck (.list (xs.map f)))).set v (.frz (f x)))).is fun c e' => c.val = some (h x) ∧ ∃ j, e' = (env.set i (.lck (.list (xs.map f)))).set v j)) :
    cCompO i (.one v) ct ce [v] env = .ok (.own false (.list ((xs.filter p).map h))) env := by
  have e3 : (anyMineS env [v] || [v].contains i) = false := by
    show ((env.getD v .emp).mine || false || [v].contains i) = false
    rw [getD_gC, hm]; simp [hne]
  have hil : i < env.length := by
    apply Classical.byContradiction; intro z
    rw [← getD_gC, List.getD_eq_getElem?_getD, List.getElem?_eq_none (by omega)] at hi
    cases hi
  unfold cCompO
  rw [e3]; dsimp only; rw [getD_gC, hi]; dsimp only
  obtain ⟨j, r1⟩ := comp_key (env := env.set i (.lck (.list (xs.map f)))) p h (by rw [List.length_set]; exact hv) hs
  rw [r1]; dsimp only
  congr 1
  show ((((env.set i _).set v j).set v ((env.set i _).getD v .emp)).set i _) = env
  rw [set_back_get]
  · rw [List.set_set, ← hi, ← getD_gC, List.getD_eq_getElem?_getD, List.getElem?_eq_getElem hil]; simp
  · rw [List.length_set]; exact hv
theorem compO_ro {α : Type} {f : α → PyData} {i v : Nat} {ct : CT} {ce : CE} {env : Cs} {xs : List α} (p : α → Bool) (h : α → PyData)
    (hi : gC i env = .frz (.list (xs.map f)) ∨ gC i env = .frz (.tuple (xs.map f)) ∨ gC i env = .lck (.list (xs.map f))) (hv : v < env.length) (hm : (gC v env).mine = false) (hne : i ≠ v)
    (hs : ∀ x ∈ xs, ct (env.set v (.frz (f x))) = .ok (p x) (env.set v (.frz (f x))) ∧ (p x = true → (ce (env.set v (.frz (f x)))).is fun c e' => c.val = some (h x) ∧ ∃ j, e' = env.set v j)) :
    cCompO i (.one v) ct ce [v] env = .ok (.own false (.list ((xs.filter p).map h))) env := by
  have e3 : (anyMineS env [v] || [v].contains i) = false := by
    show ((env.getD v .emp).mine || false || [v].contains i) = false
    rw [getD_gC, hm]; simp [hne]
  obtain ⟨j, r1⟩ := comp_key (env := env) p h hv hs
  unfold cCompO
  rw [e3]; dsimp only; rw [getD_gC]
  rcases hi with hi | hi | hi <;> rw [hi] <;> simp only [seqOf] <;> rw [r1] <;> dsimp only <;> congr 1 <;> exact set_back_get hv
end DL

/-! PVC: operations on data of a known form. -/
namespace DL
open PySem L2

/-- whole numbers from 0 on -/
def nD (n : Nat) : PyData := .int n
@[simp] theorem nD_eq (n : Nat) : nD n = PyData.int (n : Int) := rfl
def laD (l : List Nat) : PyData := .tuple (l.map nD)
def liD (l : List Nat) : PyData := .list (l.map nD)
@[simp] theorem oAdd_int (i j : Int) : oAdd (.int i) (.int j) = .val (.frz (.int (i + j))) := rfl
@[simp] theorem oAdd_list (a b : List PyData) : oAdd (.list a) (.list b) = if a.length + b.length ≤ lim then .val (.own false (.list (a ++ b))) else .no := rfl
@[simp] theorem oAdd_tuple (a b : List PyData) : oAdd (.tuple a) (.tuple b) = if a.length + b.length ≤ lim then .val (.frz (.tuple (a ++ b))) else .no := rfl
@[simp] theorem oAdd_str (a b : Str) : oAdd (.str a) (.str b) = if a.length + b.length ≤ lim then .val (.frz (.str (a ++ b))) else .no := rfl
@[simp] theorem oAdd_la (a b : List Nat) : oAdd (laD a) (laD b) = if a.length + b.length ≤ lim then .val (.frz (laD (a ++ b))) else .no := by
  show oAdd (.tuple (a.map nD)) (.tuple (b.map nD)) = _
  rw [oAdd_tuple, List.length_map, List.length_map, ← List.map_append]; rfl
@[simp] theorem oAdd_la1 (a : List Nat) (n : Nat) : oAdd (laD a) (.tuple [.int (n : Int)]) = if a.length + 1 ≤ lim then .val (.frz (laD (a ++ [n]))) else .no := oAdd_la a [n]
@[simp] theorem oSub_int (i j : Int) : oSub (.int i) (.int j) = .val (.frz (.int (i - j))) := rfl
@[simp] theorem oMul_int (i j : Int) : oMul (.int i) (.int j) = if small i || small j then .val (.frz (.int (i * j))) else .no := rfl
@[simp] theorem oFdiv_int (i j : Int) : oFdiv (.int i) (.int j) = if 0 < j ∧ j < 1073741824 then .val (.frz (.int (i / j))) else .no := rfl
@[simp] theorem oMod_int (i j : Int) : oMod (.int i) (.int j) = if 0 < j then .val (.frz (.int (i % j))) else .no := rfl
@[simp] theorem oCmp_int (p : Int → Int → Bool) (i j : Int) : oCmp p (.int i) (.int j) = .val (.frz (.bool (p i j))) := rfl
@[simp] theorem oLen_list (ds : List PyData) : oLen [.list ds] = .val (.frz (.int ds.length)) := rfl
@[simp] theorem oLen_tuple (ds : List PyData) : oLen [.tuple ds] = .val (.frz (.int ds.length)) := rfl
@[simp] theorem oLen_scr (ds : List PyData) : oLen [.dict [(.none, .list ds)]] = .val (.frz (.int ds.length)) := rfl
@[simp] theorem oList_list (ds : List PyData) : oList [.list ds] = .val (.own false (.list ds)) := rfl
@[simp] theorem oList_tuple (ds : List PyData) : oList [.tuple ds] = .val (.own false (.list ds)) := rfl
@[simp] theorem oTuple_list (ds : List PyData) : oTuple [.list ds] = .val (.frz (.tuple ds)) := rfl
@[simp] theorem oTuple_tuple (ds : List PyData) : oTuple [.tuple ds] = .val (.frz (.tuple ds)) := rfl
@[simp] theorem oMax2_int (i j : Int) : oMax2 [.int i, .int j] = .val (.frz (.int (if j > i then j else i))) := rfl
@[simp] theorem oMin2_int (i j : Int) : oMin2 [.int i, .int j] = .val (.frz (.int (if j < i then j else i))) := rfl
@[simp] theorem oAbs_int (i : Int) : oAbs [.int i] = .val (.frz (.int (if i < 0 then -i else i))) := rfl
@[simp] theorem oDivmod_int (i j : Int) : oDivmod [.int i, .int j] = if 0 < j ∧ j < 1073741824 then .val (.frz (.tuple [.int (i / j), .int (i % j)])) else .no := rfl
@[simp] theorem oInt_int (i : Int) : oInt [.int i] = .val (.frz (.int i)) := rfl
@[simp] theorem oInt_bool (b : Bool) : oInt [.bool b] = .val (.frz (.int (if b then 1 else 0))) := rfl
@[simp] theorem oIx_list (ds : List PyData) (i : Int) : oIx (.list ds) (.int i) = match atI ds i with
    | some d => .val (.frz d)
    | none => .no := rfl
@[simp] theorem oIx_tuple (ds : List PyData) (i : Int) : oIx (.tuple ds) (.int i) = match atI ds i with
    | some d => .val (.frz d)
    | none => .no := rfl
@[simp] theorem oIx_scr (ds : List PyData) (i : Int) : oIx (.dict [(.none, .list ds)]) (.int i) = match atI ds i with
    | some d => .val (.frz d)
    | none => .no := rfl
theorem atI_nat {α : Type} (ds : List α) (n : Nat) : atI ds (n : Int) = ds[n]? := by
  unfold atI ixN
  have h0 : (0 : Int) ≤ (n : Int) := Int.natCast_nonneg n
  rw [if_pos h0]
  by_cases h : (n : Int) < (ds.length : Int)
  · rw [if_pos h]; rfl
  · rw [if_neg h, List.getElem?_eq_none (by omega)]; rfl
theorem atI_neg {α : Type} (ds : List α) (n : Nat) (h : 0 < n) (h2 : n ≤ ds.length) : atI ds (-(n : Int)) = ds[ds.length - n]? := by
  unfold atI ixN
  rw [if_neg (show ¬ (0 : Int) ≤ -(n : Int) by omega)]
  first
  | (rw [if_pos (show -(ds.length : Int) ≤ -(n : Int) by omega)]
     have e : (-(n : Int) + (ds.length : Int)).toNat = ds.length - n := by omega
     rw [e]; rfl)
  | (simp; omega)
@[simp] theorem atI_map {α : Type} (f : α → PyData) (xs : List α) (i : Int) : atI (xs.map f) i = (atI xs i).map f := by
  unfold atI
  rw [List.length_map]
  cases ixN xs.length i with
  | none => rfl
  | some j => show (xs.map f)[j]? = (xs[j]?).map f; rw [List.getElem?_map]
@[simp] theorem mAppend_list (ds : List PyData) (d : PyData) : mAppend (.list ds) [d] = if ds.length < lim then .ok (.frz .none) (.list (ds ++ [d])) else .no := rfl
@[simp] theorem mExtend_list (ds es : List PyData) : mExtend (.list ds) [.list es] = if ds.length + es.length ≤ lim then .ok (.frz .none) (.list (ds ++ es)) else .no := rfl
@[simp] theorem mExtend_tuple (ds es : List PyData) : mExtend (.list ds) [.tuple es] = if ds.length + es.length ≤ lim then .ok (.frz .none) (.list (ds ++ es)) else .no := rfl
@[simp] theorem mClear_list (ds : List PyData) : mClear (.list ds) [] = .ok (.frz .none) (.list []) := rfl
@[simp] theorem pev_none (env : Cs) : POp.ev .none env = .ok Option.none env := rfl
@[simp] theorem pev_some (o : Opd) (env : Cs) : POp.ev (.some o) env = (o.ev env).bind fun l env1 => match l.get env1 with
    | Option.some (.int i) => .ok (Option.some i) env1
    | _ => .no := rfl
@[simp] theorem ev_sl (o : Opd) (lo hi : POp) (env : Cs) : cSl o lo hi env = (o.ev env).bind fun l env1 => (lo.ev env1).bind fun ll env2 => (hi.ev env2).bind fun lh env3 => match l.get env3 with
    | some d => (oSl d ll lh).fin env3
    | _ => .no := rfl
@[simp] theorem oSl_list (ds : List PyData) (lo hi : Option Int) : oSl (.list ds) lo hi = .val (.own false (.list (cutD ds lo hi))) := rfl
@[simp] theorem oSl_tuple (ds : List PyData) (lo hi : Option Int) : oSl (.tuple ds) lo hi = .val (.frz (.tuple (cutD ds lo hi))) := rfl
/-- a slice -/
def cutL {α : Type} (ds : List α) (lo hi : Option Int) : List α := (ds.drop (HT.sIx ds.length 0 lo)).take (HT.sIx ds.length ds.length hi - HT.sIx ds.length 0 lo)
@[simp] theorem cutD_map {α : Type} (f : α → PyData) (xs : List α) (lo hi : Option Int) : cutD (xs.map f) lo hi = (cutL xs lo hi).map f := by
  unfold cutD cutL; rw [List.length_map, List.map_take, List.map_drop]
theorem cutL_take {α : Type} (ds : List α) (n : Nat) : cutL ds none (some (n : Int)) = ds.take n := by
  unfold cutL
  rw [HT.sIx_none, HT.sIx_nat, List.drop_zero, Nat.sub_zero, ← List.take_take, List.take_length]
theorem cutL_drop {α : Type} (ds : List α) (n : Nat) : cutL ds (some (n : Int)) none = ds.drop n := by
  unfold cutL
  rw [HT.sIx_none, HT.sIx_nat]
  by_cases h : n ≤ ds.length
  · rw [Nat.min_eq_left h, List.take_of_length_le]; rw [List.length_drop]; omega
  · rw [List.drop_of_length_le (by omega), List.drop_of_length_le (by omega), List.take_nil]
@[simp] theorem isT_list (ds : List PyData) : isT "list" (.list ds) = true := rfl
@[simp] theorem seqOf_list (ds : List PyData) : seqOf (.list ds) = some ds := rfl
@[simp] theorem seqOf_tuple (ds : List PyData) : seqOf (.tuple ds) = some ds := rfl
@[simp] theorem rg1_int (n : Int) : rg1 [.int n] = if -1000000 ≤ n ∧ n ≤ 1000000 then some (rgD 0 n.toNat) else none := rfl
@[simp] theorem rg2_int (a n : Int) : rg2 [.int a, .int n] = if (-1000000 ≤ a ∧ a ≤ 1000000) ∧ -1000000 ≤ n ∧ n ≤ 1000000 then some (rgD a (n - a).toNat) else none := rfl
@[simp] theorem rg3_int (a b c : Int) : rg3 [.int a, .int b, .int c] = if c = -1 ∧ (-1000000 ≤ a ∧ a ≤ 1000000) ∧ -1000000 ≤ b ∧ b ≤ 1000000 then some (rgDown a (a - b).toNat) else none := rfl
theorem rgD0 (n : Nat) : rgD 0 n = (List.range n).map nD := by
  unfold rgD; apply List.map_congr_left; intro i _; show PyData.int (0 + (i : Int)) = .int i; rw [Int.zero_add]
/-! ### == of data of one kind -/
class EncOk {α : Type} [DecidableEq α] (f : α → PyData) : Prop where
  eqv : ∀ a b, PyData.eqv (f a) (f b) = decide (a = b)
  lay : ∀ a, (f a).canLay0 = true
  dpt : ∀ a, (f a).depth ≤ 8
section
variable {α : Type} [DecidableEq α] {f : α → PyData} [EncOk f]
theorem eqvAll_map : ∀ a b : List α, PyData.eqvAll (a.map f) (b.map f) = decide (a = b)
  | [], [] => by simp [PyData.eqvAll]
  | x :: a, [] => by simp [PyData.eqvAll]
  | [], y :: b => by simp [PyData.eqvAll]
  | x :: a, y :: b => by simp [PyData.eqvAll, eqvAll_map a b, EncOk.eqv (f := f)]
theorem layAll_map : ∀ a : List α, PyData.canLayAll0 (a.map f) = true
  | [] => by simp [PyData.canLayAll0]
  | x :: a => by simp [PyData.canLayAll0, EncOk.lay (f := f) x, layAll_map a]
theorem depAll_map : ∀ a : List α, PyData.depthAll (a.map f) ≤ 8
  | [] => by simp [PyData.depthAll]
  | x :: a => by
    have h1 := EncOk.dpt (f := f) x
    have h2 := depAll_map a
    simp only [List.map_cons, PyData.depthAll]; omega
theorem shp_enc (a : α) : shp (f a) = true := by
  have h1 := EncOk.dpt (f := f) a
  unfold shp SeqAt.shaped
  rw [EncOk.lay (f := f) a]; simp; omega
@[simp] theorem shp_listM (a : List α) : shp (.list (a.map f)) = true := by
  have h1 := depAll_map (f := f) a
  unfold shp SeqAt.shaped
  simp [PyData.canLay0, PyData.depth, layAll_map (f := f) a]; omega
@[simp] theorem shp_tupleM (a : List α) : shp (.tuple (a.map f)) = true := by
  have h1 := depAll_map (f := f) a
  unfold shp SeqAt.shaped
  simp [PyData.canLay0, PyData.depth, layAll_map (f := f) a]; omega
@[simp] theorem shp_nilL : shp (.list []) = true := by decide
@[simp] theorem shp_nilT : shp (.tuple []) = true := by decide
@[simp] theorem oEq_listM (a b : List α) : oEq (.list (a.map f)) (.list (b.map f)) = .val (.frz (.bool (decide (a = b)))) := by
  unfold oEq oEqD; simp [PyData.eqv, eqvAll_map (f := f)]
@[simp] theorem oEq_tupleM (a b : List α) : oEq (.tuple (a.map f)) (.tuple (b.map f)) = .val (.frz (.bool (decide (a = b)))) := by
  unfold oEq oEqD; simp [PyData.eqv, eqvAll_map (f := f)]
@[simp] theorem oNe_listM (a b : List α) : oNe (.list (a.map f)) (.list (b.map f)) = .val (.frz (.bool (!decide (a = b)))) := by
  unfold oNe oEqD; simp [PyData.eqv, eqvAll_map (f := f)]
@[simp] theorem oNe_tupleM (a b : List α) : oNe (.tuple (a.map f)) (.tuple (b.map f)) = .val (.frz (.bool (!decide (a = b)))) := by
  unfold oNe oEqD; simp [PyData.eqv, eqvAll_map (f := f)]
theorem eqvAll_nil (a : List α) : PyData.eqvAll (a.map f) [] = decide (a = []) := by cases a <;> simp [PyData.eqvAll]
@[simp] theorem oEq_listN (a : List α) : oEq (.list (a.map f)) (.list []) = .val (.frz (.bool (decide (a = [])))) := by
  unfold oEq oEqD; simp [PyData.eqv, eqvAll_nil (f := f)]
@[simp] theorem oEq_tupleN (a : List α) : oEq (.tuple (a.map f)) (.tuple []) = .val (.frz (.bool (decide (a = [])))) := by
  unfold oEq oEqD; simp [PyData.eqv, eqvAll_nil (f := f)]
@[simp] theorem oNe_listN (a : List α) : oNe (.list (a.map f)) (.list []) = .val (.frz (.bool (!decide (a = [])))) := by
  unfold oNe oEqD; simp [PyData.eqv, eqvAll_nil (f := f)]
@[simp] theorem oNe_tupleN (a : List α) : oNe (.tuple (a.map f)) (.tuple []) = .val (.frz (.bool (!decide (a = [])))) := by
  unfold oNe oEqD; simp [PyData.eqv, eqvAll_nil (f := f)]
end
@[simp] theorem oEq_nilL : oEq (.list []) (.list []) = .val (.frz (.bool true)) := rfl
@[simp] theorem oNe_nilL : oNe (.list []) (.list []) = .val (.frz (.bool false)) := rfl
@[simp] theorem oEq_nilT : oEq (.tuple []) (.tuple []) = .val (.frz (.bool true)) := rfl
@[simp] theorem oNe_nilT : oNe (.tuple []) (.tuple []) = .val (.frz (.bool false)) := rfl
@[simp] theorem oEq_int (i j : Int) : oEq (.int i) (.int j) = .val (.frz (.bool (decide (i = j)))) := by
  unfold oEq oEqD; simp only [strD_int]; rw [show shp (.int i) = true from rfl, show shp (.int j) = true from rfl]; simp [PyData.eqv]; rfl
@[simp] theorem oNe_int (i j : Int) : oNe (.int i) (.int j) = .val (.frz (.bool (!decide (i = j)))) := by
  unfold oNe oEqD; simp only [strD_int]; rw [show shp (.int i) = true from rfl, show shp (.int j) = true from rfl]; simp [PyData.eqv]; rfl
@[simp] theorem oEq_bool (i j : Bool) : oEq (.bool i) (.bool j) = .val (.frz (.bool (i == j))) := by
  unfold oEq oEqD; simp only [strD_bool]; rw [show shp (.bool i) = true from rfl, show shp (.bool j) = true from rfl]; simp [PyData.eqv]
@[simp] theorem oNe_bool (i j : Bool) : oNe (.bool i) (.bool j) = .val (.frz (.bool (!(i == j)))) := by
  unfold oNe oEqD; simp only [strD_bool]; rw [show shp (.bool i) = true from rfl, show shp (.bool j) = true from rfl]; simp [PyData.eqv]
instance : EncOk nD where
  eqv a b := by simp [PyData.eqv]; rw [Bool.eq_iff_iff]; simp; omega
  lay a := rfl
  dpt a := by simp [PyData.depth]
def netD (t : List (List Nat)) : PyData := .tuple (t.map laD)
instance : EncOk laD where
  eqv a b := by show PyData.eqv (.tuple (a.map nD)) (.tuple (b.map nD)) = _; simp only [PyData.eqv, eqvAll_map (f := nD)]
  lay a := by show PyData.canLay0 (.tuple (a.map nD)) = true; simp only [PyData.canLay0, layAll_map (f := nD)]
  dpt a := by
    show PyData.depth (.tuple (a.map nD)) ≤ 8
    have : ∀ a : List Nat, PyData.depthAll (a.map nD) = 0 := fun a => by
      induction a with
      | nil => rfl
      | cons x a ih => simp only [List.map_cons, PyData.depthAll, ih]; rfl
    simp only [PyData.depth, this]; omega
@[simp] theorem oLen_net (t : List (List Nat)) : oLen [netD t] = .val (.frz (.int t.length)) := by show oLen [.tuple (t.map laD)] = _; simp
@[simp] theorem oLen_la (t : List Nat) : oLen [laD t] = .val (.frz (.int t.length)) := by show oLen [.tuple (t.map nD)] = _; simp
@[simp] theorem oLen_li (t : List Nat) : oLen [liD t] = .val (.frz (.int t.length)) := by show oLen [.list (t.map nD)] = _; simp
@[simp] theorem oIx_net (t : List (List Nat)) (i : Int) : oIx (netD t) (.int i) = match atI t i with
    | some l => .val (.frz (laD l))
    | none => .no := by
  show oIx (.tuple (t.map laD)) (.int i) = _; simp; cases atI t i <;> rfl
@[simp] theorem oIx_la (t : List Nat) (i : Int) : oIx (laD t) (.int i) = match atI t i with
    | some l => .val (.frz (nD l))
    | none => .no := by
  show oIx (.tuple (t.map nD)) (.int i) = _; simp; cases atI t i <;> rfl
@[simp] theorem seqOf_net (t : List (List Nat)) : seqOf (netD t) = some (t.map laD) := rfl
@[simp] theorem seqOf_la (t : List Nat) : seqOf (laD t) = some (t.map nD) := rfl
@[simp] theorem seqOf_li (t : List Nat) : seqOf (liD t) = some (t.map nD) := rfl
@[simp] theorem filterT {α : Type} (l : List α) : l.filter (fun _ => true) = l := by induction l with | nil => rfl | cons x l ih => simp [List.filter_cons, ih]
theorem rgL_nat (n : Nat) : rgL 0 (n : Int) = (List.range n).map nD := by unfold rgL; rw [show ((n : Int) - 0).toNat = n by omega, rgD0]
@[simp] theorem ev_rg1 (k : List PyData → OR) (o : Opd) (env : Cs) : cRg1 k o env = (o.ev env).bind fun l env1 => match l.get env1 with
  | some (.int n) => if -1000000 ≤ n ∧ n ≤ 1000000 then (k (rgL 0 n)).fin env1 else .no
  | _ => .no := rfl
@[simp] theorem flat_int (i : Int) : flatD (.int i) = true := rfl
@[simp] theorem flats_nD (l : List Nat) : (l.map nD).all flatD = true := by simp
@[simp] theorem has_nD (n : Nat) (l : List Nat) : hasD (.int (n : Int)) (l.map nD) = l.contains n := by
  unfold hasD
  induction l with
  | nil => rfl
  | cons x l ih =>
    rw [List.map_cons, List.any_cons, ih, List.contains_cons]
    congr 1
    simp [PyData.eqv]; rw [Bool.eq_iff_iff]; simp; omega
@[simp] theorem oIn_tuple (neg : Bool) (n : Nat) (l : List Nat) : oIn neg (.int (n : Int)) (.tuple (l.map nD)) = .val (.frz (.bool (if neg then !l.contains n else l.contains n))) := by
  unfold oIn; simp only [flat_int, flats_nD, has_nD]; rfl
@[simp] theorem oIn_list (neg : Bool) (n : Nat) (l : List Nat) : oIn neg (.int (n : Int)) (.list (l.map nD)) = .val (.frz (.bool (if neg then !l.contains n else l.contains n))) := by
  unfold oIn; simp only [flat_int, flats_nD, has_nD]; rfl
theorem boolsOf_map {α : Type} (p : α → Bool) : ∀ l : List α, boolsOf (l.map fun x => PyData.bool (p x)) = some (l.map p)
  | [] => rfl
  | x :: l => by rw [List.map_cons, List.map_cons]; unfold boolsOf; simp [boolsOf_map p l]
@[simp] theorem oAll_map {α : Type} (p : α → Bool) (l : List α) : oAll [.list (l.map fun x => PyData.bool (p x))] = .val (.frz (.bool (l.all p))) := by
  unfold oAll onBools; simp [boolsOf_map p l]
@[simp] theorem oAny_map {α : Type} (p : α → Bool) (l : List α) : oAny [.list (l.map fun x => PyData.bool (p x))] = .val (.frz (.bool (l.any p))) := by
  unfold oAny onBools; simp [boolsOf_map p l]
theorem oAll_true {α : Type} (l : List α) : oAll [.list (l.map fun _ => PyData.bool true)] = .val (.frz (.bool true)) := by
  rw [oAll_map (fun _ => true) l]; simp
theorem small_of {i : Int} (h0 : 0 ≤ i) (h1 : i < 18446744073709551616) : small i = true := by
  unfold small; simp; omega
@[simp] theorem noLists_nil : noLists [] = true := rfl
@[simp] theorem noLists_nD (l : List Nat) : noLists (l.map nD) = true := by
  induction l with
  | nil => rfl
  | cons x l ih => rw [List.map_cons, noLists, ih]; rfl
@[simp] theorem noList_laD (l : List Nat) : noList (laD l) = true := noLists_nD l
@[simp] theorem noLists_laD (l : List (List Nat)) : noLists (l.map laD) = true := by
  induction l with
  | nil => rfl
  | cons x l ih => rw [List.map_cons, noLists, ih, noList_laD]; rfl
@[simp] theorem low_frzI (i : Int) : lowC (.frz (.int i)) = true := rfl
@[simp] theorem low_frzB (i : Bool) : lowC (.frz (.bool i)) = true := rfl
@[simp] theorem low_frzN : lowC (.frz .none) = true := rfl
@[simp] theorem low_frzS (i : Str) : lowC (.frz (.str i)) = true := rfl
@[simp] theorem low_tup (ds : List PyData) : lowC (.frz (.tuple ds)) = noLists ds := rfl
@[simp] theorem low_ownL (b : Bool) (ds : List PyData) : lowC (.own b (.list ds)) = noLists ds := rfl
@[simp] theorem low_frzL (ds : List PyData) : lowC (.frz (.list ds)) = false := rfl
end DL

/-! PDA: what a law draws. -/
namespace DL
open PySem L2
def c__law_cell : CS := (cSeq (cIfS (toT (cOp2 oLt (.nm 1) (.ex (cOpN oLen [(.nm 0)])))) (cRet (cOp2 oIx (.nm 0) (.nm 1))) cNext)
    (cRet (cK (.int 0))))
def m__law_cell : Fn := runDef 2 c__law_cell
def c__law_mix : CS := (cSeq (cSet 2 (cLst [(.ex (cK (.int 48271))), (.ex (cK (.int 69621))), (.ex (cK (.int 16807))), (.ex (cK (.int 39373))), (.ex (cK (.int 30269))), (.ex (cK (.int 40014))), (.ex (cK (.int 40692))), (.ex (cK (.int 50021))), (.ex (cK (.int 61687))), (.ex (cK (.int 71993))), (.ex (cK (.int 83869))), (.ex (cK (.int 95561))), (.ex (cK (.int 30307)))]))
    (cSeq (cSet 3 (cOp2 oAdd (.ex (cOp2 oAdd (.ex (cOp2 oMul (.ex (cOp2 oAdd (.ex (cOp2 oMod (.nm 0) (.ex (cK (.int 2147483647))))) (.ex (cK (.int 12345))))) (.ex (cOp2 oIx (.nm 2) (.ex (cOp2 oMod (.nm 1) (.ex (cK (.int 13))))))))) (.ex (cOp2 oMul (.ex (cK (.int 977))) (.nm 1))))) (.ex (cOp2 oMul (.ex (cK (.int 7919))) (.ex (cOp2 oFdiv (.nm 1) (.ex (cK (.int 13)))))))))
    (cSeq (cSet 3 (cOp2 oMod (.nm 3) (.ex (cK (.int 1000000007)))))
    (cRet (cOp2 oFdiv (.ex (cOp2 oMod (.ex (cOp2 oAdd (.ex (cOp2 oMul (.nm 3) (.nm 3))) (.ex (cOp2 oMul (.ex (cK (.int 48271))) (.nm 1))))) (.ex (cK (.int 1000000007))))) (.ex (cK (.int 7))))))))
def m__law_mix : Fn := runDef 4 c__law_mix
def c__law_box : CS := (cSeq (cSet 2 (cCall m__law_cell [(.nm 0), (.nm 1)]))
    (cSeq (cIfS (toT (cOp2 oEq (.ex (cOp2 oMod (.nm 2) (.ex (cK (.int 2))))) (.ex (cK (.int 0))))) (cRet (cLst [(.ex (cOp2 oFdiv (.ex (cOpN oAbs [(.nm 2)])) (.ex (cK (.int 2)))))])) cNext)
    (cSeq (cSet 3 (cK (.int 0)))
    (cSeq (cFor (.one 4) (iArgs rg1 [(.ex (cK (.int 40)))]) (cSet 3 (cOp2 oAdd (.ex (cOp2 oMul (.nm 3) (.ex (cK (.int 142857143))))) (.ex (cCall m__law_mix [(.nm 2), (.nm 4)])))))
    (cRet (cLst [(.ex (cVar 3))]))))))
def m__law_box : Fn := runDef 5 c__law_box
def c__law_take : CS := (cSeq (cUnp (.many [2, 3]) (cOpN oDivmod [(.ex (cOp2 oIx (.nm 0) (.ex (cK (.int 0))))), (.nm 1)]))
    (cSeq (cSetItem sList 0 (.ex (cK (.int 0))) (cVar 2))
    (cRet (cMove 3))))
def m__law_take : Fm := runDefI 4 c__law_take
def c__law_whole : CS := (cRet (cAnd (cIsi "int" (.nm 0)) (cNot (cIsi "bool" (.nm 0)))))
def m__law_whole : Fn := runDef 1 c__law_whole
def c__law_net : CS := (cSeq (cSet 2 (cLst []))
    (cSeq (cFor (.one 3) (iArgs rg1 [(.ex (cOp2 oAdd (.ex (cK (.int 1))) (.ex (cCallI m__law_take 0 [(.ex (cVar 1))]))))]) (cSeq (cSet 4 (cComp (.one 5) (iArgs rg1 [(.nm 3)]) (toT (cOp2 oEq (.ex (cCallI m__law_take 0 [(.ex (cK (.int 3)))])) (.ex (cK (.int 0))))) (cVar 5) [5]))
    (cSeq (cIfS (cAndT (toT (cOp2 oGt (.nm 3) (.ex (cK (.int 0))))) (cAndT (toT (cOp2 oEq (.nm 4) (.ex (cLst [])))) (toT (cOp2 oGt (.ex (cCallI m__law_take 0 [(.ex (cK (.int 3)))])) (.ex (cK (.int 0))))))) (cSet 4 (cLst [(.ex (cCallI m__law_take 0 [(.ex (cVar 3))]))])) cNext)
    (cDrop (cMethT "list" mAppend 2 [(.ex (cOpN oTuple [(.ex (cSl (.nm 4) .none (.some (.ex (cK (.int 3))))))]))])))))
    (cRet (cOpN oTuple [(.nm 2)]))))
def m__law_net : Fm := runDefI 6 c__law_net

theorem ev_take (b : Int) (n : Int) (h0 : 0 < n) (h1 : n < 1073741824) : m__law_take (.list [.int b]) [.int n] = .ok (.frz (.int (b % n))) (.list [.int (b / n)]) := by
  apply runI_of; intro K k
  simp [c__law_take, h0, h1, atI, ixN, sList]
  exact k.rt _ _ _ rfl ⟨rfl, rfl⟩
theorem ev_cell (ns : List Int) (k : Nat) : m__law_cell [scriptD ns, .int k] = .ok (.frz (.int (ns[k]?.getD 0))) := by
  apply run_of; intro K kk
  simp [c__law_cell, scriptD, atI_nat]
  refine ⟨fun h => ?_, fun h => ?_⟩
  · simp [h]; exact kk.rt _ _ (by simp [h])
  · exact kk.rt _ _ (by simp [h])
theorem ev_mix (c : Int) (k : Nat) (hk : k < 1000) : ∃ r, m__law_mix [.int c, .int k] = .ok r ∧ ∃ i : Int, r = .frz (.int i) := by
  have hs : ∃ s : Int, small s = true ∧ atI [PyData.int 48271, .int 69621, .int 16807, .int 39373, .int 30269, .int 40014, .int 40692, .int 50021, .int 61687, .int 71993, .int 83869, .int 95561, .int 30307] ((k : Int) % 13) = some (.int s) := by
    have h : k % 13 = 0 ∨ k % 13 = 1 ∨ k % 13 = 2 ∨ k % 13 = 3 ∨ k % 13 = 4 ∨ k % 13 = 5 ∨ k % 13 = 6 ∨ k % 13 = 7 ∨ k % 13 = 8 ∨ k % 13 = 9 ∨ k % 13 = 10 ∨ k % 13 = 11 ∨ k % 13 = 12 := by omega
    have e : ((k : Int) % 13) = ((k % 13 : Nat) : Int) := by omega
    rw [e, atI_nat]
    rcases h with h | h | h | h | h | h | h | h | h | h | h | h | h <;> rw [h] <;> exact ⟨_, by decide, rfl⟩
  obtain ⟨s, hz, hs⟩ := hs
  have hm : ∀ x : Int, small (x % 1000000007) = true := fun x => small_of (by omega) (by omega)
  have h1 : small 977 = true := by decide
  have h2 : small 7919 = true := by decide
  have h3 : small 48271 = true := by decide
  apply run_ex; intro K k
  simp [c__law_mix, hs, hz, hm, h1, h2, h3]
  exact k.rt _ _ ⟨_, rfl⟩
theorem ev_box (ns : List Int) (k : Nat) (hk : k < 1000) : ∃ r, m__law_box [scriptD ns, .int k] = .ok r ∧ ∃ i : Int, r = .own false (.list [.int i]) := by
  have h1 : small 142857143 = true := by decide
  apply run_ex; intro K kk
  simp [c__law_box, ev_cell, rgD0]
  refine ⟨fun _ => kk.rt _ _ ⟨_, rfl⟩, fun _ => ?_⟩
  refine sat_forT (fun rest e => ∃ (i : Int) (j : Cell), isLck j = false ∧ e = [.frz (scriptD ns), .frz (.int _), .frz (.int _), .frz (.int i), j] ∧ ∀ x ∈ rest, x < 40) ⟨0, .emp, rfl, rfl, fun x hx => by simpa using hx⟩ ?_ ?_
  · rintro x rest e ⟨i, j, hj, rfl, hr⟩ K' L
    obtain ⟨r, e1, i2, rfl⟩ := ev_mix (ns[k]?.getD 0) x (by have := hr x List.mem_cons_self; omega)
    simp [hj, h1, e1]
    exact L.nx _ ⟨_, .frz _, rfl, rfl, fun y hy => hr y (List.mem_cons_of_mem _ hy)⟩
  · rintro e ⟨i, j, hj, rfl, hr⟩
    simp
    exact kk.rt _ _ ⟨_, rfl⟩
/-- what a law may draw as a net -/
structure NetOk (net : List (List Nat)) : Prop where
  inc : ∀ (i : Nat) (ns : List Nat), net[i]? = some ns → ns.Pairwise (· < ·)
  low : ∀ (i : Nat) (ns : List Nat), net[i]? = some ns → ∀ n ∈ ns, n < i
theorem NetOk.nil : NetOk [] := ⟨fun _ _ h => by simp at h, fun _ _ h => by simp at h⟩
theorem NetOk.snoc {net : List (List Nat)} {ns : List Nat} (h : NetOk net) (h1 : ns.Pairwise (· < ·)) (h2 : ∀ n ∈ ns, n < net.length) : NetOk (net ++ [ns]) := by
  have key : ∀ (i : Nat) (ms : List Nat), (net ++ [ns])[i]? = some ms → net[i]? = some ms ∨ (i = net.length ∧ ms = ns) := fun i ms q => by
    by_cases z : i < net.length
    · rw [List.getElem?_append_left z] at q; exact .inl q
    · rw [List.getElem?_append_right (by omega)] at q
      by_cases y : i = net.length
      · subst y; simp at q; exact .inr ⟨rfl, q.symm⟩
      · rw [List.getElem?_eq_none (by simp; omega)] at q; cases q
  refine ⟨fun i ms q => ?_, fun i ms q => ?_⟩ <;> rcases key i ms q with q | ⟨rfl, rfl⟩
  · exact h.inc i ms q
  · exact h1
  · exact h.low i ms q
  · exact h2
theorem range'_cons {x : Nat} {rest : List Nat} {a k : Nat} (h : x :: rest = List.range' a k) : x = a ∧ 0 < k ∧ rest = List.range' (a + 1) (k - 1) := by
  cases k with
  | zero => cases h
  | succ k => rw [List.range'_succ] at h; injection h with h1 h2; exact ⟨h1, by omega, h2⟩
theorem ev_net (b most : Int) (h0 : 0 < most) (h1 : most ≤ 10) : ∃ r d, m__law_net (.list [.int b]) [.int most] = .ok r d ∧ (∃ b' : Int, d = .list [.int b']) ∧ ∃ net : List (List Nat), r = .frz (netD net) ∧ NetOk net ∧ 1 ≤ net.length ∧ (net.length : Int) ≤ most := by
  have hb := Int.emod_nonneg b (show most ≠ 0 by omega)
  have hb2 := Int.emod_lt_of_pos b h0
  obtain ⟨N, hN⟩ : ∃ N : Nat, 1 + b % most = (N : Int) := ⟨(1 + b % most).toNat, by omega⟩
  apply runI_ex; intro K k
  simp [c__law_net, ev_take b most h0 (by omega), hN, show -1000000 ≤ (N : Int) by omega, show (N : Int) ≤ 1000000 by omega, rgD0]
  refine sat_forT (fun rest e => ∃ (acc : List (List Nat)) (b : Int) (j3 j4 j5 : Cell), isLck j3 = false ∧ isLck j4 = false ∧ j5.mine = false ∧ e = [.own true (.list [.int b]), .frz (.int most), .own false (.list (acc.map laD)), j3, j4, j5] ∧ NetOk acc ∧ acc.length ≤ N ∧ rest = List.range' acc.length (N - acc.length)) ?_ ?_ ?_
  · exact ⟨[], _, .emp, .emp, .emp, rfl, rfl, rfl, rfl, .nil, by simp, by simp [List.range_eq_range']⟩
  · rintro x rest e ⟨acc, b, j3, j4, j5, l3, l4, l5, rfl, ok, le, hr⟩ K' L
    obtain ⟨rfl, hk, rfl⟩ := range'_cons hr
    simp [l3]
    generalize hc : cComp _ _ _ _ _ _ = r
    obtain ⟨ds, e', rfl, l, b1, j, hl, rfl, rfl, h1, m, _, hml, h2⟩ := comp_inv hc (f := nD) (xs := List.range acc.length)
      (fun rest ds e => ∃ (l : List Nat) (b : Int) (j : Cell), isLck j = false ∧ e = [.own true (.list [.int b]), .frz (.int most), .own false (.list (acc.map laD)), .frz (.int (acc.length : Nat)), j4, j] ∧ ds = l.map nD ∧ l.Pairwise (· < ·) ∧ ∃ m, rest = List.range' m (acc.length - m) ∧ m ≤ acc.length ∧ ∀ n ∈ l, n < m)
      (by simp [rgD0, show (acc.length : Int) ≤ 1000000 by omega]; rfl) (by simp [l5])
      (by exact ⟨[], b, j5, lck_of_mine l5, rfl, rfl, List.Pairwise.nil, 0, by simp [List.range_eq_range'], by omega, by simp⟩) (by
        rintro x rest ds e ⟨l, b, j, hl, rfl, rfl, hp, m, hm, hm2, hlt⟩ Y Z hY hZ
        obtain ⟨rfl, hk2, rfl⟩ := range'_cons hm
        simp [ev_take]
        refine ⟨fun _ => hY _ _ ⟨l ++ [x], _, .frz _, rfl, rfl, by simp, ?_, x + 1, by simp; omega, by omega, ?_⟩, fun _ => hZ _ ⟨l, _, .frz _, rfl, rfl, rfl, hp, x + 1, by simp; omega, by omega, fun n hn => by have := hlt n hn; omega⟩⟩
        · rw [List.pairwise_append]; exact ⟨hp, by simp, fun a ha c hc => by simp at hc; subst hc; exact hlt a ha⟩
        · intro n hn; rw [List.mem_append] at hn; rcases hn with hn | hn
          · have := hlt n hn; omega
          · simp at hn; omega)
    have lN : acc.length < 1000000 := by omega
    have fin : ∀ (l : List Nat) (b : Int) (j4 j5 : Cell), l.Pairwise (· < ·) → (∀ n ∈ l, n < acc.length) → isLck j4 = false → j5.mine = false →
        K'.nx [.own true (.list [.int b]), .frz (.int most), .own false (.list (acc.map laD ++ [laD (l.take 3)])), .frz (.int (acc.length : Nat)), j4, j5] := fun l b j4 j5 hp hl q1 q2 =>
      L.nx _ ⟨acc ++ [l.take 3], b, .frz _, j4, j5, rfl, q1, q2, by simp; rfl, ok.snoc (hp.sublist (List.take_sublist 3 l)) (fun n hn => hl n (List.take_subset 3 l hn)), by simp; omega, by rw [List.length_append, List.length_singleton, Nat.sub_sub]⟩
    have c3 : ∀ l : List Nat, cutL l none (some 3) = l.take 3 := fun l => cutL_take l 3
    have hl' : ∀ n ∈ l, n < acc.length := fun n hn => by have := h2 n hn; omega
    have mapT : ∀ l : List Nat, PyData.tuple (l.map nD) = laD l := fun _ => rfl
    have fin2 : ∀ (l : List Nat) (b : Int) (j4 j5 : Cell), l.Pairwise (· < ·) → (∀ n ∈ l, n < acc.length) → isLck j4 = false → j5.mine = false →
        K'.nx [.own true (.list [.int b]), .frz (.int most), .own false (.list (acc.map laD ++ [PyData.tuple ((l.take 3).map nD)])), .frz (.int (acc.length : Nat)), j4, j5] := fin
    by_cases ha : acc.length = 0
    · simp [l4, ha, c3, ev_take, lim]
      have q := fin2 l b1 (.own false (.list (l.map nD))) j5 h1 hl' rfl l5
      simp [ha] at q; exact q
    · by_cases hn : l = []
      · subst hn
        obtain ⟨d, hd⟩ : ∃ d : Nat, (b1 / 3 % (acc.length : Int)) = (d : Int) := ⟨(b1 / 3 % (acc.length : Int)).toNat, by have := Int.emod_nonneg (b1 / 3) (show (acc.length : Int) ≠ 0 by omega); omega⟩
        have hd2 : d < acc.length := by have := Int.emod_lt_of_pos (b1 / 3) (show 0 < (acc.length : Int) by omega); omega
        simp [l4, show (0 < acc.length) from by omega, ev_take, lim, lN, show (acc.length : Int) < 1073741824 by omega, hd]
        refine ⟨fun _ => ?_, fun _ => ?_⟩
        · have c4 : cutD [PyData.int (d : Int)] none (some 3) = [PyData.int (d : Int)] := rfl
          simp [c4, lN, lim]
          have q := fin2 [d] (b1 / 3 / acc.length) (.own false (.list [.int d])) j5 (by simp) (by simpa using hd2) rfl l5
          simpa using q
        · have c4 : cutD [] none (some 3) = [] := rfl
          simp [c4, lN, lim]
          have q := fin2 [] (b1 / 3) (.own false (.list [])) j5 (by simp) (by simp) rfl l5
          simpa using q
      · simp [l4, show (0 < acc.length) from by omega, ev_take, lim, lN, hn, c3]
        have q := fin2 l b1 (.own false (.list (l.map nD))) j5 h1 hl' rfl l5
        simpa using q
  · rintro e ⟨acc, b, j3, j4, j5, l3, l4, l5, rfl, ok, le, hr⟩
    have : N ≤ acc.length := by
      have := congrArg List.length hr; simp at this; omega
    simp
    exact k.rt _ _ _ rfl ⟨⟨_, rfl⟩, acc, rfl, ok, by omega, by omega⟩
end DL

/-! PNA: nets. -/
namespace DL
open PySem L2
def c_is_whole : CS := (cRet (cAnd (cIsi "int" (.nm 0)) (cNot (cIsi "bool" (.nm 0)))))
def m_is_whole : Fn := runDef 1 c_is_whole
def c_is_rising : CS := (cSeq (cSet 2 (cNeg (.ex (cK (.int 1)))))
    (cSeq (cForO 0 (.one 3) (cSeq (cIfS (cOrT (cNotT (toT (cCall m_is_whole [(.nm 3)]))) (cNotT (toT (cChain oLt oLt (.nm 2) (.nm 3) (.nm 1))))) (cRet (cK (.bool false))) cNext)
    (cSet 2 (cVar 3))))
    (cRet (cK (.bool true)))))
def m_is_rising : Fn := runDef 4 c_is_rising
def c_is_net : CS := (cSeq (cIfS (cOrT (cNotT (toT (cIsi "tuple" (.nm 0)))) (cNotT (toT (cChain oLe oLe (.ex (cK (.int 1))) (.ex (cOpN oLen [(.nm 0)])) (.ex (cK (.int 10))))))) (cRet (cK (.bool false))) cNext)
    (cSeq (cFor (.many [1, 2]) (iEnumC (cVar 0)) (cIfS (cOrT (cNotT (toT (cIsi "tuple" (.nm 2)))) (cNotT (toT (cCall m_is_rising [(.nm 2), (.nm 1)])))) (cRet (cK (.bool false))) cNext))
    (cRet (cK (.bool true)))))
def m_is_net : Fn := runDef 3 c_is_net
def c_need_net : CS := (cIfS (cNotT (toT (cCall m_is_net [(.nm 0)]))) (cRaise "NoNet") cNext)
def m_need_net : Fn := runDef 1 c_need_net
def c_need_spot : CS := (cSeq (cDrop (cCall m_need_net [(.nm 0)]))
    (cIfS (cOrT (cNotT (toT (cCall m_is_whole [(.nm 1)]))) (cNotT (toT (cChain oLe oLt (.ex (cK (.int 0))) (.nm 1) (.ex (cOpN oLen [(.nm 0)])))))) (cRaise "NoSpot") cNext))
def m_need_spot : Fn := runDef 2 c_need_spot
def c_beneath : CS := (cSeq (cDrop (cCall m_need_spot [(.nm 0), (.nm 1)]))
    (cSeq (cSet 2 (cLst [(.ex (cVar 1))]))
    (cSeq (cSet 3 (cK (.int 0)))
    (cSeq (whileL (toT (cOp2 oLt (.nm 3) (.ex (cOpN oLen [(.nm 2)])))) (cSeq (cDrop (cMethT "list" mExtend 2 [(.ex (cComp (.one 4) (iSeq (cOp2 oIx (.nm 0) (.ex (cOp2 oIx (.nm 2) (.nm 3))))) (toT (cOp2 (oIn true) (.nm 4) (.nm 2))) (cVar 4) [4]))]))
    (cSet 3 (cOp2 oAdd (.nm 3) (.ex (cK (.int 1)))))) 100000)
    (cRet (cOpN oSortedA [(.nm 2)]))))))
def m_beneath : Fn := runDef 5 c_beneath
def c_above : CS := (cSeq (cDrop (cCall m_need_spot [(.nm 0), (.nm 1)]))
    (cRet (cComp (.one 2) (iArgs rg1 [(.ex (cOpN oLen [(.nm 0)]))]) (toT (cOp2 (oIn false) (.nm 1) (.ex (cCall m_beneath [(.nm 0), (.nm 2)])))) (cVar 2) [2])))
def m_above : Fn := runDef 3 c_above

def scrD : PyData → Bool
  | .dict kvs => isScr kvs
  | _ => false
def wholeD : PyData → Bool
  | .int _ => true
  | _ => false
@[simp] theorem isi_none (T : String) : isiD T .none = some (T == "NoneType") := rfl
@[simp] theorem isi_bool (T : String) (b : Bool) : isiD T (.bool b) = some (T == "bool" || T == "int") := rfl
@[simp] theorem isi_int (T : String) (i : Int) : isiD T (.int i) = some (T == "int") := rfl
@[simp] theorem isi_str (T : String) (i : Str) : isiD T (.str i) = some (T == "str") := rfl
@[simp] theorem isi_list (T : String) (i : List PyData) : isiD T (.list i) = some (T == "list") := rfl
@[simp] theorem isi_tuple (T : String) (i : List PyData) : isiD T (.tuple i) = some (T == "tuple") := rfl
theorem isi_dict (T : String) (k : List (PyData × PyData)) (h : isScr k = false) : isiD T (.dict k) = some (T == "dict") := by
  show (if isScr k then none else _) = _; rw [h]; rfl
theorem ev_whole (d : PyData) (h : scrD d = false) : m_is_whole [d] = .ok (.frz (.bool (wholeD d))) := by
  apply run_of; intro K kk
  cases d with
  | dict k => simp [c_is_whole, isi_dict "int" k h, isi_dict "bool" k h]; exact kk.rt _ _ rfl
  | _ => simp [c_is_whole]; exact kk.rt _ _ rfl
@[simp] theorem ev_wholeI (i : Int) : m_is_whole [.int i] = .ok (.frz (.bool true)) := ev_whole _ rfl
theorem ev_lwhole (d : PyData) (h : scrD d = false) : m__law_whole [d] = .ok (.frz (.bool (wholeD d))) := ev_whole d h
@[simp] theorem ev_lwholeI (i : Int) : m__law_whole [.int i] = .ok (.frz (.bool true)) := ev_whole _ rfl
def risingD : List PyData → Int → Int → Bool
  | [], _, _ => true
  | .int i :: ds, last, b => decide (last < i) && decide (i < b) && risingD ds i b
  | _ :: _, _, _ => false
theorem ev_rising (x : PyData) (ds : List PyData) (b : Int) (hx : seqOf x = some ds) (hs : ∀ d ∈ ds, scrD d = false) : m_is_rising [x, .int b] = .ok (.frz (.bool (risingD ds (-1) b))) := by
  apply run_of; intro K kk
  simp [c_is_rising, hx]
  rw [← List.map_id ds]
  refine sat_forT (f := id) (fun rest e => ∃ (l : Int) (j : Cell), isLck j = false ∧ e = [.frz x, .frz (.int b), .frz (.int l), j] ∧ (∀ d ∈ rest, scrD d = false) ∧ risingD rest l b = risingD ds (-1) b) ⟨-1, .emp, rfl, rfl, hs, rfl⟩ ?_ ?_
  · rintro d rest e ⟨l, j, hj, rfl, hr, he⟩ K' L
    have hd := hr d List.mem_cons_self
    simp [hj, ev_whole d hd]
    cases d with
    | int i =>
      simp [wholeD]
      refine ⟨fun h => L.rt _ _ (kk.rt _ _ ?_), fun h1 h2 => L.nx _ ⟨_, .frz _, rfl, rfl, fun y hy => hr y (List.mem_cons_of_mem _ hy), ?_⟩⟩
      · simp only [risingD] at he
        have : (decide (l < i) && decide (i < b)) = false := by simp; omega
        rw [this, Bool.false_and] at he; rw [← he]; rfl
      · simp only [risingD, h1, h2] at he; simpa using he
    | _ =>
      simp [wholeD]
      refine L.rt _ _ (kk.rt _ _ ?_)
      rw [← he]; rfl
  · rintro e ⟨l, j, hj, rfl, hr, he⟩
    simp
    exact kk.rt _ _ (by rw [← he]; rfl)
theorem rising_nD : ∀ (l : List Nat) (a b : Int), (∀ n ∈ l, a < (n : Int)) → l.Pairwise (· < ·) → (∀ n ∈ l, (n : Int) < b) → risingD (l.map nD) a b = true
  | [], _, _, _, _, _ => rfl
  | x :: l, a, b, h1, h2, h3 => by
    rw [List.pairwise_cons] at h2
    have r := rising_nD l x b (fun n hn => by have := h2.1 n hn; omega) h2.2 (fun n hn => h3 n (List.mem_cons_of_mem _ hn))
    have q1 := h1 x List.mem_cons_self
    have q2 := h3 x List.mem_cons_self
    simp [risingD, r, q1, q2]
theorem enumD_zip : ∀ (ds : List PyData) (k : Nat), enumD k ds = (ds.zipIdx k).map fun p => PyData.tuple [.int (p.2 : Nat), p.1]
  | [], _ => rfl
  | d :: ds, k => by rw [List.zipIdx_cons, List.map_cons, ← enumD_zip ds (k + 1)]; rfl
@[simp] theorem ev_iEnum (c : CE) (env : Cs) : iEnumC c env = (c env).bind fun c env1 => match c.val with
    | some d => match seqOf d with
      | some ds => .ok (enumD 0 ds) env1
      | none => .no
    | none => .no := rfl
def needsB (d : PyData) (k : Nat) : Bool := match d with
  | .tuple ns => risingD ns (-1) k
  | _ => false
def netB : PyData → Bool
  | .tuple ds => decide (1 ≤ ds.length) && decide (ds.length ≤ 10) && (ds.zipIdx).all fun p => needsB p.1 p.2
  | _ => false
/-- no script stands in it as a need -/
def okN (d : PyData) : Prop := scrD d = false ∧ ∀ ds, d = .tuple ds → ∀ x ∈ ds, scrD x = false
theorem ev_isnet (x : PyData) (hx : scrD x = false) (hs : ∀ ds, x = .tuple ds → ∀ d ∈ ds, okN d) : m_is_net [x] = .ok (.frz (.bool (netB x))) := by
  apply run_of; intro K kk
  cases x with
  | dict k => simp [c_is_net, isi_dict "tuple" k hx]; exact kk.rt _ _ rfl
  | tuple ds =>
    simp [c_is_net]
    by_cases hl : 1 ≤ ds.length ∧ ds.length ≤ 10
    · obtain ⟨h1, h2⟩ := hl
      simp [show (1 : Int) ≤ (ds.length : Int) by omega, show (ds.length : Int) ≤ 10 by omega, enumD_zip]
      refine ⟨fun h => by omega, ?_⟩
      have hs := hs ds rfl
      refine sat_forT (fun rest e => ∃ (j1 j2 : Cell), isLck j1 = false ∧ isLck j2 = false ∧ e = [.frz (.tuple ds), j1, j2] ∧ (∀ p : PyData × Nat, p ∈ rest → okN p.1) ∧ (rest.all fun (p : PyData × Nat) => needsB p.1 p.2) = netB (.tuple ds)) ⟨.emp, .emp, rfl, rfl, rfl, ?_, ?_⟩ ?_ ?_
      · intro p hp; have := List.mem_zipIdx hp; exact hs _ (by rw [this.2.2]; simp)
      · unfold netB; simp [h1, h2]
      · rintro ⟨d, k⟩ rest e ⟨j1, j2, l1, l2, rfl, hr, he⟩ K' L
        have hd := hr _ List.mem_cons_self
        simp [l1, l2]
        cases d with
        | dict k => simp [isi_dict "tuple" k hd.1]; exact L.rt _ _ (kk.rt _ _ (by rw [← he]; rfl))
        | tuple ns =>
          simp [ev_rising (.tuple ns) ns k rfl (hd.2 ns rfl)]
          refine ⟨fun h => L.rt _ _ (kk.rt _ _ ?_), fun h => L.nx _ ⟨_, _, by rfl, by rfl, rfl, fun p hp => hr p (List.mem_cons_of_mem _ hp), ?_⟩⟩
          · rw [← he]; simp [needsB, h]
          · rw [← he]; simp [needsB, h]
        | _ => simp; exact L.rt _ _ (kk.rt _ _ (by rw [← he]; rfl))
      · rintro e ⟨j1, j2, l1, l2, rfl, hr, he⟩
        simp
        exact kk.rt _ _ (by rw [← he]; rfl)
    · have hb : netB (.tuple ds) = false := by
        unfold netB; simp; omega
      rw [hb] at kk
      by_cases h1 : 1 ≤ ds.length
      · have h2 : ¬ (ds.length : Int) ≤ 10 := by omega
        simp [show (1 : Int) ≤ (ds.length : Int) by omega, h2]
        exact fun _ => kk.rt (.frz (.bool false)) _ rfl
      · simp [show ¬ (1 : Int) ≤ (ds.length : Int) by omega]
        exact fun _ => kk.rt (.frz (.bool false)) _ rfl
  | _ => simp [c_is_net]; exact kk.rt _ _ rfl
structure NetV (net : List (List Nat)) : Prop where
  ok : NetOk net
  one : 1 ≤ net.length
  ten : net.length ≤ 10
theorem netB_of {net : List (List Nat)} (h : NetV net) : netB (netD net) = true := by
  unfold netD netB
  have h1 := h.one; have h2 := h.ten
  simp only [List.length_map, h1, h2, decide_true, Bool.true_and]
  rw [List.all_eq_true]
  rintro ⟨d, k⟩ hp
  have q := List.mem_zipIdx' hp
  simp at q
  obtain ⟨hk, e⟩ := q
  show needsB d k = true
  rw [e]
  have hg : net[k]? = some net[k] := List.getElem?_eq_getElem hk
  exact rising_nD _ _ _ (fun n _ => by omega) (h.ok.inc k _ hg) (fun n hn => by have := h.ok.low k _ hg n hn; omega)
theorem okN_la (l : List Nat) : okN (laD l) := ⟨rfl, fun ds e x hx => by cases e; simp at hx; obtain ⟨n, _, rfl⟩ := hx; rfl⟩
theorem okN_net (net : List (List Nat)) : ∀ ds, netD net = .tuple ds → ∀ d ∈ ds, okN d := fun ds e d hd => by
  cases e; simp at hd; obtain ⟨l, _, rfl⟩ := hd; exact okN_la l
theorem ev_neednet {net : List (List Nat)} (h : NetV net) : m_need_net [netD net] = .ok (.frz .none) := by
  apply run_of; intro K kk
  simp [c_need_net, ev_isnet (netD net) rfl (okN_net net), netB_of h]
  exact kk.nx rfl _
theorem ev_needspot {net : List (List Nat)} (h : NetV net) (s : Nat) (hs : s < net.length) : m_need_spot [netD net, .int s] = .ok (.frz .none) := by
  apply run_of; intro K kk
  simp [c_need_spot, ev_neednet h, hs]
  exact kk.nx rfl _
end DL

/-! PVD: cells of which only so much is known: unlocked, or nobody's own. repr of data. -/
namespace DL
open PySem L2
structure Jk where
  c : Cell
  u : isLck c = false
structure Jm where
  c : Cell
  m : c.mine = false
@[simp] theorem Jk.lck (j : Jk) : isLck j.c = false := j.u
@[simp] theorem Jm.min (j : Jm) : j.c.mine = false := j.m
theorem lck_of_min {c : Cell} (h : c.mine = false) : isLck c = false := by cases c <;> first | rfl | cases h
@[simp] theorem Jm.lck (j : Jm) : isLck j.c = false := lck_of_min j.m
/-- any unlocked cell, by a name -/
def jkE : Jk := ⟨.emp, rfl⟩
def jmE : Jm := ⟨.emp, rfl⟩

/-! ### repr -/
@[simp] theorem oRepr_one (d : PyData) : oRepr [d] = if showOk d then .val (.frz (.str d.shown)) else .no := rfl
mutual
/-- data whose repr is short -/
def okR : PyData → Bool
  | .none => true
  | .bool _ => true
  | .int i => decide (i.natAbs.log2 < 190)
  | .str x => PyData.strOk x
  | .list xs => okRs xs
  | .tuple xs => okRs xs
  | .dict _ => false
def okRs : List PyData → Bool
  | [] => true
  | x :: xs => okR x && okRs xs
end
mutual
theorem okR_lay : ∀ d, okR d = true → d.canLay0 = true ∧ d.showable = true
  | .none, _ => ⟨rfl, rfl⟩
  | .bool _, _ => ⟨rfl, rfl⟩
  | .int i, h => ⟨rfl, by simp only [okR, decide_eq_true_eq] at h; simp only [PyData.showable, decide_eq_true_eq]; omega⟩
  | .str x, h => ⟨by simpa [PyData.canLay0, okR] using h, rfl⟩
  | .list xs, h => by have := okRs_lay xs (by simpa [okR] using h); simpa [PyData.canLay0, PyData.showable] using this
  | .tuple xs, h => by have := okRs_lay xs (by simpa [okR] using h); simpa [PyData.canLay0, PyData.showable] using this
  | .dict _, h => by simp [okR] at h
theorem okRs_lay : ∀ xs, okRs xs = true → PyData.canLayAll0 xs = true ∧ PyData.showableAll xs = true
  | [], _ => ⟨rfl, rfl⟩
  | x :: xs, h => by
    simp only [okRs, Bool.and_eq_true] at h
    have h1 := okR_lay x h.1
    have h2 := okRs_lay xs h.2
    simp [PyData.canLayAll0, PyData.showableAll, h1, h2]
end
mutual
theorem okR_len : ∀ d, okR d = true → d.shown.length + 3 ≤ 210 * cnt d
  | .none, _ => by decide +kernel
  | .bool b, _ => by cases b <;> decide +kernel
  | .int i, h => by
    simp only [okR, decide_eq_true_eq] at h
    have h1 := int_text_length_le (k := 190) (by decide) h
    show (Str.ofString (toString i)).length + 3 ≤ 210 * 1
    rw [ofString_length]; omega
  | .str x, h => by
    have h1 := StrLaws.reprText_len x (fun c hc => by
      simp only [okR, PyData.strOk, Array.all_eq_true_iff_forall_mem, decide_eq_true_eq] at h
      have := h c (by simpa using hc); omega)
    show (reprText x).length + 3 ≤ 210 * (x.length + 1)
    omega
  | .list xs, h => by
    have h1 := okRs_len xs (by simpa [okR] using h)
    have h2 := listText_len_le (PyData.shownAll xs)
    show (listText (PyData.shownAll xs)).length + 3 ≤ 210 * (cnts xs + 1)
    omega
  | .tuple xs, h => by
    have h1 := okRs_len xs (by simpa [okR] using h)
    have h2 := tupleText_len_le (PyData.shownAll xs)
    show (tupleText (PyData.shownAll xs)).length + 3 ≤ 210 * (cnts xs + 1)
    omega
  | .dict _, h => by simp [okR] at h
theorem okRs_len : ∀ xs, okRs xs = true → ((PyData.shownAll xs).map (·.length)).sum + 2 * (PyData.shownAll xs).length ≤ 210 * cnts xs
  | [], _ => by simp [PyData.shownAll, cnts]
  | x :: xs, h => by
    simp only [okRs, Bool.and_eq_true] at h
    have h1 := okR_len x h.1
    have h2 := okRs_len xs h.2
    simp only [PyData.shownAll, List.map_cons, List.sum_cons, List.length_cons, cnts]
    omega
end
theorem showOk_of {d : PyData} (h : okR d = true) (h2 : d.depth ≤ 40) (h3 : cnt d ≤ 4700) : showOk d = true := by
  have h4 := okR_lay d h
  have h5 := okR_len d h
  unfold showOk lim
  simp only [Bool.and_eq_true, decide_eq_true_eq]
  exact ⟨⟨⟨h4.1, h4.2⟩, h2⟩, by omega⟩
/-- data of one kind, its repr short -/
structure EncSh {α : Type} (f : α → PyData) (ok : α → Prop) (w : Nat) : Prop where
  okr : ∀ a, ok a → okR (f a) = true
  cnt : ∀ a, ok a → cnt (f a) ≤ w
  dep : ∀ a, (f a).depth ≤ 8
section
variable {α : Type} {f : α → PyData} {ok : α → Prop} {w : Nat}
theorem okRs_map (S : EncSh f ok w) : ∀ l : List α, (∀ a ∈ l, ok a) → okRs (l.map f) = true
  | [], _ => rfl
  | x :: l, h => by simp [okRs, S.okr x (h x List.mem_cons_self), okRs_map S l fun a ha => h a (List.mem_cons_of_mem _ ha)]
theorem cnts_map (S : EncSh f ok w) : ∀ l : List α, (∀ a ∈ l, ok a) → cnts (l.map f) ≤ l.length * w
  | [], _ => by simp [cnts]
  | x :: l, h => by
    have h1 := S.cnt x (h x List.mem_cons_self)
    have h2 := cnts_map S l fun a ha => h a (List.mem_cons_of_mem _ ha)
    simp only [List.map_cons, cnts, List.length_cons, Nat.add_mul]; omega
theorem deps_map (S : EncSh f ok w) : ∀ l : List α, PyData.depthAll (l.map f) ≤ 8
  | [] => by simp [PyData.depthAll]
  | x :: l => by
    have h1 := S.dep x
    have h2 := deps_map S l
    simp only [List.map_cons, PyData.depthAll]; omega
theorem show_list (S : EncSh f ok w) {l : List α} (h : ∀ a ∈ l, ok a) (hw : l.length * w ≤ 4600) : showOk (.list (l.map f)) = true :=
  showOk_of (by simpa [okR] using okRs_map S l h) (by have := deps_map S l; simp only [PyData.depth]; omega) (by have := cnts_map S l h; simp only [cnt]; omega)
theorem show_tuple (S : EncSh f ok w) {l : List α} (h : ∀ a ∈ l, ok a) (hw : l.length * w ≤ 4600) : showOk (.tuple (l.map f)) = true :=
  showOk_of (by simpa [okR] using okRs_map S l h) (by have := deps_map S l; simp only [PyData.depth]; omega) (by have := cnts_map S l h; simp only [cnt]; omega)
end
theorem log2_lt {n : Nat} (h : n < 2 ^ 64) : n.log2 < 190 := by
  by_cases z : n = 0
  · subst z; decide
  · exact (Nat.log2_lt z).mpr (Nat.lt_of_lt_of_le h (Nat.pow_le_pow_right (by decide) (by decide)))
theorem shN : EncSh nD (fun n => n < 2 ^ 64) 1 where
  okr n h := by show decide ((n : Int).natAbs.log2 < 190) = true; rw [Int.natAbs_natCast]; exact decide_eq_true (log2_lt h)
  cnt n h := by simp [nD, cnt]
  dep n := by simp [PyData.depth]
theorem shL : EncSh laD (fun l => (∀ n ∈ l, n < 2 ^ 64) ∧ l.length ≤ 20) 21 where
  okr l h := by show okR (.tuple (l.map nD)) = true; simpa [okR] using okRs_map shN l h.1
  cnt l h := by have := cnts_map shN l h.1; show cnt (.tuple (l.map nD)) ≤ 21; simp only [cnt]; omega
  dep l := EncOk.dpt (f := laD) l
end DL

/-! PVF: sets and displays of texts are run. -/
namespace DL
open PySem L2
@[simp] theorem ev_op1 (k : PyData → OR) (a : Opd) (env : Cs) : cOp1 k a env = (a.ev env).bind fun la env1 => match la.get env1 with
  | some x => (k x).fin env1
  | none => .no := rfl
@[simp] theorem ev_dispI (l : List (Str × Int)) (env : Cs) : cDispI l env = .ok (.own false (dispI l)) env := rfl
theorem sortSet_list {ds : List PyData} {ns : List Int} (g : intsOf ds = some ns) (h1 : ns.length ≤ 1000) (h2 : (uniqI ns).length < 64) : oSortSet (.list ds) = .val (.own false (.list ((setI ns).map .int))) := by
  unfold oSortSet; simp only [g]; rw [if_pos ⟨h1, h2⟩]
/-- whole numbers from 0 on, sorted, each once -/
def setN (l : List Nat) : List Nat := (setI (l.map fun (n : Nat) => (n : Int))).map Int.toNat
theorem setN_mem {l : List Nat} {x : Nat} : x ∈ setN l ↔ x ∈ l := by
  unfold setN
  rw [List.mem_map]
  constructor
  · rintro ⟨i, hi, rfl⟩
    obtain ⟨n, hn, e⟩ := List.mem_map.mp (setI_mem.mp hi)
    subst e; simpa using hn
  · intro h
    exact ⟨(x : Int), setI_mem.mpr (List.mem_map.mpr ⟨x, h, rfl⟩), by simp⟩
theorem setN_back (l : List Nat) : (setN l).map (fun (n : Nat) => (n : Int)) = setI (l.map fun (n : Nat) => (n : Int)) := by
  unfold setN
  rw [List.map_map]
  refine (List.map_congr_left fun i hi => ?_).trans (List.map_id _)
  obtain ⟨n, hn, e⟩ := List.mem_map.mp (setI_mem.mp hi)
  subst e; simp
theorem setN_lt (l : List Nat) : (setN l).Pairwise (· < ·) := by
  have h := setI_lt (l.map fun (n : Nat) => (n : Int))
  rw [← setN_back, List.pairwise_map] at h
  exact h.imp fun h => by omega
theorem intsOf_setN : ∀ L : List Nat, intsOf (L.map nD) = some (L.map fun (n : Nat) => (n : Int))
  | [] => rfl
  | n :: L => by
    show (intsOf (L.map nD)).map _ = _
    rw [intsOf_setN L]; rfl
theorem uniqI_few {l : List Nat} {n : Nat} (h : ∀ x ∈ l, x < n) : (uniqI (l.map fun (n : Nat) => (n : Int))).length ≤ n := by
  have h1 : (setN l).length ≤ n := by
    have nd : (setN l).Nodup := (setN_lt l).imp fun h => by omega
    have := List.Nodup.length_le_of_subset nd (l₂ := List.range n) fun x hx => List.mem_range.mpr (h x (setN_mem.mp hx))
    simpa using this
  have h2 : (setN l).length = (uniqI (l.map fun (n : Nat) => (n : Int))).length := by
    rw [← List.length_map (as := setN l) (fun (n : Nat) => (n : Int)), setN_back]
    exact (sortI_perm _).length_eq
  omega
/-- sorted(set(l)), l a list of whole numbers below 64 -/
theorem sortSet_nat {l : List Nat} (h1 : l.length ≤ 1000) (h : ∀ x ∈ l, x < 63) : oSortSet (.list (l.map nD)) = .val (.own false (.list ((setN l).map nD))) := by
  have := uniqI_few h
  rw [sortSet_list (intsOf_setN l) (by simpa using h1) (by omega), ← setN_back, List.map_map]; rfl
end DL

/-! PXM: what is told of an exception by its class (_law_marks). -/
namespace DL
open PySem L2
def c__law_marks (a : Addr) (x : Str) : CS := (cSeq (cIfS (cOrT (cNotT (toT (cIsE a true 0))) (cNotT (toT (cIsE a true 0)))) (cRet (cK (.str "other"))) cNext)
    (cSeq (cSet 1 (cLst [(.ex (cIsE a (x == "NoNet") 0)), (.ex (cIsE a (x == "NoSpot") 0)), (.ex (cIsE a (x == "NoRules") 0)), (.ex (cIsE a (x == "NoStones") 0))]))
    (cSeq (cSet 1 (cOp2 oAdd (.nm 1) (.ex (cLst [(.ex (cIsE a (x == "NoLay") 0)), (.ex (cIsE a (x == "NoStep") 0)), (.ex (cIsE a (x == "NoPlay") 0)), (.ex (cIsE a (x == "NoTree") 0))]))))
    (cSeq (cDrop (cMethT "list" mAppend 1 [(.ex (cIsE a (x == "NoText") 0))]))
    (cSeq (cIfS (toT (cOp2 oNe (.ex (cMethV "list" oCount (.nm 1) [(.ex (cK (.bool true)))])) (.ex (cK (.int 1))))) (cRet (cK (.str "other"))) cNext)
    (cRet (cOp2 oIx (.ex (cLst [(.ex (cK (.str "net"))), (.ex (cK (.str "spot"))), (.ex (cK (.str "rules"))), (.ex (cK (.str "stones"))), (.ex (cK (.str "lay"))), (.ex (cK (.str "step"))), (.ex (cK (.str "play"))), (.ex (cK (.str "tree"))), (.ex (cK (.str "text")))])) (.ex (cMethV "list" oIndex (.nm 1) [(.ex (cK (.bool true)))])))))))))
def m__law_marks (a : Addr) (x : Str) : Fn := runDef 2 (c__law_marks a x)
@[simp] theorem ev_isE (a : Addr) (b : Bool) (i : Nat) (env : Cs) : cIsE a b i env = match gC i env with
    | .frz d => match isAdr a d with
      | true => .ok (.frz (.bool b)) env
      | false => .no
    | _ => .no := by unfold cIsE; rw [getD_gC] <;> (cases gC i env with | frz d => dsimp only; cases isAdr a d <;> rfl | _ => rfl)
@[simp] theorem ev_methV (T : String) (k : OpV) (o : Opd) (os : List Opd) (env : Cs) : cMethV T k o os env = (o.ev env).bind fun l env1 => match l.get env1 with
    | none => .no
    | some d0 => match tyD T d0 with
      | false => .no
      | true => (evs os env1).bind fun ls env2 => match l.get env2, gets env2 ls with
        | some d, some ds => (k d ds).fin env2
        | _, _ => .no := rfl
@[simp] theorem tyD_list (ds : List PyData) : tyD "list" (.list ds) = true := rfl
@[simp] theorem ev_try (i : Nat) (hm : Exc → Option Cell) (cb : CS) (env : Cs) : cTry i hm cb env = match cb env with
    | .ex x env1 => match decide (i < env1.length), hm x with
      | true, some c => .rt c env1
      | _, _ => .no
    | r => r := rfl
@[simp] theorem nn_NoNet_NoSpot : (Str.ofString "NoNet" == Str.ofString "NoSpot") = false := by decide +kernel
@[simp] theorem nn_NoNet_NoRules : (Str.ofString "NoNet" == Str.ofString "NoRules") = false := by decide +kernel
@[simp] theorem nn_NoNet_NoStones : (Str.ofString "NoNet" == Str.ofString "NoStones") = false := by decide +kernel
@[simp] theorem nn_NoNet_NoLay : (Str.ofString "NoNet" == Str.ofString "NoLay") = false := by decide +kernel
@[simp] theorem nn_NoNet_NoStep : (Str.ofString "NoNet" == Str.ofString "NoStep") = false := by decide +kernel
@[simp] theorem nn_NoNet_NoPlay : (Str.ofString "NoNet" == Str.ofString "NoPlay") = false := by decide +kernel
@[simp] theorem nn_NoNet_NoTree : (Str.ofString "NoNet" == Str.ofString "NoTree") = false := by decide +kernel
@[simp] theorem nn_NoNet_NoText : (Str.ofString "NoNet" == Str.ofString "NoText") = false := by decide +kernel
@[simp] theorem nn_NoNet_NoWay : (Str.ofString "NoNet" == Str.ofString "NoWay") = false := by decide +kernel
@[simp] theorem nn_NoNet_NoOrder : (Str.ofString "NoNet" == Str.ofString "NoOrder") = false := by decide +kernel
@[simp] theorem nn_NoNet_NoGoals : (Str.ofString "NoNet" == Str.ofString "NoGoals") = false := by decide +kernel
@[simp] theorem nn_NoNet_NoRow : (Str.ofString "NoNet" == Str.ofString "NoRow") = false := by decide +kernel
@[simp] theorem nn_NoSpot_NoNet : (Str.ofString "NoSpot" == Str.ofString "NoNet") = false := by decide +kernel
@[simp] theorem nn_NoSpot_NoRules : (Str.ofString "NoSpot" == Str.ofString "NoRules") = false := by decide +kernel
@[simp] theorem nn_NoSpot_NoStones : (Str.ofString "NoSpot" == Str.ofString "NoStones") = false := by decide +kernel
@[simp] theorem nn_NoSpot_NoLay : (Str.ofString "NoSpot" == Str.ofString "NoLay") = false := by decide +kernel
@[simp] theorem nn_NoSpot_NoStep : (Str.ofString "NoSpot" == Str.ofString "NoStep") = false := by decide +kernel
@[simp] theorem nn_NoSpot_NoPlay : (Str.ofString "NoSpot" == Str.ofString "NoPlay") = false := by decide +kernel
@[simp] theorem nn_NoSpot_NoTree : (Str.ofString "NoSpot" == Str.ofString "NoTree") = false := by decide +kernel
@[simp] theorem nn_NoSpot_NoText : (Str.ofString "NoSpot" == Str.ofString "NoText") = false := by decide +kernel
@[simp] theorem nn_NoSpot_NoWay : (Str.ofString "NoSpot" == Str.ofString "NoWay") = false := by decide +kernel
@[simp] theorem nn_NoSpot_NoOrder : (Str.ofString "NoSpot" == Str.ofString "NoOrder") = false := by decide +kernel
@[simp] theorem nn_NoSpot_NoGoals : (Str.ofString "NoSpot" == Str.ofString "NoGoals") = false := by decide +kernel
@[simp] theorem nn_NoSpot_NoRow : (Str.ofString "NoSpot" == Str.ofString "NoRow") = false := by decide +kernel
@[simp] theorem nn_NoRules_NoNet : (Str.ofString "NoRules" == Str.ofString "NoNet") = false := by decide +kernel
@[simp] theorem nn_NoRules_NoSpot : (Str.ofString "NoRules" == Str.ofString "NoSpot") = false := by decide +kernel
@[simp] theorem nn_NoRules_NoStones : (Str.ofString "NoRules" == Str.ofString "NoStones") = false := by decide +kernel
@[simp] theorem nn_NoRules_NoLay : (Str.ofString "NoRules" == Str.ofString "NoLay") = false := by decide +kernel
@[simp] theorem nn_NoRules_NoStep : (Str.ofString "NoRules" == Str.ofString "NoStep") = false := by decide +kernel
@[simp] theorem nn_NoRules_NoPlay : (Str.ofString "NoRules" == Str.ofString "NoPlay") = false := by decide +kernel
@[simp] theorem nn_NoRules_NoTree : (Str.ofString "NoRules" == Str.ofString "NoTree") = false := by decide +kernel
@[simp] theorem nn_NoRules_NoText : (Str.ofString "NoRules" == Str.ofString "NoText") = false := by decide +kernel
@[simp] theorem nn_NoRules_NoWay : (Str.ofString "NoRules" == Str.ofString "NoWay") = false := by decide +kernel
@[simp] theorem nn_NoRules_NoOrder : (Str.ofString "NoRules" == Str.ofString "NoOrder") = false := by decide +kernel
@[simp] theorem nn_NoRules_NoGoals : (Str.ofString "NoRules" == Str.ofString "NoGoals") = false := by decide +kernel
@[simp] theorem nn_NoRules_NoRow : (Str.ofString "NoRules" == Str.ofString "NoRow") = false := by decide +kernel
@[simp] theorem nn_NoStones_NoNet : (Str.ofString "NoStones" == Str.ofString "NoNet") = false := by decide +kernel
@[simp] theorem nn_NoStones_NoSpot : (Str.ofString "NoStones" == Str.ofString "NoSpot") = false := by decide +kernel
@[simp] theorem nn_NoStones_NoRules : (Str.ofString "NoStones" == Str.ofString "NoRules") = false := by decide +kernel
@[simp] theorem nn_NoStones_NoLay : (Str.ofString "NoStones" == Str.ofString "NoLay") = false := by decide +kernel
@[simp] theorem nn_NoStones_NoStep : (Str.ofString "NoStones" == Str.ofString "NoStep") = false := by decide +kernel
@[simp] theorem nn_NoStones_NoPlay : (Str.ofString "NoStones" == Str.ofString "NoPlay") = false := by decide +kernel
@[simp] theorem nn_NoStones_NoTree : (Str.ofString "NoStones" == Str.ofString "NoTree") = false := by decide +kernel
@[simp] theorem nn_NoStones_NoText : (Str.ofString "NoStones" == Str.ofString "NoText") = false := by decide +kernel
@[simp] theorem nn_NoStones_NoWay : (Str.ofString "NoStones" == Str.ofString "NoWay") = false := by decide +kernel
@[simp] theorem nn_NoStones_NoOrder : (Str.ofString "NoStones" == Str.ofString "NoOrder") = false := by decide +kernel
@[simp] theorem nn_NoStones_NoGoals : (Str.ofString "NoStones" == Str.ofString "NoGoals") = false := by decide +kernel
@[simp] theorem nn_NoStones_NoRow : (Str.ofString "NoStones" == Str.ofString "NoRow") = false := by decide +kernel
@[simp] theorem nn_NoLay_NoNet : (Str.ofString "NoLay" == Str.ofString "NoNet") = false := by decide +kernel
@[simp] theorem nn_NoLay_NoSpot : (Str.ofString "NoLay" == Str.ofString "NoSpot") = false := by decide +kernel
@[simp] theorem nn_NoLay_NoRules : (Str.ofString "NoLay" == Str.ofString "NoRules") = false := by decide +kernel
@[simp] theorem nn_NoLay_NoStones : (Str.ofString "NoLay" == Str.ofString "NoStones") = false := by decide +kernel
@[simp] theorem nn_NoLay_NoStep : (Str.ofString "NoLay" == Str.ofString "NoStep") = false := by decide +kernel
@[simp] theorem nn_NoLay_NoPlay : (Str.ofString "NoLay" == Str.ofString "NoPlay") = false := by decide +kernel
@[simp] theorem nn_NoLay_NoTree : (Str.ofString "NoLay" == Str.ofString "NoTree") = false := by decide +kernel
@[simp] theorem nn_NoLay_NoText : (Str.ofString "NoLay" == Str.ofString "NoText") = false := by decide +kernel
@[simp] theorem nn_NoLay_NoWay : (Str.ofString "NoLay" == Str.ofString "NoWay") = false := by decide +kernel
@[simp] theorem nn_NoLay_NoOrder : (Str.ofString "NoLay" == Str.ofString "NoOrder") = false := by decide +kernel
@[simp] theorem nn_NoLay_NoGoals : (Str.ofString "NoLay" == Str.ofString "NoGoals") = false := by decide +kernel
@[simp] theorem nn_NoLay_NoRow : (Str.ofString "NoLay" == Str.ofString "NoRow") = false := by decide +kernel
@[simp] theorem nn_NoStep_NoNet : (Str.ofString "NoStep" == Str.ofString "NoNet") = false := by decide +kernel
@[simp] theorem nn_NoStep_NoSpot : (Str.ofString "NoStep" == Str.ofString "NoSpot") = false := by decide +kernel
@[simp] theorem nn_NoStep_NoRules : (Str.ofString "NoStep" == Str.ofString "NoRules") = false := by decide +kernel
@[simp] theorem nn_NoStep_NoStones : (Str.ofString "NoStep" == Str.ofString "NoStones") = false := by decide +kernel
@[simp] theorem nn_NoStep_NoLay : (Str.ofString "NoStep" == Str.ofString "NoLay") = false := by decide +kernel
@[simp] theorem nn_NoStep_NoPlay : (Str.ofString "NoStep" == Str.ofString "NoPlay") = false := by decide +kernel
@[simp] theorem nn_NoStep_NoTree : (Str.ofString "NoStep" == Str.ofString "NoTree") = false := by decide +kernel
@[simp] theorem nn_NoStep_NoText : (Str.ofString "NoStep" == Str.ofString "NoText") = false := by decide +kernel
@[simp] theorem nn_NoStep_NoWay : (Str.ofString "NoStep" == Str.ofString "NoWay") = false := by decide +kernel
@[simp] theorem nn_NoStep_NoOrder : (Str.ofString "NoStep" == Str.ofString "NoOrder") = false := by decide +kernel
@[simp] theorem nn_NoStep_NoGoals : (Str.ofString "NoStep" == Str.ofString "NoGoals") = false := by decide +kernel
@[simp] theorem nn_NoStep_NoRow : (Str.ofString "NoStep" == Str.ofString "NoRow") = false := by decide +kernel
@[simp] theorem nn_NoPlay_NoNet : (Str.ofString "NoPlay" == Str.ofString "NoNet") = false := by decide +kernel
@[simp] theorem nn_NoPlay_NoSpot : (Str.ofString "NoPlay" == Str.ofString "NoSpot") = false := by decide +kernel
@[simp] theorem nn_NoPlay_NoRules : (Str.ofString "NoPlay" == Str.ofString "NoRules") = false := by decide +kernel
@[simp] theorem nn_NoPlay_NoStones : (Str.ofString "NoPlay" == Str.ofString "NoStones") = false := by decide +kernel
@[simp] theorem nn_NoPlay_NoLay : (Str.ofString "NoPlay" == Str.ofString "NoLay") = false := by decide +kernel
@[simp] theorem nn_NoPlay_NoStep : (Str.ofString "NoPlay" == Str.ofString "NoStep") = false := by decide +kernel
@[simp] theorem nn_NoPlay_NoTree : (Str.ofString "NoPlay" == Str.ofString "NoTree") = false := by decide +kernel
@[simp] theorem nn_NoPlay_NoText : (Str.ofString "NoPlay" == Str.ofString "NoText") = false := by decide +kernel
@[simp] theorem nn_NoPlay_NoWay : (Str.ofString "NoPlay" == Str.ofString "NoWay") = false := by decide +kernel
@[simp] theorem nn_NoPlay_NoOrder : (Str.ofString "NoPlay" == Str.ofString "NoOrder") = false := by decide +kernel
@[simp] theorem nn_NoPlay_NoGoals : (Str.ofString "NoPlay" == Str.ofString "NoGoals") = false := by decide +kernel
@[simp] theorem nn_NoPlay_NoRow : (Str.ofString "NoPlay" == Str.ofString "NoRow") = false := by decide +kernel
@[simp] theorem nn_NoTree_NoNet : (Str.ofString "NoTree" == Str.ofString "NoNet") = false := by decide +kernel
@[simp] theorem nn_NoTree_NoSpot : (Str.ofString "NoTree" == Str.ofString "NoSpot") = false := by decide +kernel
@[simp] theorem nn_NoTree_NoRules : (Str.ofString "NoTree" == Str.ofString "NoRules") = false := by decide +kernel
@[simp] theorem nn_NoTree_NoStones : (Str.ofString "NoTree" == Str.ofString "NoStones") = false := by decide +kernel
@[simp] theorem nn_NoTree_NoLay : (Str.ofString "NoTree" == Str.ofString "NoLay") = false := by decide +kernel
@[simp] theorem nn_NoTree_NoStep : (Str.ofString "NoTree" == Str.ofString "NoStep") = false := by decide +kernel
@[simp] theorem nn_NoTree_NoPlay : (Str.ofString "NoTree" == Str.ofString "NoPlay") = false := by decide +kernel
@[simp] theorem nn_NoTree_NoText : (Str.ofString "NoTree" == Str.ofString "NoText") = false := by decide +kernel
@[simp] theorem nn_NoTree_NoWay : (Str.ofString "NoTree" == Str.ofString "NoWay") = false := by decide +kernel
@[simp] theorem nn_NoTree_NoOrder : (Str.ofString "NoTree" == Str.ofString "NoOrder") = false := by decide +kernel
@[simp] theorem nn_NoTree_NoGoals : (Str.ofString "NoTree" == Str.ofString "NoGoals") = false := by decide +kernel
@[simp] theorem nn_NoTree_NoRow : (Str.ofString "NoTree" == Str.ofString "NoRow") = false := by decide +kernel
@[simp] theorem nn_NoText_NoNet : (Str.ofString "NoText" == Str.ofString "NoNet") = false := by decide +kernel
@[simp] theorem nn_NoText_NoSpot : (Str.ofString "NoText" == Str.ofString "NoSpot") = false := by decide +kernel
@[simp] theorem nn_NoText_NoRules : (Str.ofString "NoText" == Str.ofString "NoRules") = false := by decide +kernel
@[simp] theorem nn_NoText_NoStones : (Str.ofString "NoText" == Str.ofString "NoStones") = false := by decide +kernel
@[simp] theorem nn_NoText_NoLay : (Str.ofString "NoText" == Str.ofString "NoLay") = false := by decide +kernel
@[simp] theorem nn_NoText_NoStep : (Str.ofString "NoText" == Str.ofString "NoStep") = false := by decide +kernel
@[simp] theorem nn_NoText_NoPlay : (Str.ofString "NoText" == Str.ofString "NoPlay") = false := by decide +kernel
@[simp] theorem nn_NoText_NoTree : (Str.ofString "NoText" == Str.ofString "NoTree") = false := by decide +kernel
@[simp] theorem nn_NoText_NoWay : (Str.ofString "NoText" == Str.ofString "NoWay") = false := by decide +kernel
@[simp] theorem nn_NoText_NoOrder : (Str.ofString "NoText" == Str.ofString "NoOrder") = false := by decide +kernel
@[simp] theorem nn_NoText_NoGoals : (Str.ofString "NoText" == Str.ofString "NoGoals") = false := by decide +kernel
@[simp] theorem nn_NoText_NoRow : (Str.ofString "NoText" == Str.ofString "NoRow") = false := by decide +kernel
@[simp] theorem nn_NoWay_NoNet : (Str.ofString "NoWay" == Str.ofString "NoNet") = false := by decide +kernel
@[simp] theorem nn_NoWay_NoSpot : (Str.ofString "NoWay" == Str.ofString "NoSpot") = false := by decide +kernel
@[simp] theorem nn_NoWay_NoRules : (Str.ofString "NoWay" == Str.ofString "NoRules") = false := by decide +kernel
@[simp] theorem nn_NoWay_NoStones : (Str.ofString "NoWay" == Str.ofString "NoStones") = false := by decide +kernel
@[simp] theorem nn_NoWay_NoLay : (Str.ofString "NoWay" == Str.ofString "NoLay") = false := by decide +kernel
@[simp] theorem nn_NoWay_NoStep : (Str.ofString "NoWay" == Str.ofString "NoStep") = false := by decide +kernel
@[simp] theorem nn_NoWay_NoPlay : (Str.ofString "NoWay" == Str.ofString "NoPlay") = false := by decide +kernel
@[simp] theorem nn_NoWay_NoTree : (Str.ofString "NoWay" == Str.ofString "NoTree") = false := by decide +kernel
@[simp] theorem nn_NoWay_NoText : (Str.ofString "NoWay" == Str.ofString "NoText") = false := by decide +kernel
@[simp] theorem nn_NoWay_NoOrder : (Str.ofString "NoWay" == Str.ofString "NoOrder") = false := by decide +kernel
@[simp] theorem nn_NoWay_NoGoals : (Str.ofString "NoWay" == Str.ofString "NoGoals") = false := by decide +kernel
@[simp] theorem nn_NoWay_NoRow : (Str.ofString "NoWay" == Str.ofString "NoRow") = false := by decide +kernel
@[simp] theorem nn_NoOrder_NoNet : (Str.ofString "NoOrder" == Str.ofString "NoNet") = false := by decide +kernel
@[simp] theorem nn_NoOrder_NoSpot : (Str.ofString "NoOrder" == Str.ofString "NoSpot") = false := by decide +kernel
@[simp] theorem nn_NoOrder_NoRules : (Str.ofString "NoOrder" == Str.ofString "NoRules") = false := by decide +kernel
@[simp] theorem nn_NoOrder_NoStones : (Str.ofString "NoOrder" == Str.ofString "NoStones") = false := by decide +kernel
@[simp] theorem nn_NoOrder_NoLay : (Str.ofString "NoOrder" == Str.ofString "NoLay") = false := by decide +kernel
@[simp] theorem nn_NoOrder_NoStep : (Str.ofString "NoOrder" == Str.ofString "NoStep") = false := by decide +kernel
@[simp] theorem nn_NoOrder_NoPlay : (Str.ofString "NoOrder" == Str.ofString "NoPlay") = false := by decide +kernel
@[simp] theorem nn_NoOrder_NoTree : (Str.ofString "NoOrder" == Str.ofString "NoTree") = false := by decide +kernel
@[simp] theorem nn_NoOrder_NoText : (Str.ofString "NoOrder" == Str.ofString "NoText") = false := by decide +kernel
@[simp] theorem nn_NoOrder_NoWay : (Str.ofString "NoOrder" == Str.ofString "NoWay") = false := by decide +kernel
@[simp] theorem nn_NoOrder_NoGoals : (Str.ofString "NoOrder" == Str.ofString "NoGoals") = false := by decide +kernel
@[simp] theorem nn_NoOrder_NoRow : (Str.ofString "NoOrder" == Str.ofString "NoRow") = false := by decide +kernel
@[simp] theorem nn_NoGoals_NoNet : (Str.ofString "NoGoals" == Str.ofString "NoNet") = false := by decide +kernel
@[simp] theorem nn_NoGoals_NoSpot : (Str.ofString "NoGoals" == Str.ofString "NoSpot") = false := by decide +kernel
@[simp] theorem nn_NoGoals_NoRules : (Str.ofString "NoGoals" == Str.ofString "NoRules") = false := by decide +kernel
@[simp] theorem nn_NoGoals_NoStones : (Str.ofString "NoGoals" == Str.ofString "NoStones") = false := by decide +kernel
@[simp] theorem nn_NoGoals_NoLay : (Str.ofString "NoGoals" == Str.ofString "NoLay") = false := by decide +kernel
@[simp] theorem nn_NoGoals_NoStep : (Str.ofString "NoGoals" == Str.ofString "NoStep") = false := by decide +kernel
@[simp] theorem nn_NoGoals_NoPlay : (Str.ofString "NoGoals" == Str.ofString "NoPlay") = false := by decide +kernel
@[simp] theorem nn_NoGoals_NoTree : (Str.ofString "NoGoals" == Str.ofString "NoTree") = false := by decide +kernel
@[simp] theorem nn_NoGoals_NoText : (Str.ofString "NoGoals" == Str.ofString "NoText") = false := by decide +kernel
@[simp] theorem nn_NoGoals_NoWay : (Str.ofString "NoGoals" == Str.ofString "NoWay") = false := by decide +kernel
@[simp] theorem nn_NoGoals_NoOrder : (Str.ofString "NoGoals" == Str.ofString "NoOrder") = false := by decide +kernel
@[simp] theorem nn_NoGoals_NoRow : (Str.ofString "NoGoals" == Str.ofString "NoRow") = false := by decide +kernel
@[simp] theorem nn_NoRow_NoNet : (Str.ofString "NoRow" == Str.ofString "NoNet") = false := by decide +kernel
@[simp] theorem nn_NoRow_NoSpot : (Str.ofString "NoRow" == Str.ofString "NoSpot") = false := by decide +kernel
@[simp] theorem nn_NoRow_NoRules : (Str.ofString "NoRow" == Str.ofString "NoRules") = false := by decide +kernel
@[simp] theorem nn_NoRow_NoStones : (Str.ofString "NoRow" == Str.ofString "NoStones") = false := by decide +kernel
@[simp] theorem nn_NoRow_NoLay : (Str.ofString "NoRow" == Str.ofString "NoLay") = false := by decide +kernel
@[simp] theorem nn_NoRow_NoStep : (Str.ofString "NoRow" == Str.ofString "NoStep") = false := by decide +kernel
@[simp] theorem nn_NoRow_NoPlay : (Str.ofString "NoRow" == Str.ofString "NoPlay") = false := by decide +kernel
@[simp] theorem nn_NoRow_NoTree : (Str.ofString "NoRow" == Str.ofString "NoTree") = false := by decide +kernel
@[simp] theorem nn_NoRow_NoText : (Str.ofString "NoRow" == Str.ofString "NoText") = false := by decide +kernel
@[simp] theorem nn_NoRow_NoWay : (Str.ofString "NoRow" == Str.ofString "NoWay") = false := by decide +kernel
@[simp] theorem nn_NoRow_NoOrder : (Str.ofString "NoRow" == Str.ofString "NoOrder") = false := by decide +kernel
@[simp] theorem nn_NoRow_NoGoals : (Str.ofString "NoRow" == Str.ofString "NoGoals") = false := by decide +kernel
@[simp] theorem eqF_bb (a b : Bool) : eqF (.bool a) (.bool b) = (a == b) := rfl
@[simp] theorem isFlat_b (b : Bool) : isFlat (.bool b) = true := rfl
@[simp] theorem isFlat_i (b : Int) : isFlat (.int b) = true := rfl
@[simp] theorem isFlat_s (b : Str) : isFlat (.str b) = true := rfl
@[simp] theorem oCount_list (ds : List PyData) (d : PyData) : oCount (.list ds) [d] = if isFlat d && ds.all isFlat then frzI (ds.countP fun z => eqF z d : Nat) else .no := rfl
@[simp] theorem oIndex_list (ds : List PyData) (d : PyData) : oIndex (.list ds) [d] = if isFlat d && ds.all isFlat then match ds.findIdx? fun z => eqF z d with
    | some j => frzI (j : Nat)
    | none => .no
    else .no := rfl
theorem mk_all (a : Addr) : ∀ p ∈ ([("NoNet", "net"), ("NoSpot", "spot"), ("NoRules", "rules"), ("NoStones", "stones"), ("NoLay", "lay"), ("NoStep", "step"), ("NoPlay", "play"), ("NoTree", "tree")] : List (Str × Str)), m__law_marks a p.1 [adrD a] = .ok (.frz (.str p.2)) := by
  intro p hp
  simp only [List.mem_cons, List.not_mem_nil, or_false] at hp
  rcases hp with rfl | rfl | rfl | rfl | rfl | rfl | rfl | rfl
  all_goals
    apply run_of; intro K kk
    simp [c__law_marks, List.findIdx?_cons, List.countP_cons, lim]
    first | exact kk.rt _ _ rfl | skip
end DL

/-! PXO: the places of an exception's classes (_law_only). -/
namespace DL
open PySem L2
def c__law_classes (a : Addr) (x : Str) : CS := (cSeq (cSet 1 (cLst [(.ex (cIsE a (x == "NoNet") 0)), (.ex (cIsE a (x == "NoSpot") 0)), (.ex (cIsE a (x == "NoRules") 0)), (.ex (cIsE a (x == "NoStones") 0))]))
    (cSeq (cSet 1 (cOp2 oAdd (.nm 1) (.ex (cLst [(.ex (cIsE a (x == "NoLay") 0)), (.ex (cIsE a (x == "NoStep") 0)), (.ex (cIsE a (x == "NoPlay") 0)), (.ex (cIsE a (x == "NoTree") 0))]))))
    (cSeq (cSet 1 (cOp2 oAdd (.nm 1) (.ex (cLst [(.ex (cIsE a (x == "NoText") 0)), (.ex (cIsE a (x == "NoWay") 0)), (.ex (cIsE a (x == "NoOrder") 0)), (.ex (cIsE a (x == "NoGoals") 0))]))))
    (cRet (cOp2 oAdd (.nm 1) (.ex (cLst [(.ex (cIsE a (x == "NoRow") 0))])))))))
def m__law_classes (a : Addr) (x : Str) : Fn := runDef 2 (c__law_classes a x)
def c__law_only (a : Addr) (x : Str) : CS := (cSeq (cIfS (cOrT (cNotT (toT (cIsE a true 0))) (cNotT (toT (cIsE a true 0)))) (cRet (cK (.bool false))) cNext)
    (cRet (cOp2 oEq (.ex (cCall (m__law_classes a x) [(.nm 0)])) (.ex (cComp (.one 2) (iArgs rg1 [(.ex (cK (.int 13)))]) tYesC (cOp2 oEq (.nm 2) (.nm 1)) [2])))))
def m__law_only (a : Addr) (x : Str) : Fn := runDef 3 (c__law_only a x)
def idxT : List (Str × Nat) := [("NoNet", 0), ("NoSpot", 1), ("NoRules", 2), ("NoStones", 3), ("NoLay", 4), ("NoStep", 5), ("NoPlay", 6), ("NoTree", 7), ("NoText", 8), ("NoWay", 9), ("NoOrder", 10), ("NoGoals", 11), ("NoRow", 12)]
def boolsAt (q : Nat) : List PyData := (List.range 13).map fun k => .bool (decide (k = q))
theorem idx_lt {x : Str} {q : Nat} (h : (x, q) ∈ idxT) : q < 13 := by
  simp only [idxT, List.mem_cons, Prod.mk.injEq, List.not_mem_nil, or_false] at h
  omega
theorem classes_all (a : Addr) {x : Str} {q : Nat} (h : (x, q) ∈ idxT) : m__law_classes a x [adrD a] = .ok (.own false (.list (boolsAt q))) := by
  simp only [idxT, List.mem_cons, Prod.mk.injEq, List.not_mem_nil, or_false] at h
  rcases h with ⟨rfl, rfl⟩ | ⟨rfl, rfl⟩ | ⟨rfl, rfl⟩ | ⟨rfl, rfl⟩ | ⟨rfl, rfl⟩ | ⟨rfl, rfl⟩ | ⟨rfl, rfl⟩ | ⟨rfl, rfl⟩ | ⟨rfl, rfl⟩ | ⟨rfl, rfl⟩ | ⟨rfl, rfl⟩ | ⟨rfl, rfl⟩ | ⟨rfl, rfl⟩
  all_goals
    apply run_of; intro K kk
    simp [c__law_classes, lim]
    exact kk.rt _ _ rfl
theorem eq_boolsAt {i k : Nat} (hi : i < 13) (hk : k < 13) : oEq (.list (boolsAt i)) (.list (boolsAt k)) = .val (.frz (.bool (decide (i = k)))) := by
  have h1 : ∀ i < 13, shp (.list (boolsAt i)) = true := by decide
  have h2 : ∀ i < 13, ∀ k < 13, PyData.eqv (.list (boolsAt i)) (.list (boolsAt k)) = decide (i = k) := by decide
  show (if shp (.list (boolsAt i)) && shp (.list (boolsAt k)) then frzB (PyData.eqv (.list (boolsAt i)) (.list (boolsAt k))) else OR.no) = _
  rw [h1 i hi, h1 k hk, h2 i hi k hk]; rfl
theorem only_all (a : Addr) {x : Str} {q : Nat} (h : (x, q) ∈ idxT) {k : Nat} (hk : k < 13) : m__law_only a x [adrD a, .int k] = .ok (.frz (.bool (decide (q = k)))) := by
  apply run_of; intro K kk
  have hc := comp1 (v := 2) (ci := iArgs rg1 [.ex (cK (.int 13))]) (ct := tYesC) (ce := cOp2 oEq (.nm 2) (.nm 1)) (env := [.frz (adrD a), .frz (.int k), .emp]) (f := nD) (xs := List.range 13) (fun _ => true) (fun j => .bool (decide (j = k)))
    (by simp [rgD0]) (by simp) rfl (fun j hj => by simp [tYesC]; omega)
  rw [show (List.range 13).filter (fun _ => true) = List.range 13 from List.filter_eq_self.mpr fun _ _ => rfl] at hc
  have hc' : cComp (.one 2) (iArgs rg1 [.ex (cK (.int 13))]) tYesC (cOp2 oEq (.nm 2) (.nm 1)) [2] [.frz (adrD a), .frz (.int k), .emp] = .ok (.own false (.list (boolsAt k))) [.frz (adrD a), .frz (.int k), .emp] := hc
  simp [c__law_only, classes_all a h, hc', eq_boolsAt (idx_lt h) hk]
  exact kk.rt _ _ rfl
theorem places_run (a : Addr) {x : Str} {q : Nat} (h : (x, q) ∈ idxT) {i j : Nat} {env : Cs} (hi : gC i env = .frz (adrD a)) (hij : j ≠ i) (hj : j < env.length) (hm : (gC j env).mine = false) :
    cComp (.one j) (iArgs rg1 [.ex (cK (.int 13))]) (toT (cCall (m__law_only a x) [.nm i, .nm j])) (cVar j) [j] env = .ok (.own false (.list [.int q])) env := by
  have g1 : ∀ c, gC j (env.set j c) = c := fun c => by rw [← getD_gC, List.getD_eq_getElem?_getD, List.getElem?_set_self hj]; rfl
  have g2 : ∀ c, gC i (env.set j c) = .frz (adrD a) := fun c => by rw [← getD_gC, List.getD_eq_getElem?_getD, List.getElem?_set_ne hij, ← List.getD_eq_getElem?_getD, getD_gC, hi]
  have hc := comp1 (v := j) (ci := iArgs rg1 [.ex (cK (.int 13))]) (ct := toT (cCall (m__law_only a x) [.nm i, .nm j])) (ce := cVar j) (env := env) (f := nD) (xs := List.range 13) (fun k => decide (q = k)) nD
    (by simp [rgD0]) hj hm (fun k hk => by
      have hk := List.mem_range.mp hk
      simp [g1, g2, only_all a h hk]
      exact fun _ => ⟨_, rfl⟩)
  rw [hc]
  have e : ∀ q < 13, (List.range 13).filter (fun k => decide (q = k)) = [q] := by decide
  rw [e q (idx_lt h)]; rfl
end DL

/-! PMA: what lies beneath a spot: mathematics. -/
namespace DL
open PySem L2
/-- the needs of a spot -/
def nds (net : List (List Nat)) (s : Nat) : List Nat := net[s]?.getD []
inductive Reach (net : List (List Nat)) (s : Nat) : Nat → Prop
  | here : Reach net s s
  | down {a b : Nat} : Reach net s a → b ∈ nds net a → Reach net s b
theorem nds_lt {net : List (List Nat)} (h : NetOk net) {s n : Nat} (m : n ∈ nds net s) : n < s := by
  unfold nds at m
  cases e : net[s]? with
  | none => rw [e] at m; cases m
  | some l => rw [e] at m; exact h.low s l e n m
theorem nds_inc {net : List (List Nat)} (h : NetOk net) (s : Nat) : (nds net s).Pairwise (· < ·) := by
  unfold nds
  cases e : net[s]? with
  | none => exact .nil
  | some l => exact h.inc s l e
theorem Reach.le {net : List (List Nat)} (h : NetOk net) {s a : Nat} (r : Reach net s a) : a ≤ s := by
  induction r with
  | here => exact Nat.le_refl _
  | down _ m ih => have := nds_lt h m; omega
theorem Reach.trans {net : List (List Nat)} {s a b : Nat} (r : Reach net s a) (q : Reach net a b) : Reach net s b := by
  induction q with
  | here => exact r
  | down _ m ih => exact .down ih m
/-- the least list that is closed -/
theorem reach_of_closed {net : List (List Nat)} {s : Nat} {l : List Nat} (h0 : s ∈ l) (hc : ∀ a ∈ l, ∀ b ∈ nds net a, b ∈ l) {a : Nat} (r : Reach net s a) : a ∈ l := by
  induction r with
  | here => exact h0
  | down _ m ih => exact hc _ ih _ m
/-- sorted, of whole numbers from 0 on -/
def insN (x : Nat) : List Nat → List Nat
  | [] => [x]
  | y :: l => if x ≤ y then x :: y :: l else y :: insN x l
def sortN : List Nat → List Nat
  | [] => []
  | x :: l => insN x (sortN l)
theorem insN_perm (x : Nat) : ∀ l : List Nat, (insN x l).Perm (x :: l)
  | [] => .refl _
  | y :: l => by
    unfold insN
    by_cases h : x ≤ y
    · rw [if_pos h]
    · rw [if_neg h]; exact ((insN_perm x l).cons y).trans (.swap x y l)
theorem sortN_perm : ∀ l : List Nat, (sortN l).Perm l
  | [] => .refl _
  | x :: l => (insN_perm x (sortN l)).trans ((sortN_perm l).cons x)
theorem insI_map (x : Nat) : ∀ l : List Nat, insI (x : Int) (l.map fun (n : Nat) => (n : Int)) = (insN x l).map fun (n : Nat) => (n : Int)
  | [] => rfl
  | y :: l => by
    rw [List.map_cons]; unfold insI insN
    by_cases h : x ≤ y
    · rw [if_pos h, if_pos (by omega)]; rfl
    · rw [if_neg h, if_neg (by omega), insI_map x l]; rfl
theorem sortI_map : ∀ l : List Nat, sortI (l.map fun (n : Nat) => (n : Int)) = (sortN l).map fun (n : Nat) => (n : Int)
  | [] => rfl
  | x :: l => by
    rw [List.map_cons]; unfold sortI sortN
    rw [sortI_map l, insI_map]
theorem insN_sorted (x : Nat) : ∀ l : List Nat, l.Pairwise (· ≤ ·) → (insN x l).Pairwise (· ≤ ·)
  | [], _ => by unfold insN; simp
  | y :: l, h => by
    rw [List.pairwise_cons] at h
    unfold insN
    by_cases q : x ≤ y
    · rw [if_pos q, List.pairwise_cons, List.pairwise_cons]
      refine ⟨fun a ha => ?_, h.1, h.2⟩
      rcases List.mem_cons.mp ha with rfl | ha
      · exact q
      · have := h.1 a ha; omega
    · rw [if_neg q, List.pairwise_cons]
      refine ⟨fun a ha => ?_, insN_sorted x l h.2⟩
      have := (insN_perm x l).mem_iff.mp ha
      rcases List.mem_cons.mp this with rfl | ha
      · omega
      · exact h.1 a ha
theorem sortN_sorted : ∀ l : List Nat, (sortN l).Pairwise (· ≤ ·)
  | [] => .nil
  | x :: l => insN_sorted x _ (sortN_sorted l)
theorem perm_sorted_eq : ∀ {a b : List Nat}, a.Perm b → a.Pairwise (· ≤ ·) → b.Pairwise (· ≤ ·) → a = b := fun p h1 h2 =>
  List.Perm.eq_of_pairwise (fun a b _ _ h h' => Nat.le_antisymm h h') h1 h2 p
theorem sortN_of_sorted {l : List Nat} (h : l.Pairwise (· ≤ ·)) : sortN l = l := perm_sorted_eq (sortN_perm l) (sortN_sorted l) h
/-- two lists of the same things, none twice -/
theorem sort_same {a b : List Nat} (ha : a.Nodup) (hb : b.Nodup) (h : ∀ x, x ∈ a ↔ x ∈ b) : sortN a = sortN b :=
  perm_sorted_eq (((sortN_perm a).trans ((List.perm_ext_iff_of_nodup ha hb).mpr h)).trans (sortN_perm b).symm) (sortN_sorted a) (sortN_sorted b)
theorem intsOf_nD : ∀ l : List Nat, intsOf (l.map nD) = some (l.map fun (n : Nat) => (n : Int))
  | [] => rfl
  | x :: l => by rw [List.map_cons, List.map_cons]; unfold intsOf; simp [intsOf_nD l]
@[simp] theorem oSorted_nD (l : List Nat) : oSortedA [.list (l.map nD)] = .val (.own false (.list ((sortN l).map nD))) := by
  unfold oSortedA
  simp [intsOf_nD, sortI_map]
@[simp] theorem oSorted_la (l : List Nat) : oSortedA [laD l] = .val (.own false (.list ((sortN l).map nD))) := by
  unfold oSortedA laD
  simp [intsOf_nD, sortI_map]
@[simp] theorem oSorted_snoc (l : List Nat) (n : Nat) : oSortedA [.list (l.map nD ++ [PyData.int (n : Int)])] = .val (.own false (.list ((sortN (l ++ [n])).map nD))) := by
  have := oSorted_nD (l ++ [n])
  rw [List.map_append] at this
  exact this
open Classical in
/-- the spots beneath a spot, rising -/
noncomputable def below (net : List (List Nat)) (s : Nat) : List Nat := (List.range (s + 1)).filter fun x => decide (Reach net s x)
theorem mem_below {net : List (List Nat)} (h : NetOk net) {s x : Nat} : x ∈ below net s ↔ Reach net s x := by
  unfold below
  rw [List.mem_filter]
  simp only [List.mem_range, decide_eq_true_eq]
  exact ⟨fun q => q.2, fun q => ⟨by have := q.le h; omega, q⟩⟩
theorem below_inc (net : List (List Nat)) (s : Nat) : (below net s).Pairwise (· < ·) := by
  unfold below; exact List.Pairwise.filter _ List.pairwise_lt_range
theorem lt_nodup {l : List Nat} (h : l.Pairwise (· < ·)) : l.Nodup := h.imp fun q => Nat.ne_of_lt q
theorem lt_le {l : List Nat} (h : l.Pairwise (· < ·)) : l.Pairwise (· ≤ ·) := h.imp fun q => Nat.le_of_lt q
theorem sort_below {net : List (List Nat)} (h : NetOk net) {s : Nat} {l : List Nat} (hn : l.Nodup) (hm : ∀ x, x ∈ l ↔ Reach net s x) : sortN l = below net s := by
  rw [sort_same hn (lt_nodup (below_inc net s)) fun x => (hm x).trans (mem_below h).symm, sortN_of_sorted (lt_le (below_inc net s))]
theorem below_len {net : List (List Nat)} (s : Nat) : (below net s).length ≤ s + 1 := by
  unfold below; exact Nat.le_trans (List.length_filter_le _ _) (by simp)
theorem nodup_le {l : List Nat} {s : Nat} (h : l.Nodup) (hs : ∀ x ∈ l, x ≤ s) : l.length ≤ s + 1 := by
  have := List.Nodup.length_le_of_subset h (l₂ := List.range (s + 1)) fun x hx => by have := hs x hx; simp; omega
  simpa using this
theorem ev_beneath {net : List (List Nat)} (h : NetV net) (s : Nat) (hs : s < net.length) : m_beneath [netD net, .int s] = .ok (.own false (.list ((below net s).map nD))) := by
  have h10 := h.ten
  apply run_of; intro K kk
  simp [c_beneath, ev_needspot h s hs]
  refine sat_whileT (fun k e => ∃ (found : List Nat) (at' : Nat) (j : Cell), j.mine = false ∧ e = [.frz (netD net), .frz (.int s), .own false (.list (found.map nD)), .frz (.int at'), j] ∧ found.Nodup ∧ (∀ x ∈ found, Reach net s x) ∧ s ∈ found ∧ at' ≤ found.length ∧ (∀ (i a : Nat), i < at' → found[i]? = some a → ∀ b ∈ nds net a, b ∈ found) ∧ k = 11 - at') (k := 11)
    ⟨[s], 0, .emp, rfl, rfl, by simp, by simp; exact .here, by simp, by simp, fun i a hi => by omega, rfl⟩ (by omega) ?_
  rintro k e ⟨found, at', j, hj, rfl, hn, hr, h0, hle, hcl, rfl⟩ K' Z L hZ
  have hlen := nodup_le hn fun x hx => (hr x hx).le h.ok
  simp [atI_nat]
  refine ⟨fun hlt => ?_, fun hge => hZ _ ?_⟩
  · have hg : found[at']? = some found[at'] := List.getElem?_eq_getElem hlt
    have hra := hr _ (List.getElem_mem hlt)
    have hal : found[at'] < net.length := by have := hra.le h.ok; omega
    have hgn : net[found[at']]? = some net[found[at']] := List.getElem?_eq_getElem hal
    have hnds : nds net found[at'] = net[found[at']] := by unfold nds; rw [hgn]; rfl
    have hc := comp1 (f := nD) (v := 4) (ci := iSeq (cOp2 oIx (.nm 0) (.ex (cOp2 oIx (.nm 2) (.nm 3))))) (ct := toT (cOp2 (oIn true) (.nm 4) (.nm 2))) (ce := cVar 4)
      (env := [.frz (netD net), .frz (.int s), .own false (.list (found.map nD)), .frz (.int at'), j]) (xs := nds net found[at']) (fun x => !found.contains x) nD
      (by simp [atI_nat, hlt, hgn, hnds]) (by simp) (by simp [hj]) (fun x hx => by simp)
    have hnew : (found ++ (nds net found[at']).filter fun x => !found.contains x).Nodup := by
      rw [List.nodup_append]
      refine ⟨hn, (lt_nodup (nds_inc h.ok _)).filter _, fun a ha b hb => ?_⟩
      simp at hb; intro e; rw [e] at ha; exact hb.2 ha
    have hreach : ∀ x ∈ (found ++ (nds net found[at']).filter fun x => !found.contains x), Reach net s x := fun x hx => by
      rw [List.mem_append] at hx
      rcases hx with hx | hx
      · exact hr x hx
      · simp at hx; exact .down hra hx.1
    have hlen2 := nodup_le hnew fun x hx => (hreach x hx).le h.ok
    rw [List.length_append] at hlen2
    simp only [List.contains_eq_mem] at hc hlen2 hnew hreach
    simp [hc, lim, show (found.length + ((nds net found[at']).filter fun x => !decide (x ∈ found)).length ≤ 1000000) by omega]
    refine L.nx _ ⟨_, ?_, found ++ ((nds net found[at']).filter fun x => !decide (x ∈ found)), at' + 1, j, hj, ?_, hnew, hreach, List.mem_append_left _ h0, by simp; omega, fun i a hi ha b hb => ?_, rfl⟩
    · omega
    · simp
    · by_cases z : i = at'
      · subst z
        rw [List.getElem?_append_left hlt, hg] at ha
        cases ha
        by_cases y : b ∈ found
        · exact List.mem_append_left _ y
        · exact List.mem_append_right _ (by simp [hb, y])
      · rw [List.getElem?_append_left (by omega)] at ha
        exact List.mem_append_left _ (hcl i a (by omega) ha b hb)
  · simp
    refine kk.rt _ _ ?_
    have : ∀ x, x ∈ found ↔ Reach net s x := fun x => ⟨hr x, reach_of_closed h0 fun a ha b hb => by
      obtain ⟨i, hi, e⟩ := List.mem_iff_getElem.mp ha
      exact hcl i a (by omega) (by rw [← e]; exact List.getElem?_eq_getElem hi) b hb⟩
    rw [sort_below h.ok hn this]
    rfl
theorem ev_above {net : List (List Nat)} (h : NetV net) (s : Nat) (hs : s < net.length) : m_above [netD net, .int s] = .ok (.own false (.list (((List.range net.length).filter fun x => (below net x).contains s).map nD))) := by
  have h10 := h.ten
  apply run_of; intro K kk
  have hc := comp1 (f := nD) (v := 2) (ci := iArgs rg1 [.ex (cOpN oLen [.nm 0])]) (ct := toT (cOp2 (oIn false) (.nm 1) (.ex (cCall m_beneath [.nm 0, .nm 2])))) (ce := cVar 2)
    (env := [.frz (netD net), .frz (.int s), .emp]) (xs := List.range net.length) (fun x => (below net x).contains s) nD
    (by simp [rgD0, show -1000000 ≤ (net.length : Int) by omega, show (net.length : Int) ≤ 1000000 by omega]) (by simp) (by simp) (fun x hx => by
      simp at hx
      simp [ev_beneath h x hx])
  simp [c_above, ev_needspot h s hs, hc]
  exact kk.rt _ _ (by simp)
end DL

/-! PBE: a law's own way to what lies beneath. -/
namespace DL
open PySem L2
def c__law_below : CS := (cSeq (cSet 2 (cLst [(.ex (cVar 1))]))
    (cSeq (cFor (.one 3) (iArgs rg3 [(.nm 1), (.ex (cNeg (.ex (cK (.int 1))))), (.ex (cNeg (.ex (cK (.int 1)))))]) (cIfS (toT (cOp2 oNe (.ex (cCompO 2 (.one 4) (toT (cOp2 (oIn false) (.nm 3) (.ex (cOp2 oIx (.nm 0) (.nm 4))))) (cVar 4) [4])) (.ex (cLst [])))) (cDrop (cMethT "list" mAppend 2 [(.ex (cVar 3))])) cNext))
    (cRet (cOpN oSortedA [(.nm 2)]))))
def m__law_below : Fn := runDef 5 c__law_below
theorem rgDown_map (s : Nat) : rgDown (s : Int) (s + 1) = (List.range (s + 1)).map fun i => nD (s - i) := by
  unfold rgDown
  apply List.map_congr_left; intro i hi
  simp at hi
  simp; omega
theorem ev_lbelow {net : List (List Nat)} (h : NetV net) (s : Nat) (hs : s < net.length) : m__law_below [netD net, .int s] = .ok (.own false (.list ((below net s).map nD))) := by
  have h10 := h.ten
  apply run_of; intro K kk
  simp [c__law_below, show (-1000000 ≤ (s : Int)) by omega, show ((s : Int) ≤ 1000000) by omega, rgDown_map]
  refine sat_forT (fun rest e => ∃ (found : List Nat) (i : Nat) (j3 j4 : Cell), isLck j3 = false ∧ j4.mine = false ∧ e = [.frz (netD net), .frz (.int s), .own false (.list (found.map nD)), j3, j4] ∧ rest = List.range' i (s + 1 - i) ∧ i ≤ s + 1 ∧ found.Nodup ∧ (∀ x ∈ found, Reach net s x) ∧ s ∈ found ∧ (∀ x, Reach net s x → s < x + i → x ∈ found) ∧ ∀ x ∈ found, x = s ∨ s < x + i)
    ⟨[s], 0, .emp, .emp, rfl, rfl, rfl, by simp [List.range_eq_range'], by omega, by simp, by simp; exact .here, by simp, fun x r hx => by have := r.le h.ok; omega, by simp⟩ ?_ ?_
  · rintro x rest e ⟨found, i, j3, j4, l3, l4, rfl, hr, hi, hn, hre, h0, hc, hu⟩ K' L
    obtain ⟨rfl, hk, rfl⟩ := range'_cons hr
    have hle : x ≤ s := by omega
    have hlen := nodup_le hn fun x hx => (hre x hx).le h.ok
    have hcomp := compO_own (b := false) (i := 2) (v := 4) (ct := toT (cOp2 (oIn false) (.nm 3) (.ex (cOp2 oIx (.nm 0) (.nm 4))))) (ce := cVar 4) (env := [.frz (netD net), .frz (.int s), .own false (.list (found.map nD)), .frz (.int (s - x : Nat)), j4]) (xs := found) (f := nD)
      (fun y => (nds net y).contains (s - x)) nD (by simp) (by simp) (by simp [l4]) (by decide) (fun y hy => by
        have hy2 : y < net.length := by have := (hre y hy).le h.ok; omega
        have hg : net[y]? = some net[y] := List.getElem?_eq_getElem hy2
        have hnd : nds net y = net[y] := by unfold nds; rw [hg]; rfl
        simp [atI_nat, hg, hnd, laD])
    simp only [List.contains_eq_mem] at hcomp
    have e1 : ((s : Int) - (x : Int)) = ((s - x : Nat) : Int) := by omega
    simp [l3, hcomp, e1, lim, show found.length < 1000000 by omega]
    have rest1 : List.range' (x + 1) (s + 1 - x - 1) = List.range' (x + 1) (s + 1 - (x + 1)) := by congr 1
    refine ⟨fun y hy hm => L.nx _ ?_, fun hno => L.nx _ ?_⟩
    · have hlt := nds_lt h.ok hm
      have hys := (hre y hy).le h.ok
      have hnew : s - x ∉ found := fun z => by rcases hu _ z with q | q <;> omega
      refine ⟨found ++ [s - x], x + 1, .frz _, j4, rfl, l4, by simp; rfl, rest1, by omega, ?_, ?_, List.mem_append_left _ h0, fun z hz hlt => ?_, fun z hz => ?_⟩
      · rw [List.nodup_append]; exact ⟨hn, by simp, fun a ha b hb => by simp at hb; subst hb; intro e; exact hnew (e ▸ ha)⟩
      · intro z hz; rw [List.mem_append] at hz; rcases hz with hz | hz
        · exact hre z hz
        · simp at hz; subst hz; exact .down (hre y hy) hm
      · by_cases q : s < z + x
        · exact List.mem_append_left _ (hc z hz q)
        · exact List.mem_append_right _ (by simp; omega)
      · rw [List.mem_append] at hz; rcases hz with hz | hz
        · rcases hu z hz with q | q
          · exact .inl q
          · exact .inr (by omega)
        · simp at hz; exact .inr (by omega)
    · refine ⟨found, x + 1, .frz _, j4, rfl, l4, rfl, rest1, by omega, hn, hre, h0, fun z hz hlt => ?_, fun z hz => ?_⟩
      · by_cases q : s < z + x
        · exact hc z hz q
        · have ez : z = s - x := by omega
          cases hz with
          | here => exact h0
          | down r m =>
            rename_i a
            have hla := nds_lt h.ok m
            have ha := hc a r (by omega)
            rw [ez] at m
            exact (hno a ha m).elim
      · rcases hu z hz with q | q
        · exact .inl q
        · exact .inr (by omega)
  · rintro e ⟨found, i, j3, j4, l3, l4, rfl, hr, hi, hn, hre, h0, hc, hu⟩
    have hi2 : i = s + 1 := by
      have := congrArg List.length hr; simp at this; omega
    subst hi2
    simp
    refine kk.rt _ _ ?_
    rw [sort_below h.ok hn fun x => ⟨hre x, fun r => hc x r (by omega)⟩]; rfl
/-! ### a law's outer loop -/
@[simp] theorem oLen_script (ns : List Int) : oLen [scriptD ns] = .val (.frz (.int ns.length)) := by unfold scriptD; rw [oLen_scr, List.length_map]
theorem law_items (ns : List Int) {N : Int} (h1 : 1 ≤ N) (h2 : N ≤ 100) {env : Cs} (h0 : gC 0 env = .frz (scriptD ns)) :
    ∃ t : Nat, t ≤ 100 ∧ iArgs rg1 [.ex (cOpN oMax2 [.ex (cK (.int 1)), .ex (cOpN oMin2 [.ex (cOpN oLen [.nm 0]), .ex (cK (.int N))])])] env = .ok ((List.range t).map nD) env := by
  simp [h0]
  obtain ⟨t, ht, ht2⟩ : ∃ t : Nat, (if 1 < (if N < (ns.length : Int) then N else (ns.length : Int)) then (if N < (ns.length : Int) then N else (ns.length : Int)) else 1) = (t : Int) ∧ t ≤ 100 := by
    by_cases h : N < (ns.length : Int)
    · simp only [if_pos h]
      by_cases h1 : 1 < N
      · rw [if_pos h1]; exact ⟨N.toNat, by omega, by omega⟩
      · rw [if_neg h1]; exact ⟨1, rfl, by omega⟩
    · simp only [if_neg h]
      by_cases h1 : 1 < (ns.length : Int)
      · rw [if_pos h1]; exact ⟨ns.length, rfl, by omega⟩
      · rw [if_neg h1]; exact ⟨1, rfl, by omega⟩
  refine ⟨t, ht2, ?_⟩
  rw [ht]
  simp [rgD0, show -1000000 ≤ (t : Int) by omega, show (t : Int) ≤ 1000000 by omega]
theorem law_outer {ns : List Int} {n : Nat} {body : CS} {N : Int} (h1 : 1 ≤ N) (h2 : N ≤ 100) (J : Cs → Prop) (h0 : J (emps (n - 1)))
    (hb : ∀ k : Nat, k < 1000 → ∀ js, J js → ∀ K', (∀ js', J js' → K'.nx (.frz (scriptD ns) :: js')) → (∀ js', J js' → K'.ct (.frz (scriptD ns) :: js')) → isO ((Tg.one 1).put (nD k) (.frz (scriptD ns) :: js)) fun e1 => (body e1).sat K') :
    runDef n (cSeq (cFor (.one 1) (iArgs rg1 [.ex (cOpN oMax2 [.ex (cK (.int 1)), .ex (cOpN oMin2 [.ex (cOpN oLen [.nm 0]), .ex (cK (.int N))])])]) body) (cRet (cK (.bool true)))) [scriptD ns] = .ok (.frz (.bool true)) := by
  apply run_of; intro K kk
  show SRes.sat K (cSeq _ _ (.frz (scriptD ns) :: emps (n - 1)))
  obtain ⟨t, ht, hi⟩ := law_items ns h1 h2 (env := .frz (scriptD ns) :: emps (n - 1)) rfl
  rw [ev_seq, ev_for, hi]
  refine sat_forT (fun rest e => ∃ js, e = .frz (scriptD ns) :: js ∧ J js ∧ ∀ k ∈ rest, k < 1000) ⟨_, rfl, h0, fun k hk => by simp at hk; omega⟩ ?_ ?_
  · rintro k rest e ⟨js, rfl, hj, hr⟩ K' L
    exact hb k (hr k List.mem_cons_self) js hj K' (fun js' hj' => L.nx _ ⟨js', rfl, hj', fun k hk => hr k (List.mem_cons_of_mem _ hk)⟩) (fun js' hj' => L.ct _ ⟨js', rfl, hj', fun k hk => hr k (List.mem_cons_of_mem _ hk)⟩)
  · rintro e ⟨js, rfl, hj, hr⟩
    exact kk.rt _ _ rfl
theorem pick4 (b : Int) : ∃ m : Int, atI [PyData.int 7, .int 7, .int 7, .int 10] (b % 4) = some (.int m) ∧ 0 < m ∧ m ≤ 10 := by
  have h : b % 4 = ((b % 4).toNat : Nat) := by omega
  have h2 : (b % 4).toNat = 0 ∨ (b % 4).toNat = 1 ∨ (b % 4).toNat = 2 ∨ (b % 4).toNat = 3 := by omega
  rw [h, atI_nat]
  rcases h2 with h | h | h | h <;> rw [h] <;> exact ⟨_, rfl, by decide, by decide⟩
end DL

/-! PSA: words, rules, steps as data. -/
namespace DL
open PySem L2
theorem oEq_strs (a b : Str) : oEq (.str a) (.str b) = .val (.frz (.bool (a == b))) := rfl
theorem oNe_strs (a b : Str) : oNe (.str a) (.str b) = .val (.frz (.bool (!(a == b)))) := rfl
theorem oEq_str {a b : Str} (ha : PyData.strOk a = true) (hb : PyData.strOk b = true) : oEq (.str a) (.str b) = .val (.frz (.bool (a == b))) := rfl
theorem oNe_str {a b : Str} (ha : PyData.strOk a = true) (hb : PyData.strOk b = true) : oNe (.str a) (.str b) = .val (.frz (.bool (!(a == b)))) := rfl
inductive Rul where
  | plain
  | slide
  | careful
deriving DecidableEq
def ruS : Rul → Str
  | .plain => "plain"
  | .slide => "slide"
  | .careful => "careful"
def ruD (r : Rul) : PyData := .str (ruS r)
inductive Stp where
  | put (s : Nat)
  | take (s : Nat)
  | slide (n s : Nat)
deriving DecidableEq
def stD : Stp → PyData
  | .put s => .tuple [.str "put", .int s]
  | .take s => .tuple [.str "take", .int s]
  | .slide n s => .tuple [.str "slide", .int n, .int s]
def Stp.top : Stp → Nat
  | .put s => s
  | .take s => s
  | .slide _ s => s
theorem ok_put : PyData.strOk (Str.ofString "put") = true := by decide +kernel
theorem ok_take : PyData.strOk (Str.ofString "take") = true := by decide +kernel
theorem ok_slide : PyData.strOk (Str.ofString "slide") = true := by decide +kernel
theorem ok_plain : PyData.strOk (Str.ofString "plain") = true := by decide +kernel
theorem ok_careful : PyData.strOk (Str.ofString "careful") = true := by decide +kernel
theorem ne_put_take : (Str.ofString "put" == Str.ofString "take") = false := by decide +kernel
theorem ne_take_put : (Str.ofString "take" == Str.ofString "put") = false := by decide +kernel
theorem ne_slide_put : (Str.ofString "slide" == Str.ofString "put") = false := by decide +kernel
theorem ne_slide_take : (Str.ofString "slide" == Str.ofString "take") = false := by decide +kernel
theorem ne_put_slide : (Str.ofString "put" == Str.ofString "slide") = false := by decide +kernel
theorem ne_take_slide : (Str.ofString "take" == Str.ofString "slide") = false := by decide +kernel
theorem ne_plain_slide : (Str.ofString "plain" == Str.ofString "slide") = false := by decide +kernel
theorem ne_plain_careful : (Str.ofString "plain" == Str.ofString "careful") = false := by decide +kernel
theorem ne_slide_plain : (Str.ofString "slide" == Str.ofString "plain") = false := by decide +kernel
theorem ne_slide_careful : (Str.ofString "slide" == Str.ofString "careful") = false := by decide +kernel
theorem ne_careful_plain : (Str.ofString "careful" == Str.ofString "plain") = false := by decide +kernel
theorem ne_careful_slide : (Str.ofString "careful" == Str.ofString "slide") = false := by decide +kernel
@[simp] theorem w_put_put : oEq (.str (Str.ofString "put")) (.str (Str.ofString "put")) = .val (.frz (.bool true)) := by rw [oEq_str ok_put ok_put, beq_self_eq_true]
@[simp] theorem w_put_take : oEq (.str (Str.ofString "put")) (.str (Str.ofString "take")) = .val (.frz (.bool false)) := by rw [oEq_str ok_put ok_take, ne_put_take]
@[simp] theorem w_put_slide : oEq (.str (Str.ofString "put")) (.str (Str.ofString "slide")) = .val (.frz (.bool false)) := by rw [oEq_str ok_put ok_slide, ne_put_slide]
@[simp] theorem w_take_put : oEq (.str (Str.ofString "take")) (.str (Str.ofString "put")) = .val (.frz (.bool false)) := by rw [oEq_str ok_take ok_put, ne_take_put]
@[simp] theorem w_take_take : oEq (.str (Str.ofString "take")) (.str (Str.ofString "take")) = .val (.frz (.bool true)) := by rw [oEq_str ok_take ok_take, beq_self_eq_true]
@[simp] theorem w_take_slide : oEq (.str (Str.ofString "take")) (.str (Str.ofString "slide")) = .val (.frz (.bool false)) := by rw [oEq_str ok_take ok_slide, ne_take_slide]
@[simp] theorem w_slide_put : oEq (.str (Str.ofString "slide")) (.str (Str.ofString "put")) = .val (.frz (.bool false)) := by rw [oEq_str ok_slide ok_put, ne_slide_put]
@[simp] theorem w_slide_take : oEq (.str (Str.ofString "slide")) (.str (Str.ofString "take")) = .val (.frz (.bool false)) := by rw [oEq_str ok_slide ok_take, ne_slide_take]
@[simp] theorem w_slide_slide : oEq (.str (Str.ofString "slide")) (.str (Str.ofString "slide")) = .val (.frz (.bool true)) := by rw [oEq_str ok_slide ok_slide, beq_self_eq_true]
@[simp] theorem v_put_put : oNe (.str (Str.ofString "put")) (.str (Str.ofString "put")) = .val (.frz (.bool false)) := by rw [oNe_str ok_put ok_put, beq_self_eq_true]; rfl
@[simp] theorem v_put_take : oNe (.str (Str.ofString "put")) (.str (Str.ofString "take")) = .val (.frz (.bool true)) := by rw [oNe_str ok_put ok_take, ne_put_take]; rfl
@[simp] theorem v_take_put : oNe (.str (Str.ofString "take")) (.str (Str.ofString "put")) = .val (.frz (.bool true)) := by rw [oNe_str ok_take ok_put, ne_take_put]; rfl
@[simp] theorem v_take_take : oNe (.str (Str.ofString "take")) (.str (Str.ofString "take")) = .val (.frz (.bool false)) := by rw [oNe_str ok_take ok_take, beq_self_eq_true]; rfl
@[simp] theorem v_slide_put : oNe (.str (Str.ofString "slide")) (.str (Str.ofString "put")) = .val (.frz (.bool true)) := by rw [oNe_str ok_slide ok_put, ne_slide_put]; rfl
@[simp] theorem v_slide_take : oNe (.str (Str.ofString "slide")) (.str (Str.ofString "take")) = .val (.frz (.bool true)) := by rw [oNe_str ok_slide ok_take, ne_slide_take]; rfl
theorem ru_ok (r : Rul) : PyData.strOk (ruS r) = true := by cases r <;> first | exact ok_plain | exact ok_slide | exact ok_careful
theorem ru_slide (r : Rul) : (ruS r == Str.ofString "slide") = decide (r = .slide) := by cases r <;> first | exact ne_plain_slide | exact ne_careful_slide | exact beq_self_eq_true _
theorem ru_careful (r : Rul) : (ruS r == Str.ofString "careful") = decide (r = .careful) := by cases r <;> first | exact ne_plain_careful | exact ne_slide_careful | exact beq_self_eq_true _
theorem ru_plain (r : Rul) : (ruS r == Str.ofString "plain") = decide (r = .plain) := by cases r <;> first | exact ne_slide_plain | exact ne_careful_plain | exact beq_self_eq_true _
@[simp] theorem oEq_ru_slide (r : Rul) : oEq (ruD r) (.str (Str.ofString "slide")) = .val (.frz (.bool (decide (r = .slide)))) := by unfold ruD; rw [oEq_str (ru_ok r) ok_slide, ru_slide]
@[simp] theorem oEq_ru_careful (r : Rul) : oEq (ruD r) (.str (Str.ofString "careful")) = .val (.frz (.bool (decide (r = .careful)))) := by unfold ruD; rw [oEq_str (ru_ok r) ok_careful, ru_careful]
@[simp] theorem oEq_ru_plain (r : Rul) : oEq (ruD r) (.str (Str.ofString "plain")) = .val (.frz (.bool (decide (r = .plain)))) := by unfold ruD; rw [oEq_str (ru_ok r) ok_plain, ru_plain]
@[simp] theorem oNe_ru_slide (r : Rul) : oNe (ruD r) (.str (Str.ofString "slide")) = .val (.frz (.bool (!decide (r = .slide)))) := by unfold ruD; rw [oNe_str (ru_ok r) ok_slide, ru_slide]
@[simp] theorem oNe_ru_careful (r : Rul) : oNe (ruD r) (.str (Str.ofString "careful")) = .val (.frz (.bool (!decide (r = .careful)))) := by unfold ruD; rw [oNe_str (ru_ok r) ok_careful, ru_careful]
@[simp] theorem oNe_ru_plain (r : Rul) : oNe (ruD r) (.str (Str.ofString "plain")) = .val (.frz (.bool (!decide (r = .plain)))) := by unfold ruD; rw [oNe_str (ru_ok r) ok_plain, ru_plain]
@[simp] theorem at0_2 (a b : PyData) : atI [a, b] 0 = some a := rfl
@[simp] theorem at1_2 (a b : PyData) : atI [a, b] 1 = some b := rfl
@[simp] theorem atm_2 (a b : PyData) : atI [a, b] (-1) = some b := rfl
@[simp] theorem at0_3 (a b c : PyData) : atI [a, b, c] 0 = some a := rfl
@[simp] theorem at1_3 (a b c : PyData) : atI [a, b, c] 1 = some b := rfl
@[simp] theorem at2_3 (a b c : PyData) : atI [a, b, c] 2 = some c := rfl
@[simp] theorem atm_3 (a b c : PyData) : atI [a, b, c] (-1) = some c := rfl
@[simp] theorem ix_put0 (s : Nat) : oIx (stD (.put s)) (.int 0) = .val (.frz (.str (Str.ofString "put"))) := rfl
@[simp] theorem ix_take0 (s : Nat) : oIx (stD (.take s)) (.int 0) = .val (.frz (.str (Str.ofString "take"))) := rfl
@[simp] theorem ix_slide0 (n s : Nat) : oIx (stD (.slide n s)) (.int 0) = .val (.frz (.str (Str.ofString "slide"))) := rfl
@[simp] theorem ix_put1 (s : Nat) : oIx (stD (.put s)) (.int 1) = .val (.frz (.int s)) := rfl
@[simp] theorem ix_take1 (s : Nat) : oIx (stD (.take s)) (.int 1) = .val (.frz (.int s)) := rfl
@[simp] theorem ix_slide1 (n s : Nat) : oIx (stD (.slide n s)) (.int 1) = .val (.frz (.int n)) := rfl
@[simp] theorem ix_slide2 (n s : Nat) : oIx (stD (.slide n s)) (.int 2) = .val (.frz (.int s)) := rfl
@[simp] theorem ix_top (st : Stp) : oIx (stD st) (.int (-1)) = .val (.frz (.int st.top)) := by cases st <;> rfl
instance : EncOk stD where
  eqv a b := by
    cases a <;> cases b <;> simp only [stD, PyData.eqv, PyData.eqvAll, ne_put_take, ne_take_put, ne_slide_put, ne_slide_take, ne_put_slide, ne_take_slide, beq_self_eq_true, Bool.false_and, Bool.true_and, Bool.and_true] <;> (rw [Bool.eq_iff_iff]; simp; try omega)
  lay a := by
    cases a <;> simp [stD, PyData.canLay0, PyData.canLayAll0, ok_put, ok_take, ok_slide]
  dpt a := by
    cases a <;> simp [stD, PyData.depth, PyData.depthAll]
end DL

/-! PLA: lays and steps. -/
namespace DL
open PySem L2
def c_bears_all : CS := (cRet (cOpN oAll [(.ex (cCompO 1 (.one 2) tYesC (cOp2 (oIn false) (.nm 2) (.nm 0)) [2]))]))
def m_bears_all : Fn := runDef 3 c_bears_all
def c_may_put : CS := (cRet (cAnd (cOp2 (oIn true) (.nm 2) (.nm 1)) (cCall m_bears_all [(.nm 1), (.ex (cOp2 oIx (.nm 0) (.nm 2)))])))
def m_may_put : Fn := runDef 3 c_may_put
def c_is_let : CS := (cSeq (cSet 4 (cOp2 oIx (.nm 2) (.ex (cNeg (.ex (cK (.int 1)))))))
    (cSeq (cIfS (toT (cOp2 oEq (.ex (cOp2 oIx (.nm 2) (.ex (cK (.int 0))))) (.ex (cK (.str "put"))))) (cRet (cCall m_may_put [(.nm 0), (.nm 1), (.nm 4)])) cNext)
    (cSeq (cIfS (toT (cOp2 oEq (.ex (cOp2 oIx (.nm 2) (.ex (cK (.int 0))))) (.ex (cK (.str "take"))))) (cRet (cAnd (cOp2 (oIn false) (.nm 4) (.nm 1)) (cOr (cOp2 oNe (.nm 3) (.ex (cK (.str "careful")))) (cCall m_bears_all [(.nm 1), (.ex (cOp2 oIx (.nm 0) (.nm 4)))])))) cNext)
    (cRet (cAnd (cOp2 oEq (.nm 3) (.ex (cK (.str "slide")))) (cAnd (cCall m_may_put [(.nm 0), (.nm 1), (.nm 4)]) (cOp2 (oIn false) (.ex (cOp2 oIx (.nm 2) (.ex (cK (.int 1))))) (.ex (cOp2 oIx (.nm 0) (.nm 4))))))))))
def m_is_let : Fn := runDef 5 c_is_let
def c_behind : CS := (cSeq (cIfS (toT (cOp2 oEq (.ex (cOp2 oIx (.nm 1) (.ex (cK (.int 0))))) (.ex (cK (.str "take"))))) (cRet (cOpN oTuple [(.ex (cCompO 0 (.one 2) (toT (cOp2 oNe (.nm 2) (.ex (cOp2 oIx (.nm 1) (.ex (cK (.int 1))))))) (cVar 2) [2]))])) cNext)
    (cSeq (cSet 3 (cOp2 oAdd (.nm 0) (.ex (cTup [(.ex (cOp2 oIx (.nm 1) (.ex (cNeg (.ex (cK (.int 1)))))))]))))
    (cSeq (cIfS (toT (cOp2 oEq (.ex (cOp2 oIx (.nm 1) (.ex (cK (.int 0))))) (.ex (cK (.str "slide"))))) (cSet 3 (cOpN oTuple [(.ex (cCompO 3 (.one 2) (toT (cOp2 oNe (.nm 2) (.ex (cOp2 oIx (.nm 1) (.ex (cK (.int 1))))))) (cVar 2) [2]))])) cNext)
    (cRet (cOpN oTuple [(.ex (cOpN oSortedA [(.nm 3)]))])))))
def m_behind : Fn := runDef 4 c_behind
def c_steps_let : CS := (cSeq (cSet 3 (cRg1 (fun ds => .val (.own false (.list ds))) (.ex (cOpN oLen [(.nm 0)]))))
    (cSeq (cSet 4 (cOp2 oAdd (.ex (cCompO 3 (.one 5) tYesC (cTup [(.ex (cK (.str "put"))), (.ex (cVar 5))]) [5])) (.ex (cCompO 3 (.one 5) tYesC (cTup [(.ex (cK (.str "take"))), (.ex (cVar 5))]) [5]))))
    (cSeq (cForO 3 (.one 5) (cDrop (cMethT "list" mExtend 4 [(.ex (cComp (.one 6) (iSeq (cOp2 oIx (.nm 0) (.nm 5))) tYesC (cTup [(.ex (cK (.str "slide"))), (.ex (cVar 6)), (.ex (cVar 5))]) [6]))])))
    (cRet (cCompO 4 (.one 7) (toT (cCall m_is_let [(.nm 0), (.nm 1), (.nm 7), (.nm 2)])) (cVar 7) [7])))))
def m_steps_let : Fn := runDef 8 c_steps_let
def c__law_lets : CS := (cSeq (cSet 4 (cOp2 oIx (.nm 2) (.ex (cNeg (.ex (cK (.int 1)))))))
    (cSeq (cSet 5 (cOp2 oEq (.ex (cComp (.one 6) (iSeq (cOp2 oIx (.nm 0) (.nm 4))) (toT (cOp2 (oIn true) (.nm 6) (.nm 1))) (cVar 6) [6])) (.ex (cLst []))))
    (cSeq (cIfS (toT (cOp2 oEq (.ex (cOp2 oIx (.nm 2) (.ex (cK (.int 0))))) (.ex (cK (.str "take"))))) (cRet (cAnd (cOp2 (oIn false) (.nm 4) (.nm 1)) (cOr (cVar 5) (cOp2 oNe (.nm 3) (.ex (cK (.str "careful"))))))) cNext)
    (cSeq (cIfS (cOrT (toT (cOp2 (oIn false) (.nm 4) (.nm 1))) (cNotT (toT (cVar 5)))) (cRet (cK (.bool false))) cNext)
    (cRet (cOr (cOp2 oEq (.ex (cOp2 oIx (.nm 2) (.ex (cK (.int 0))))) (.ex (cK (.str "put")))) (cAnd (cOp2 oEq (.nm 3) (.ex (cK (.str "slide")))) (cOp2 (oIn false) (.ex (cOp2 oIx (.nm 2) (.ex (cK (.int 1))))) (.ex (cOp2 oIx (.nm 0) (.nm 4)))))))))))
def m__law_lets : Fn := runDef 7 c__law_lets
def c__law_after : CS := (cSeq (cSet 2 (cNeg (.ex (cK (.int 1)))))
    (cSeq (cIfS (toT (cOp2 oNe (.ex (cOp2 oIx (.nm 1) (.ex (cK (.int 0))))) (.ex (cK (.str "put"))))) (cSet 2 (cOp2 oIx (.nm 1) (.ex (cK (.int 1))))) cNext)
    (cSeq (cSet 3 (cCompO 0 (.one 4) (toT (cOp2 oNe (.nm 4) (.nm 2))) (cVar 4) [4]))
    (cSeq (cIfS (toT (cOp2 oNe (.ex (cOp2 oIx (.nm 1) (.ex (cK (.int 0))))) (.ex (cK (.str "take"))))) (cDrop (cMethT "list" mAppend 3 [(.ex (cOp2 oIx (.nm 1) (.ex (cNeg (.ex (cK (.int 1)))))))])) cNext)
    (cRet (cOpN oTuple [(.ex (cOpN oSortedA [(.nm 3)]))]))))))
def m__law_after : Fn := runDef 5 c__law_after
def c__law_steps : CS := (cSeq (cSet 3 (cComp (.one 4) (iArgs rg1 [(.ex (cOpN oLen [(.nm 0)]))]) tYesC (cTup [(.ex (cK (.str "put"))), (.ex (cVar 4))]) [4]))
    (cSeq (cSet 3 (cOp2 oAdd (.nm 3) (.ex (cComp (.one 4) (iArgs rg1 [(.ex (cOpN oLen [(.nm 0)]))]) tYesC (cTup [(.ex (cK (.str "take"))), (.ex (cVar 4))]) [4]))))
    (cSeq (cFor (.one 4) (iArgs rg1 [(.ex (cOpN oLen [(.nm 0)]))]) (cSet 3 (cOp2 oAdd (.nm 3) (.ex (cComp (.one 5) (iSeq (cOp2 oIx (.nm 0) (.nm 4))) tYesC (cTup [(.ex (cK (.str "slide"))), (.ex (cVar 5)), (.ex (cVar 4))]) [5])))))
    (cRet (cCompO 3 (.one 6) (toT (cCall m__law_lets [(.nm 0), (.nm 1), (.nm 6), (.nm 2)])) (cVar 6) [6])))))
def m__law_steps : Fn := runDef 7 c__law_steps
def c__law_rules : CS := (cRet (cOp2 oIx (.ex (cLst [(.ex (cK (.str "plain"))), (.ex (cK (.str "slide"))), (.ex (cK (.str "careful")))])) (.ex (cCallI m__law_take 0 [(.ex (cK (.int 3)))]))))
def m__law_rules : Fm := runDefI 1 c__law_rules
def c__law_lay : CS := (cRet (cOpN oTuple [(.ex (cComp (.one 2) (iArgs rg1 [(.ex (cOpN oLen [(.nm 1)]))]) (toT (cOp2 oEq (.ex (cCallI m__law_take 0 [(.ex (cK (.int 2)))])) (.ex (cK (.int 1))))) (cVar 2) [2]))]))
def m__law_lay : Fm := runDefI 3 c__law_lay
def c__law_cost : CS := (cRet (cOpN oLen [(.ex (cCompO 0 (.one 1) (toT (cOp2 oNe (.ex (cOp2 oIx (.nm 1) (.ex (cK (.int 0))))) (.ex (cK (.str "take"))))) (cVar 1) [1]))]))
def m__law_cost : Fn := runDef 2 c__law_cost
/-- a lay has all needs of a spot -/
def fullB (net : List (List Nat)) (lay : List Nat) (s : Nat) : Bool := (nds net s).all fun n => lay.contains n
def letB (net : List (List Nat)) (lay : List Nat) (r : Rul) : Stp → Bool
  | .put s => !lay.contains s && fullB net lay s
  | .take s => lay.contains s && (decide (r ≠ .careful) || fullB net lay s)
  | .slide n s => decide (r = .slide) && (!lay.contains s && fullB net lay s) && (nds net s).contains n
def aft (lay : List Nat) : Stp → List Nat
  | .put s => sortN (lay ++ [s])
  | .take s => lay.filter fun x => !decide (x = s)
  | .slide n s => sortN ((lay.filter fun x => !decide (x = n)) ++ [s])
/-- the spots of a step are spots of the net -/
def Stp.inn (many : Nat) : Stp → Prop
  | .put s => s < many
  | .take s => s < many
  | .slide n s => n < many ∧ s < many
structure LayV (many : Nat) (lay : List Nat) : Prop where
  inc : lay.Pairwise (· < ·)
  low : ∀ x ∈ lay, x < many
theorem nds_at {net : List (List Nat)} {s : Nat} (h : s < net.length) : net[s]? = some (nds net s) := by
  unfold nds; rw [List.getElem?_eq_getElem h]; rfl
theorem nds_len {net : List (List Nat)} (h : NetOk net) (s : Nat) : (nds net s).length ≤ s + 1 := nodup_le (lt_nodup (nds_inc h s)) fun x hx => by have := nds_lt h hx; omega
theorem ev_bears (lay needs : List Nat) : m_bears_all [laD lay, laD needs] = .ok (.frz (.bool (needs.all fun n => lay.contains n))) := by
  apply run_of; intro K kk
  have hc := compO_ro (i := 1) (v := 2) (ct := tYesC) (ce := cOp2 (oIn false) (.nm 2) (.nm 0)) (env := [.frz (laD lay), .frz (laD needs), .emp]) (f := nD) (xs := needs) (fun _ => true) (fun n => .bool (lay.contains n))
    (.inr (.inl rfl)) (by simp) (by simp) (by decide) (fun x hx => by simp [tYesC, laD])
  simp only [List.contains_eq_mem] at hc
  simp [c_bears_all, hc]
  exact kk.rt _ _ (by simp)
theorem ev_may_put {net : List (List Nat)} (lay : List Nat) (s : Nat) (hs : s < net.length) : m_may_put [netD net, laD lay, .int s] = .ok (.frz (.bool (!lay.contains s && fullB net lay s))) := by
  apply run_of; intro K kk
  have e : oIn true (.int (s : Int)) (laD lay) = .val (.frz (.bool (!lay.contains s))) := oIn_tuple true s lay
  simp only [List.contains_eq_mem] at e
  simp [c_may_put, e, atI_nat, nds_at hs, ev_bears]
  exact kk.rt _ _ (by simp [fullB])
@[simp] theorem oIn_la (neg : Bool) (n : Nat) (l : List Nat) : oIn neg (.int (n : Int)) (laD l) = .val (.frz (.bool (if neg then !l.contains n else l.contains n))) := oIn_tuple neg n l
theorem ev_is_let {net : List (List Nat)} (lay : List Nat) (st : Stp) (r : Rul) (hs : st.top < net.length) : m_is_let [netD net, laD lay, stD st, ruD r] = .ok (.frz (.bool (letB net lay r st))) := by
  apply run_of; intro K kk
  cases st with
  | put s => simp [c_is_let, stD, ev_may_put lay s hs]; exact kk.rt _ _ (by simp [letB])
  | take s =>
    have hs : s < net.length := hs
    simp [c_is_let, stD, atI_nat, nds_at hs, ev_bears]
    exact kk.rt _ _ (by simp [letB, fullB])
  | slide n s =>
    have hs : s < net.length := hs
    simp [c_is_let, stD, atI_nat, nds_at hs, ev_may_put lay s hs]
    exact kk.rt _ _ (by simp [letB, Bool.and_assoc])
@[simp] theorem aft_take (lay : List Nat) (s : Nat) : aft lay (.take s) = lay.filter fun x => !decide (x = s) := rfl
/-- the need of a slide is not its spot -/
def Stp.fit : Stp → Prop
  | .slide n s => n ≠ s
  | _ => True
theorem oTup_la (l : List Nat) : PyData.tuple (l.map nD) = laD l := rfl
theorem ev_behind (lay : List Nat) (st : Stp) (hf : st.fit) (hl : lay.length < 1000) : m_behind [laD lay, stD st] = .ok (.frz (laD (aft lay st))) := by
  apply run_of; intro K kk
  have e1 : ∀ s : Nat, lay.map nD ++ [PyData.int (s : Int)] = (lay ++ [s]).map nD := fun s => by simp
  cases st with
  | put s =>
    simp [c_behind, stD, lim, show lay.length + 1 ≤ 1000000 by omega, e1]
    exact kk.rt _ _ rfl
  | take s =>
    have hc := compO_ro (i := 0) (v := 2) (ct := toT (cOp2 oNe (.nm 2) (.ex (cOp2 oIx (.nm 1) (.ex (cK (.int 1))))))) (ce := cVar 2) (env := [.frz (laD lay), .frz (stD (.take s)), .emp, .emp]) (f := nD) (xs := lay) (fun x => !decide (x = s)) nD
      (.inr (.inl rfl)) (by simp) (by simp) (by decide) (fun x hx => by simp [stD, Int.ofNat_inj])
    simp only [stD] at hc
    simp [c_behind, stD, hc]
    exact kk.rt _ _ rfl
  | slide n s =>
    have hf : n ≠ s := hf
    have hc := compO_ro (i := 3) (v := 2) (ct := toT (cOp2 oNe (.nm 2) (.ex (cOp2 oIx (.nm 1) (.ex (cK (.int 1))))))) (ce := cVar 2) (env := [.frz (laD lay), .frz (stD (.slide n s)), .emp, .frz (laD (lay ++ [s]))]) (f := nD) (xs := lay ++ [s]) (fun x => !decide (x = n)) nD
      (.inr (.inl rfl)) (by simp) (by simp) (by decide) (fun x hx => by simp [stD, Int.ofNat_inj])
    have e2 : (lay ++ [s]).filter (fun x => !decide (x = n)) = (lay.filter fun x => !decide (x = n)) ++ [s] := by
      rw [List.filter_append]; simp [Ne.symm hf]
    rw [e2] at hc
    simp only [stD] at hc
    simp [c_behind, stD, lim, show lay.length + 1 ≤ 1000000 by omega, oTup_la]
    rw [hc]
    simp [e1]
    have e3 := oSorted_la ((lay.filter fun x => !decide (x = n)) ++ [s])
    simp only [laD, List.map_append, List.map_cons, List.map_nil, nD_eq] at e3
    simp [e3]
    exact kk.rt _ _ rfl
theorem ev_lafter (lay : List Nat) (st : Stp) (hp : lay.Pairwise (· ≤ ·)) (hl : lay.length < 1000) : m__law_after [laD lay, stD st] = .ok (.frz (laD (aft lay st))) := by
  apply run_of; intro K kk
  have hlen : ∀ p : Nat → Bool, (lay.filter p).length < 1000000 := fun p => Nat.lt_of_le_of_lt (List.length_filter_le _ _) (by omega)
  cases st with
  | put s =>
    have hc := compO_ro (i := 0) (v := 4) (ct := toT (cOp2 oNe (.nm 4) (.nm 2))) (ce := cVar 4) (env := [.frz (laD lay), .frz (stD (.put s)), .frz (.int (-1)), .emp, .emp]) (f := nD) (xs := lay) (fun x => true) nD
      (.inr (.inl rfl)) (by simp) (by simp) (by decide) (fun x hx => by simp)
    simp only [stD] at hc
    simp [c__law_after, stD, hc, lim, hlen, show lay.length < 1000000 by omega]
    exact kk.rt _ _ (by simp; rfl)
  | take s =>
    have hc := compO_ro (i := 0) (v := 4) (ct := toT (cOp2 oNe (.nm 4) (.nm 2))) (ce := cVar 4) (env := [.frz (laD lay), .frz (stD (.take s)), .frz (.int s), .emp, .emp]) (f := nD) (xs := lay) (fun x => !decide (x = s)) nD
      (.inr (.inl rfl)) (by simp) (by simp) (by decide) (fun x hx => by simp [Int.ofNat_inj])
    simp only [stD] at hc
    simp [c__law_after, stD, hc, lim, hlen]
    exact kk.rt _ _ (by simp; rw [sortN_of_sorted (hp.filter _)]; rfl)
  | slide n s =>
    have hc := compO_ro (i := 0) (v := 4) (ct := toT (cOp2 oNe (.nm 4) (.nm 2))) (ce := cVar 4) (env := [.frz (laD lay), .frz (stD (.slide n s)), .frz (.int n), .emp, .emp]) (f := nD) (xs := lay) (fun x => !decide (x = n)) nD
      (.inr (.inl rfl)) (by simp) (by simp) (by decide) (fun x hx => by simp [Int.ofNat_inj])
    simp only [stD] at hc
    simp [c__law_after, stD, hc, lim, hlen]
    exact kk.rt _ _ rfl
theorem full_comp {net : List (List Nat)} (lay : List Nat) (t : Nat) (hs : t < net.length) (d r : PyData) : ∃ ds, cComp (.one 6) (iSeq (cOp2 oIx (.nm 0) (.nm 4))) (toT (cOp2 (oIn true) (.nm 6) (.nm 1))) (cVar 6) [6] [.frz (netD net), .frz (laD lay), .frz d, .frz r, .frz (.int (t : Nat)), .emp, .emp] = .ok (.own false (.list ds)) [.frz (netD net), .frz (laD lay), .frz d, .frz r, .frz (.int (t : Nat)), .emp, .emp] ∧ oEq (.list ds) (.list []) = .val (.frz (.bool (fullB net lay t))) := by
  have hc := comp1 (v := 6) (ci := iSeq (cOp2 oIx (.nm 0) (.nm 4))) (ct := toT (cOp2 (oIn true) (.nm 6) (.nm 1))) (ce := cVar 6) (env := [.frz (netD net), .frz (laD lay), .frz d, .frz r, .frz (.int t), .emp, .emp]) (f := nD) (xs := nds net t) (fun x => !lay.contains x) nD
    (by simp [atI_nat, nds_at hs]) (by simp) (by simp) (fun x hx => by simp)
  refine ⟨_, hc, ?_⟩
  rw [oEq_listN]
  have e : decide ((nds net t).filter (fun x => !lay.contains x) = []) = fullB net lay t := by
    unfold fullB; rw [Bool.eq_iff_iff]; simp
  rw [e]
theorem ev_llets {net : List (List Nat)} (lay : List Nat) (st : Stp) (r : Rul) (hs : st.top < net.length) : m__law_lets [netD net, laD lay, stD st, ruD r] = .ok (.frz (.bool (letB net lay r st))) := by
  apply run_of; intro K kk
  obtain ⟨ds, hc, he⟩ := full_comp lay st.top hs (stD st) (ruD r)
  cases st with
  | put s =>
    simp only [stD, Stp.top] at hc he
    simp [c__law_lets, stD, hc, he]
    cases hf : fullB net lay s <;> by_cases hm : s ∈ lay <;> simp [hm] <;> exact kk.rt _ _ (by simp [letB, hf, hm])
  | take s =>
    simp only [stD, Stp.top] at hc he
    simp [c__law_lets, stD, hc, he]
    exact kk.rt _ _ (by simp [letB, Bool.or_comm])
  | slide n s =>
    simp only [stD, Stp.top] at hc he
    simp [c__law_lets, stD, hc, he, atI_nat, nds_at (show s < net.length from hs)]
    cases hf : fullB net lay s <;> by_cases hm : s ∈ lay <;> simp [hm] <;> exact kk.rt _ _ (by simp [letB, hf, hm])
theorem ev_lletsC {net : List (List Nat)} (lay : List Nat) (st : Stp) (hs : st.top < net.length) : m__law_lets [netD net, laD lay, stD st, .str (Str.ofString "careful")] = .ok (.frz (.bool (letB net lay .careful st))) := ev_llets lay st .careful hs
def allSteps (net : List (List Nat)) : List Stp := (List.range net.length).map .put ++ (List.range net.length).map .take ++ (List.range net.length).flatMap fun s => (nds net s).map fun n => .slide n s
theorem mem_allSteps {net : List (List Nat)} {st : Stp} (h : st ∈ allSteps net) : st.top < net.length := by
  unfold allSteps at h
  simp at h
  rcases h with ⟨s, hs, rfl⟩ | ⟨s, hs, rfl⟩ | ⟨s, hs, n, hn, rfl⟩ <;> exact hs
theorem allSteps_inn {net : List (List Nat)} (hk : NetOk net) {st : Stp} (h : st ∈ allSteps net) : st.inn net.length ∧ st.fit := by
  unfold allSteps at h
  simp at h
  rcases h with ⟨s, hs, rfl⟩ | ⟨s, hs, rfl⟩ | ⟨s, hs, n, hn, rfl⟩
  · exact ⟨hs, trivial⟩
  · exact ⟨hs, trivial⟩
  · have := nds_lt hk hn; exact ⟨⟨by omega, hs⟩, by show n ≠ s; omega⟩
theorem ev_steps_let {net : List (List Nat)} (hv : NetV net) (lay : List Nat) (r : Rul) : m_steps_let [netD net, laD lay, ruD r] = .ok (.own false (.list (((allSteps net).filter (letB net lay r)).map stD))) := by
  have h10 := hv.ten
  apply run_of; intro K kk
  have hr : rgL 0 (net.length : Int) = (List.range net.length).map nD := by unfold rgL; rw [show ((net.length : Int) - 0).toNat = net.length by omega, rgD0]
  have hn : (net.length : Int) ≤ 1000000 := by omega
  have hsp : ∀ w : Str, ∀ j4 : Cell, cCompO 3 (.one 5) tYesC (cTup [.ex (cK (.str w)), .ex (cVar 5)]) [5] [.frz (netD net), .frz (laD lay), .frz (ruD r), .own false (.list ((List.range net.length).map nD)), j4, .emp, .emp, .emp] = .ok (.own false (.list ((List.range net.length).map fun s => .tuple [.str w, .int (s : Nat)]))) [.frz (netD net), .frz (laD lay), .frz (ruD r), .own false (.list ((List.range net.length).map nD)), j4, .emp, .emp, .emp] := fun w j4 => by
    have := compO_own (b := false) (i := 3) (v := 5) (ct := tYesC) (ce := cTup [.ex (cK (.str w)), .ex (cVar 5)]) (env := [.frz (netD net), .frz (laD lay), .frz (ruD r), .own false (.list ((List.range net.length).map nD)), j4, .emp, .emp, .emp]) (f := nD) (xs := List.range net.length) (fun _ => true) (fun s => .tuple [.str w, .int (s : Nat)])
      (by simp) (by simp) (by simp) (by decide) (fun x hx => by simp [tYesC])
    simpa using this
  simp [c_steps_let, rgL_nat, hn, hsp, lim, show net.length + net.length ≤ 1000000 by omega]
  have e0 : ∀ m, m ≤ net.length → (((List.range net.length).map Stp.put ++ (List.range net.length).map Stp.take ++ (List.range m).flatMap fun s => (nds net s).map fun n => Stp.slide n s)).length ≤ 20 + 10 * m := fun m hm => by
    induction m with
    | zero => simp; omega
    | succ m ih =>
      have := ih (by omega)
      have q := nds_len hv.ok m
      have q0 : m < 10 := by omega
      simp only [List.range_succ, List.flatMap_append, List.length_append, List.flatMap_cons, List.flatMap_nil, List.append_nil, List.length_map] at this ⊢
      omega
  refine sat_forOT (fun rest e => ∃ (m : Nat) (j5 j6 : Cell), isLck j5 = false ∧ j6.mine = false ∧ e = [.frz (netD net), .frz (laD lay), .frz (ruD r), .lck (.list ((List.range net.length).map nD)), .own false (.list (((List.range net.length).map Stp.put ++ (List.range net.length).map Stp.take ++ (List.range m).flatMap fun s => (nds net s).map fun n => Stp.slide n s).map stD)), j5, j6, .emp] ∧ m ≤ net.length ∧ rest = List.range' m (net.length - m))
    ⟨0, .emp, .emp, rfl, rfl, by simp [stD, Function.comp_def], by omega, by simp [List.range_eq_range']⟩ ?_ ?_
  · rintro x rest e ⟨m, j5, j6, l5, l6, rfl, hm, hr⟩ K' L
    obtain ⟨rfl, hk, rfl⟩ := range'_cons hr
    have hc := comp1 (v := 6) (ci := iSeq (cOp2 oIx (.nm 0) (.nm 5))) (ct := tYesC) (ce := cTup [.ex (cK (.str (Str.ofString "slide"))), .ex (cVar 6), .ex (cVar 5)])
      (env := [.frz (netD net), .frz (laD lay), .frz (ruD r), .lck (.list ((List.range net.length).map nD)), .own false (.list (((List.range net.length).map Stp.put ++ (List.range net.length).map Stp.take ++ (List.range x).flatMap fun s => (nds net s).map fun n => Stp.slide n s).map stD)), .frz (.int x), j6, .emp]) (f := nD) (xs := nds net x) (fun _ => true) (fun n => stD (.slide n x))
      (by simp [atI_nat, nds_at (show x < net.length by omega)]) (by simp) (by simp [l6]) (fun y hy => by simp [tYesC, stD])
    have q1 := e0 x (by omega)
    have q2 := nds_len hv.ok x
    have e1 : ∀ a : List Stp, a.map stD ++ (nds net x).map (fun n => stD (.slide n x)) = (a ++ (nds net x).map fun n => Stp.slide n x).map stD := fun a => by simp [Function.comp_def]
    rw [filterT] at hc
    generalize hacc : (List.range net.length).map Stp.put ++ (List.range net.length).map Stp.take ++ (List.range x).flatMap (fun s => (nds net s).map fun n => Stp.slide n s) = acc at *
    simp [l5, hc, lim, show acc.length + (nds net x).length ≤ 1000000 by omega]
    refine L.nx _ ⟨x + 1, .frz (.int x), j6, rfl, l6, ?_, by omega, by congr 1⟩
    rw [List.range_succ, List.flatMap_append, ← List.append_assoc, hacc]
    simp [Function.comp_def]
  · rintro e ⟨m, j5, j6, l5, l6, rfl, hm, hr⟩
    have : m = net.length := by
      have := congrArg List.length hr; simp at this; omega
    subst this
    have hc := compO_own (b := false) (i := 4) (v := 7) (ct := toT (cCall m_is_let [.nm 0, .nm 1, .nm 7, .nm 2])) (ce := cVar 7)
      (env := [.frz (netD net), .frz (laD lay), .frz (ruD r), .own false (.list ((List.range net.length).map nD)), .own false (.list ((allSteps net).map stD)), j5, j6, .emp]) (f := stD) (xs := allSteps net) (letB net lay r) stD
      (by simp) (by simp) (by simp) (by decide) (fun y hy => by simp [ev_is_let lay y r (mem_allSteps hy)])
    rw [show (List.range net.length).map Stp.put ++ (List.range net.length).map Stp.take ++ ((List.range net.length).flatMap fun s => (nds net s).map fun n => Stp.slide n s) = allSteps net from rfl]
    simp [hc]
    exact kk.rt _ _ rfl
theorem allSteps_len {net : List (List Nat)} (hv : NetV net) : (allSteps net).length ≤ 120 := by
  have h10 := hv.ten
  have : ∀ m, m ≤ net.length → ((List.range m).flatMap fun s => (nds net s).map fun n => Stp.slide n s).length ≤ 10 * m := fun m hm => by
    induction m with
    | zero => simp
    | succ m ih =>
      have := ih (by omega)
      have q := nds_len hv.ok m
      simp only [List.range_succ, List.flatMap_append, List.length_append, List.flatMap_cons, List.flatMap_nil, List.append_nil, List.length_map] at this ⊢
      omega
  have := this _ (Nat.le_refl _)
  unfold allSteps
  simp only [List.length_append, List.length_map, List.length_range] at this ⊢
  omega
theorem ev_lsteps {net : List (List Nat)} (hv : NetV net) (lay : List Nat) (r : Rul) : m__law_steps [netD net, laD lay, ruD r] = .ok (.own false (.list (((allSteps net).filter (letB net lay r)).map stD))) := by
  have h10 := hv.ten
  apply run_of; intro K kk
  have hn : (net.length : Int) ≤ 1000000 := by omega
  have hsp : ∀ w : Str, ∀ j3 : Cell, cComp (.one 4) (iArgs rg1 [.ex (cOpN oLen [.nm 0])]) tYesC (cTup [.ex (cK (.str w)), .ex (cVar 4)]) [4] [.frz (netD net), .frz (laD lay), .frz (ruD r), j3, .emp, .emp, .emp] = .ok (.own false (.list ((List.range net.length).map fun s => .tuple [.str w, .int (s : Nat)]))) [.frz (netD net), .frz (laD lay), .frz (ruD r), j3, .emp, .emp, .emp] := fun w j3 => by
    have := comp1 (v := 4) (ci := iArgs rg1 [.ex (cOpN oLen [.nm 0])]) (ct := tYesC) (ce := cTup [.ex (cK (.str w)), .ex (cVar 4)]) (env := [.frz (netD net), .frz (laD lay), .frz (ruD r), j3, .emp, .emp, .emp]) (f := nD) (xs := List.range net.length) (fun _ => true) (fun s => .tuple [.str w, .int (s : Nat)])
      (by simp [hn, rgD0]) (by simp) (by simp) (fun x hx => by simp [tYesC])
    simpa using this
  simp [c__law_steps, rgD0, hn, hsp, lim, show net.length + net.length ≤ 1000000 by omega]
  refine sat_forT (fun rest e => ∃ (m : Nat) (j4 j5 : Cell), isLck j4 = false ∧ j5.mine = false ∧ e = [.frz (netD net), .frz (laD lay), .frz (ruD r), .own false (.list (((List.range net.length).map Stp.put ++ (List.range net.length).map Stp.take ++ (List.range m).flatMap fun s => (nds net s).map fun n => Stp.slide n s).map stD)), j4, j5, .emp] ∧ m ≤ net.length ∧ rest = List.range' m (net.length - m))
    ⟨0, .emp, .emp, rfl, rfl, by simp [stD, Function.comp_def], by omega, by simp [List.range_eq_range']⟩ ?_ ?_
  · rintro x rest e ⟨m, j4, j5, l4, l5, rfl, hm, hr⟩ K' L
    obtain ⟨rfl, hk, rfl⟩ := range'_cons hr
    have hc := comp1 (v := 5) (ci := iSeq (cOp2 oIx (.nm 0) (.nm 4))) (ct := tYesC) (ce := cTup [.ex (cK (.str (Str.ofString "slide"))), .ex (cVar 5), .ex (cVar 4)])
      (env := [.frz (netD net), .frz (laD lay), .frz (ruD r), .own false (.list (((List.range net.length).map Stp.put ++ (List.range net.length).map Stp.take ++ (List.range x).flatMap fun s => (nds net s).map fun n => Stp.slide n s).map stD)), .frz (.int x), j5, .emp]) (f := nD) (xs := nds net x) (fun _ => true) (fun n => stD (.slide n x))
      (by simp [atI_nat, nds_at (show x < net.length by omega)]) (by simp) (by simp [l5]) (fun y hy => by simp [tYesC, stD])
    have q1 : ((List.range net.length).map Stp.put ++ (List.range net.length).map Stp.take ++ (List.range x).flatMap fun s => (nds net s).map fun n => Stp.slide n s).length ≤ 120 := by
      have h2 := allSteps_len hv
      refine Nat.le_trans ?_ h2
      unfold allSteps
      have e3 : List.range net.length = List.range x ++ (List.range (net.length - x)).map (x + ·) := by
        rw [← List.range_add]; congr 1; omega
      have e4 : ((List.range net.length).flatMap fun s => (nds net s).map fun n => Stp.slide n s).length = ((List.range x).flatMap fun s => (nds net s).map fun n => Stp.slide n s).length + (((List.range (net.length - x)).map (x + ·)).flatMap fun s => (nds net s).map fun n => Stp.slide n s).length := by
        rw [e3, List.flatMap_append, List.length_append]
      simp only [List.length_append]
      rw [e4]
      omega
    have q2 := nds_len hv.ok x
    rw [filterT] at hc
    generalize hacc : (List.range net.length).map Stp.put ++ (List.range net.length).map Stp.take ++ (List.range x).flatMap (fun s => (nds net s).map fun n => Stp.slide n s) = acc at *
    simp [l4, hc, lim, show acc.length + (nds net x).length ≤ 1000000 by omega]
    refine L.nx _ ⟨x + 1, .frz (.int x), j5, rfl, l5, ?_, by omega, by congr 1⟩
    rw [List.range_succ, List.flatMap_append, ← List.append_assoc, hacc]
    simp [Function.comp_def]
  · rintro e ⟨m, j4, j5, l4, l5, rfl, hm, hr⟩
    have : m = net.length := by
      have := congrArg List.length hr; simp at this; omega
    subst this
    have hc := compO_own (b := false) (i := 3) (v := 6) (ct := toT (cCall m__law_lets [.nm 0, .nm 1, .nm 6, .nm 2])) (ce := cVar 6)
      (env := [.frz (netD net), .frz (laD lay), .frz (ruD r), .own false (.list ((allSteps net).map stD)), j4, j5, .emp]) (f := stD) (xs := allSteps net) (letB net lay r) stD
      (by simp) (by simp) (by simp) (by decide) (fun y hy => by simp [ev_llets lay y r (mem_allSteps hy)])
    rw [show (List.range net.length).map Stp.put ++ (List.range net.length).map Stp.take ++ ((List.range net.length).flatMap fun s => (nds net s).map fun n => Stp.slide n s) = allSteps net from rfl]
    simp [hc]
    exact kk.rt _ _ rfl
def Stp.paid : Stp → Bool
  | .take _ => false
  | _ => true
/-- puts and slides -/
def costL (p : List Stp) : Nat := p.countP Stp.paid
theorem ev_lcost (play : List Stp) : m__law_cost [.list (play.map stD)] = .ok (.frz (.int (costL play))) := by
  apply run_of; intro K kk
  have hc := compO_ro (i := 0) (v := 1) (ct := toT (cOp2 oNe (.ex (cOp2 oIx (.nm 1) (.ex (cK (.int 0))))) (.ex (cK (.str (Str.ofString "take")))))) (ce := cVar 1)
    (env := [.frz (.list (play.map stD)), .emp]) (f := stD) (xs := play) Stp.paid stD (.inl rfl) (by simp) (by simp) (by decide) (fun y hy => by cases y <;> simp [stD, Stp.paid])
  simp [c__law_cost, hc]
  exact kk.rt _ _ (by simp [costL, List.countP_eq_length_filter])
end DL

/-! PPL: plays. -/
namespace DL
open PySem L2
def c_need_rules : CS := (cIfS (cOrT (cNotT (toT (cIsi "str" (.nm 0)))) (toT (cOp2 (oIn true) (.nm 0) (.ex (cTup [(.ex (cK (.str "plain"))), (.ex (cK (.str "slide"))), (.ex (cK (.str "careful")))]))))) (cRaise "NoRules") cNext)
def m_need_rules : Fn := runDef 1 c_need_rules
def c_is_lay : CS := (cRet (cAnd (cIsi "tuple" (.nm 1)) (cCall m_is_rising [(.nm 1), (.ex (cOpN oLen [(.nm 0)]))])))
def m_is_lay : Fn := runDef 2 c_is_lay
def c_is_step : CS := (cSeq (cIfS (cOrT (cNotT (toT (cIsi "tuple" (.nm 1)))) (cOrT (toT (cOp2 oLt (.ex (cOpN oLen [(.nm 1)])) (.ex (cK (.int 2))))) (cNotT (toT (cIsi "str" (.ex (cOp2 oIx (.nm 1) (.ex (cK (.int 0)))))))))) (cRet (cK (.bool false))) cNext)
    (cSeq (cIfS (toT (cOp2 oNe (.ex (cKGet [(Str.ofString "put", PyData.int 2), (Str.ofString "take", PyData.int 2), (Str.ofString "slide", PyData.int 3)] (.ex (cOp2 oIx (.nm 1) (.ex (cK (.int 0))))))) (.ex (cOpN oLen [(.nm 1)])))) (cRet (cK (.bool false))) cNext)
    (cRet (cOpN oAll [(.ex (cComp (.one 2) (iSeq (cSl (.nm 1) (.some (.ex (cK (.int 1)))) .none)) tYesC (cAnd (cCall m_is_whole [(.nm 2)]) (cChain oLe oLt (.ex (cK (.int 0))) (.nm 2) (.ex (cOpN oLen [(.nm 0)])))) [2]))]))))
def m_is_step : Fn := runDef 3 c_is_step
def c_first_wrong : CS := (cSeq (cDrop (cCall m_need_net [(.nm 0)]))
    (cSeq (cDrop (cCall m_need_rules [(.nm 2)]))
    (cSeq (cIfS (cNotT (toT (cIsi "list" (.nm 1)))) (cRaise "NoPlay") cNext)
    (cSeq (cSet 3 (cTup []))
    (cSeq (cFor (.many [4, 5]) (iEnumC (cVar 1)) (cSeq (cIfS (cNotT (toT (cCall m_is_step [(.nm 0), (.nm 5)]))) (cRet (cTup [(.ex (cK (.str "form"))), (.ex (cVar 4))])) cNext)
    (cSeq (cIfS (cNotT (toT (cCall m_is_let [(.nm 0), (.nm 3), (.nm 5), (.nm 2)]))) (cRet (cTup [(.ex (cK (.str "rule"))), (.ex (cVar 4))])) cNext)
    (cSet 3 (cCall m_behind [(.nm 3), (.nm 5)])))))
    (cRet (cK .none)))))))
def m_first_wrong : Fn := runDef 6 c_first_wrong
def c_lays_of : CS := (cSeq (cIfS (toT (cOp2 oNotN (.ex (cCall m_first_wrong [(.nm 0), (.nm 1), (.nm 2)])) (.ex (cK .none)))) (cRaise "NoPlay") cNext)
    (cSeq (cSet 3 (cLst [(.ex (cTup []))]))
    (cSeq (cForO 1 (.one 4) (cDrop (cMethT "list" mAppend 3 [(.ex (cCall m_behind [(.ex (cOp2 oIx (.nm 3) (.ex (cNeg (.ex (cK (.int 1))))))), (.nm 4)]))])))
    (cRet (cMove 3)))))
def m_lays_of : Fn := runDef 5 c_lays_of
def c_stones_of : CS := (cRet (cOpN oMax [(.ex (cComp (.one 3) (iSeq (cCall m_lays_of [(.nm 0), (.nm 1), (.nm 2)])) tYesC (cOpN oLen [(.nm 3)]) [3]))]))
def m_stones_of : Fn := runDef 4 c_stones_of
def c_costs : CS := (cRet (cOpN oInt [(.ex (cOp2 oNe (.ex (cOp2 oIx (.nm 0) (.ex (cK (.int 0))))) (.ex (cK (.str "take")))))]))
def m_costs : Fn := runDef 1 c_costs
def c_cost_of : CS := (cSeq (cDrop (cCall m_lays_of [(.nm 0), (.nm 1), (.nm 2)]))
    (cRet (cOpN oSum [(.ex (cCompO 1 (.one 3) tYesC (cCall m_costs [(.nm 3)]) [3]))])))
def m_cost_of : Fn := runDef 4 c_cost_of
def c__law_play : CS := (cSeq (cSet 5 (cTup []))
    (cSeq (cSet 6 (cLst []))
    (cSeq (cFor (.one 7) (iArgs rg1 [(.ex (cCallI m__law_take 0 [(.ex (cOp2 oAdd (.nm 3) (.ex (cK (.int 1)))))]))]) (cSeq (cSet 8 (cCall m__law_steps [(.nm 1), (.nm 5), (.nm 2)]))
    (cSeq (cSet 8 (cCompO 8 (.one 9) (toT (cOp2 oLe (.ex (cOpN oLen [(.ex (cCall m__law_after [(.nm 5), (.nm 9)]))])) (.nm 4))) (cVar 9) [9]))
    (cSeq (cIfS (toT (cOp2 oEq (.nm 8) (.ex (cLst [])))) (cRet (cMove 6)) cNext)
    (cSeq (cSet 10 (cOp2 oIx (.nm 8) (.ex (cCallI m__law_take 0 [(.ex (cOpN oLen [(.nm 8)]))]))))
    (cSeq (cIfS (cAndT (toT (cOp2 oEq (.ex (cOp2 oIx (.nm 10) (.ex (cK (.int 0))))) (.ex (cK (.str "take"))))) (toT (cOp2 oGt (.ex (cCallI m__law_take 0 [(.ex (cK (.int 3)))])) (.ex (cK (.int 0)))))) (cSet 10 (cOp2 oIx (.nm 8) (.ex (cK (.int 0))))) cNext)
    (cSeq (cDrop (cMethT "list" mAppend 6 [(.ex (cVar 10))]))
    (cSet 5 (cCall m__law_after [(.nm 5), (.nm 10)])))))))))
    (cRet (cMove 6)))))
def m__law_play : Fm := runDefI 11 c__law_play
def c__law_lays : CS := (cSeq (cSet 1 (cLst [(.ex (cTup []))]))
    (cSeq (cForO 0 (.one 2) (cDrop (cMethT "list" mAppend 1 [(.ex (cCall m__law_after [(.ex (cOp2 oIx (.nm 1) (.ex (cNeg (.ex (cK (.int 1))))))), (.nm 2)]))])))
    (cRet (cMove 1))))
def m__law_lays : Fn := runDef 3 c__law_lays
theorem LayV.nil (n : Nat) : LayV n [] := ⟨.nil, by simp⟩
theorem LayV.aft {net : List (List Nat)} {lay : List Nat} {r : Rul} {st : Stp} (hk : NetOk net) (h : LayV net.length lay) (hs : st ∈ allSteps net) (hl : letB net lay r st = true) : LayV net.length (aft lay st) := by
  have hi := allSteps_inn hk hs
  cases st with
  | put s =>
    have hm : s ∉ lay := by intro z; simp [letB, z] at hl
    have hn : (lay ++ [s]).Nodup := by
      rw [List.nodup_append]; exact ⟨lt_nodup h.inc, by simp, fun a ha b hb => by simp at hb; subst hb; intro e; exact hm (e ▸ ha)⟩
    refine ⟨?_, fun x hx => ?_⟩
    · have := sortN_sorted (lay ++ [s])
      have hn2 := (sortN_perm (lay ++ [s])).nodup_iff.mpr hn
      exact (List.Pairwise.and this hn2).imp fun q => Nat.lt_of_le_of_ne q.1 q.2
    · have := (sortN_perm (lay ++ [s])).mem_iff.mp hx
      rw [List.mem_append] at this
      rcases this with q | q
      · exact h.low x q
      · simp at q; subst q; exact hi.1
  | take s => exact ⟨h.inc.filter _, fun x hx => h.low x ((List.mem_filter.mp hx).1)⟩
  | slide n s =>
    have hm : s ∉ lay := by intro z; simp [letB, z] at hl
    have hn : ((lay.filter fun x => !decide (x = n)) ++ [s]).Nodup := by
      rw [List.nodup_append]; exact ⟨(lt_nodup h.inc).filter _, by simp, fun a ha b hb => by simp at hb; subst hb; intro e; exact hm (e ▸ (List.mem_filter.mp ha).1)⟩
    refine ⟨?_, fun x hx => ?_⟩
    · have := sortN_sorted ((lay.filter fun x => !decide (x = n)) ++ [s])
      have hn2 := (sortN_perm ((lay.filter fun x => !decide (x = n)) ++ [s])).nodup_iff.mpr hn
      exact (List.Pairwise.and this hn2).imp fun q => Nat.lt_of_le_of_ne q.1 q.2
    · have := (sortN_perm ((lay.filter fun x => !decide (x = n)) ++ [s])).mem_iff.mp hx
      rw [List.mem_append] at this
      rcases this with q | q
      · exact h.low x ((List.mem_filter.mp q).1)
      · simp at q; subst q; exact hi.1.2
theorem LayV.len {n : Nat} {lay : List Nat} (h : LayV n lay) : lay.length ≤ n := by
  have := List.Nodup.length_le_of_subset (lt_nodup h.inc) (l₂ := List.range n) fun x hx => by have := h.low x hx; simpa using this
  simpa using this
/-- a play goes on from a lay, step by step -/
def goes (net : List (List Nat)) (r : Rul) : List Nat → List Stp → Prop
  | _, [] => True
  | lay, st :: p => st ∈ allSteps net ∧ letB net lay r st = true ∧ goes net r (aft lay st) p
def laysB (lay : List Nat) : List Stp → List (List Nat)
  | [] => []
  | st :: p => aft lay st :: laysB (aft lay st) p
def lastB (lay : List Nat) : List Stp → List Nat
  | [] => lay
  | st :: p => lastB (aft lay st) p
theorem laysB_snoc (st : Stp) : ∀ (lay : List Nat) (p : List Stp), laysB lay (p ++ [st]) = laysB lay p ++ [aft (lastB lay p) st]
  | _, [] => rfl
  | lay, x :: p => by show aft lay x :: laysB (aft lay x) (p ++ [st]) = _; rw [laysB_snoc st (aft lay x) p]; rfl
theorem lastB_snoc (st : Stp) : ∀ (lay : List Nat) (p : List Stp), lastB lay (p ++ [st]) = aft (lastB lay p) st
  | _, [] => rfl
  | lay, x :: p => lastB_snoc st (aft lay x) p
theorem goes_snoc {net : List (List Nat)} {r : Rul} (st : Stp) : ∀ (lay : List Nat) (p : List Stp), goes net r lay (p ++ [st]) ↔ goes net r lay p ∧ st ∈ allSteps net ∧ letB net (lastB lay p) r st = true
  | _, [] => by simp [goes, lastB]
  | lay, x :: p => by
    show (_ ∧ _ ∧ goes net r (aft lay x) (p ++ [st])) ↔ _
    rw [goes_snoc st (aft lay x) p]
    simp only [goes, lastB, and_assoc]
theorem goes_lay {net : List (List Nat)} {r : Rul} (hk : NetOk net) : ∀ (p : List Stp) (lay : List Nat), LayV net.length lay → goes net r lay p → LayV net.length (lastB lay p)
  | [], _, h, _ => h
  | st :: p, lay, h, g => goes_lay hk p (aft lay st) (h.aft hk g.1 g.2.1) g.2.2
theorem ev_need_rules (r : Rul) : m_need_rules [ruD r] = .ok (.frz .none) := by
  have h : oIn true (ruD r) (.tuple [.str (Str.ofString "plain"), .str (Str.ofString "slide"), .str (Str.ofString "careful")]) = .val (.frz (.bool false)) := by
    unfold oIn ruD
    have e : hasD (.str (ruS r)) [.str (Str.ofString "plain"), .str (Str.ofString "slide"), .str (Str.ofString "careful")] = true := by
      cases r <;> simp [hasD, PyData.eqv, ruS, ne_plain_slide, ne_plain_careful]
    simp [flatD, e]
  apply run_of; intro K kk
  unfold ruD at h
  simp [c_need_rules, ruD, h]
  exact kk.nx rfl _
@[simp] theorem ev_kget (kvs : List (Str × PyData)) (o : Opd) (env : Cs) : cKGet kvs o env = (o.ev env).bind fun l env1 => match l.get env1 with
  | some (.str x) => .ok (.frz ((lookS kvs x).getD .none)) env1
  | _ => .no := rfl
theorem ne_of_beq {a b : Str} (h : (a == b) = false) : ¬ a = b := fun e => by rw [e, beq_self_eq_true] at h; cases h
abbrev wordsK : List (Str × PyData) := [(Str.ofString "put", PyData.int 2), (Str.ofString "take", PyData.int 2), (Str.ofString "slide", PyData.int 3)]
theorem look_put : lookS wordsK (Str.ofString "put") = some (.int 2) := by unfold wordsK lookS; rw [if_pos rfl]
theorem look_take : lookS wordsK (Str.ofString "take") = some (.int 2) := by unfold wordsK lookS lookS; rw [if_neg (ne_of_beq ne_put_take), if_pos rfl]
theorem look_slide : lookS wordsK (Str.ofString "slide") = some (.int 3) := by unfold wordsK lookS lookS lookS; rw [if_neg (ne_of_beq ne_put_slide), if_neg (ne_of_beq ne_take_slide), if_pos rfl]
theorem ev_is_step {net : List (List Nat)} {st : Stp} (h : st.inn net.length) : m_is_step [netD net, stD st] = .ok (.frz (.bool true)) := by
  apply run_of; intro K kk
  have one : ∀ (w : Str) (l : List Nat), (∀ n ∈ l, n < net.length) → ∃ ds, cComp (.one 2) (iSeq (cSl (.nm 1) (.some (.ex (cK (.int 1)))) .none)) tYesC (cAnd (cCall m_is_whole [.nm 2]) (cChain oLe oLt (.ex (cK (.int 0))) (.nm 2) (.ex (cOpN oLen [.nm 0])))) [2] [.frz (netD net), .frz (.tuple (.str w :: l.map nD)), .emp] = .ok (.own false (.list ds)) [.frz (netD net), .frz (.tuple (.str w :: l.map nD)), .emp] ∧ oAll [.list ds] = .val (.frz (.bool true)) := fun w l hl =>
    comp1T (f := nD) l (by
      have e : cutD (.str w :: l.map nD) (some ((1 : Nat) : Int)) none = l.map nD := by
        unfold cutD
        rw [HT.sIx_none, HT.sIx_nat, List.length_cons, show min 1 ((l.map nD).length + 1) = 1 by omega, List.drop_succ_cons, List.drop_zero, show (l.map nD).length + 1 - 1 = (l.map nD).length by omega, List.take_length]
      have e' : cutD (.str w :: l.map nD) (some 1) none = l.map nD := e
      simp [e']) (by simp) (by simp) (fun x hx => by
      have := hl x hx
      simp [tYesC, this])
  have lp := look_put
  have lt := look_take
  have ls := look_slide
  unfold wordsK at lp lt ls
  cases st with
  | put s =>
    have hs : s < net.length := h
    obtain ⟨ds, hc, ha⟩ := one (Str.ofString "put") [s] (by simpa using hs)
    simp only [List.map_cons, List.map_nil, nD_eq] at hc
    simp [c_is_step, stD, lp, hc, ha]
    exact kk.rt _ _ rfl
  | take s =>
    have hs : s < net.length := h
    obtain ⟨ds, hc, ha⟩ := one (Str.ofString "take") [s] (by simpa using hs)
    simp only [List.map_cons, List.map_nil, nD_eq] at hc
    simp [c_is_step, stD, lt, hc, ha]
    exact kk.rt _ _ rfl
  | slide n s =>
    have hs : n < net.length ∧ s < net.length := h
    obtain ⟨ds, hc, ha⟩ := one (Str.ofString "slide") [n, s] (by simpa using hs)
    simp only [List.map_cons, List.map_nil, nD_eq] at hc
    simp [c_is_step, stD, ls, hc, ha]
    exact kk.rt _ _ rfl
/-- the first step that is not let -/
def wrongAt (net : List (List Nat)) (r : Rul) : List Nat → List Stp → Nat → Option Nat
  | _, [], _ => none
  | lay, st :: p, k => if letB net lay r st then wrongAt net r (aft lay st) p (k + 1) else some k
theorem wrongAt_cons (net : List (List Nat)) (r : Rul) (lay : List Nat) (st : Stp) (p : List Stp) (k : Nat) : wrongAt net r lay (st :: p) k = if letB net lay r st then wrongAt net r (aft lay st) p (k + 1) else some k := rfl
def wrongD : Option Nat → PyData
  | none => .none
  | some k => .tuple [.str "rule", .int k]
theorem wrongAt_goes {net : List (List Nat)} {r : Rul} : ∀ (p : List Stp) (lay : List Nat) (k : Nat), goes net r lay p → wrongAt net r lay p k = none
  | [], _, _, _ => rfl
  | st :: p, lay, k, g => by unfold wrongAt; rw [if_pos g.2.1]; exact wrongAt_goes p _ _ g.2.2
theorem ev_first_wrong {net : List (List Nat)} (hv : NetV net) (r : Rul) (p : List Stp) (hp : ∀ st ∈ p, st ∈ allSteps net) : m_first_wrong [netD net, .list (p.map stD), ruD r] = .ok (.frz (wrongD (wrongAt net r [] p 0))) := by
  have h10 := hv.ten
  apply run_of; intro K kk
  simp [c_first_wrong, ev_neednet hv, ev_need_rules, enumD_zip]
  rw [List.zipIdx_map, List.map_map]
  refine sat_forT (fun rest e => ∃ (lay : List Nat) (k : Nat) (j4 j5 : Cell), isLck j4 = false ∧ isLck j5 = false ∧ e = [.frz (netD net), .frz (.list (p.map stD)), .frz (ruD r), .frz (laD lay), j4, j5] ∧ LayV net.length lay ∧ (∃ q, rest = q.zipIdx k ∧ (∀ st ∈ q, st ∈ allSteps net) ∧ wrongAt net r lay q k = wrongAt net r [] p 0)) ⟨[], 0, .emp, .emp, rfl, rfl, rfl, .nil _, p, rfl, hp, rfl⟩ ?_ ?_
  · rintro ⟨st, i⟩ rest e ⟨lay, k, j4, j5, l4, l5, rfl, hlay, q, hq, hmem, hw⟩ K' L
    cases q with
    | nil => cases hq
    | cons y q =>
      rw [List.zipIdx_cons] at hq
      injection hq with h1 h2
      cases h1
      have hy := hmem st List.mem_cons_self
      have hin := allSteps_inn hv.ok hy
      have hln := hlay.len
      simp [l4, l5, ev_is_step hin.1, ev_is_let lay st r (mem_allSteps hy), ev_behind lay st hin.2 (by omega)]
      rw [wrongAt_cons] at hw
      refine ⟨fun h => L.rt _ _ (kk.rt _ _ ?_), fun h => L.nx _ ⟨aft lay st, i + 1, .frz _, .frz _, rfl, rfl, rfl, hlay.aft hv.ok hy h, q, h2, fun s hs => hmem s (List.mem_cons_of_mem _ hs), ?_⟩⟩
      · rw [h] at hw; simp at hw; rw [← hw]; rfl
      · rw [if_pos h] at hw; exact hw
  · rintro e ⟨lay, k, j4, j5, l4, l5, rfl, hlay, q, hq, hmem, hw⟩
    cases q with
    | nil => simp; exact kk.rt _ _ (by rw [← hw]; rfl)
    | cons y q => cases hq
theorem goes_mem {net : List (List Nat)} {r : Rul} : ∀ (p : List Stp) (lay : List Nat), goes net r lay p → ∀ st ∈ p, st ∈ allSteps net
  | st :: p, lay, g, x, hx => by
    rcases List.mem_cons.mp hx with rfl | hx
    · exact g.1
    · exact goes_mem p _ g.2.2 x hx
theorem laysB_len : ∀ (p : List Stp) (lay : List Nat), (laysB lay p).length = p.length
  | [], _ => rfl
  | st :: p, lay => by show (laysB (aft lay st) p).length + 1 = p.length + 1; rw [laysB_len p]
theorem last_lays : ∀ (p : List Stp) (lay : List Nat), (lay :: laysB lay p)[p.length]? = some (lastB lay p)
  | [], _ => rfl
  | st :: p, lay => by show (aft lay st :: laysB (aft lay st) p)[p.length]? = _; rw [last_lays p]; rfl
theorem goes_append {net : List (List Nat)} {r : Rul} : ∀ (p q : List Stp) (lay : List Nat), goes net r lay (p ++ q) ↔ goes net r lay p ∧ goes net r (lastB lay p) q
  | [], q, lay => by simp [goes, lastB]
  | st :: p, q, lay => by
    show (_ ∧ _ ∧ goes net r (aft lay st) (p ++ q)) ↔ _
    rw [goes_append p q]
    simp only [goes, lastB, and_assoc]
theorem ev_lays_of {net : List (List Nat)} (hv : NetV net) (r : Rul) (p : List Stp) (hg : goes net r [] p) (hl : p.length < 1000) : m_lays_of [netD net, .list (p.map stD), ruD r] = .ok (.own false (.list (([] :: laysB [] p).map laD))) := by
  have h10 := hv.ten
  apply run_of; intro K kk
  have hw := wrongAt_goes p [] 0 hg
  simp [c_lays_of, ev_first_wrong hv r p (goes_mem p [] hg), hw, wrongD, oNotN, isNo]
  refine sat_forT (fun rest e => ∃ (pre : List Stp) (j4 : Cell), isLck j4 = false ∧ e = [.frz (netD net), .frz (.list (p.map stD)), .frz (ruD r), .own false (.list (([] :: laysB [] pre).map laD)), j4] ∧ p = pre ++ rest) ⟨[], .emp, rfl, rfl, rfl⟩ ?_ ?_
  · rintro st rest e ⟨pre, j4, l4, rfl, hp⟩ K' L
    have hgp : goes net r [] (pre ++ [st]) := by
      rw [hp, show pre ++ st :: rest = (pre ++ [st]) ++ rest by simp] at hg
      exact ((goes_append _ _ _).mp hg).1
    have hst : st ∈ allSteps net := ((goes_snoc st [] pre).mp hgp).2.1
    have hlay := goes_lay hv.ok pre [] (.nil _) ((goes_snoc st [] pre).mp hgp).1
    have hll := hlay.len
    have hpl : pre.length < 1000 := by rw [hp] at hl; simp at hl; omega
    have hat : atI ([] :: laysB [] pre) (-1) = some (lastB [] pre) := by
      have := atI_neg ([] :: laysB [] pre) 1 (by omega) (by simp)
      rw [show (-((1 : Nat) : Int)) = -1 from rfl] at this
      rw [this, List.length_cons, Nat.add_sub_cancel, laysB_len]
      exact last_lays pre []
    have hat2 : atI (laD [] :: (laysB [] pre).map laD) (-1) = some (laD (lastB [] pre)) := by
      rw [← List.map_cons, atI_map, hat]; rfl
    simp [l4, hat2, ev_behind (lastB [] pre) st (allSteps_inn hv.ok hst).2 (by omega), laysB_len, lim, show pre.length + 1 < 1000000 by omega]
    refine L.nx _ ⟨pre ++ [st], .frz (stD st), rfl, ?_, by rw [hp]; simp⟩
    rw [laysB_snoc]; simp
  · rintro e ⟨pre, j4, l4, rfl, hp⟩
    rw [List.append_nil] at hp
    subst hp
    simp
    exact kk.rt _ _ (by simp)
theorem ev_costs (st : Stp) : m_costs [stD st] = .ok (.frz (.int (if st.paid then 1 else 0))) := by
  apply run_of; intro K kk
  cases st <;> (simp [c_costs]; exact kk.rt _ _ rfl)
theorem intsOf_map {α : Type} (f : α → Int) : ∀ l : List α, intsOf (l.map fun x => PyData.int (f x)) = some (l.map f)
  | [] => rfl
  | x :: l => by rw [List.map_cons, List.map_cons]; unfold intsOf; simp [intsOf_map f l]
theorem sum_paid : ∀ p : List Stp, (p.map fun st => if st.paid then (1 : Int) else 0).sum = (costL p : Nat)
  | [] => rfl
  | st :: p => by
    rw [List.map_cons, List.sum_cons, sum_paid p]
    unfold costL
    rw [List.countP_cons]
    cases st.paid <;> simp <;> omega
theorem ev_cost_of {net : List (List Nat)} (hv : NetV net) (r : Rul) (p : List Stp) (hg : goes net r [] p) (hl : p.length < 1000) : m_cost_of [netD net, .list (p.map stD), ruD r] = .ok (.frz (.int (costL p : Nat))) := by
  apply run_of; intro K kk
  have hc := compO_ro (i := 1) (v := 3) (ct := tYesC) (ce := cCall m_costs [.nm 3]) (env := [.frz (netD net), .frz (.list (p.map stD)), .frz (ruD r), .emp]) (f := stD) (xs := p) (fun _ => true) (fun st => .int (if st.paid then 1 else 0))
    (.inl rfl) (by simp) (by simp) (by decide) (fun x hx => by simp [tYesC, ev_costs])
  rw [filterT] at hc
  have hs : oSum [.list (p.map fun st => PyData.int (if st.paid then 1 else 0))] = .val (.frz (.int (costL p : Nat))) := by
    unfold oSum onInts; simp only [intsOf_map, sum_paid]; rfl
  simp [c_cost_of, ev_lays_of hv r p hg hl, hc, hs]
  exact kk.rt _ _ rfl
end DL

/-! PEN: stones enough. -/
namespace DL
open PySem L2
def c_enough_cost : CS := (cRet (cOpN oLen [(.ex (cCall m_beneath [(.nm 0), (.nm 1)]))]))
def m_enough_cost : Fn := runDef 2 c_enough_cost
def c_enough_play : CS := (cRet (cComp (.one 2) (iSeq (cCall m_beneath [(.nm 0), (.nm 1)])) tYesC (cTup [(.ex (cK (.str "put"))), (.ex (cVar 2))]) [2]))
def m_enough_play : Fn := runDef 3 c_enough_play
theorem noLists_st (l : List Stp) : noLists (l.map stD) = true := by
  induction l with
  | nil => rfl
  | cons x l ih => rw [List.map_cons, noLists, ih]; cases x <;> rfl
theorem ev_encost {net : List (List Nat)} (h : NetV net) (s : Nat) (hs : s < net.length) : m_enough_cost [netD net, .int s] = .ok (.frz (.int ((below net s).length : Nat))) := by
  apply run_of; intro K kk
  simp [c_enough_cost, ev_beneath h s hs]
  exact kk.rt _ _ rfl
theorem ev_enplay {net : List (List Nat)} (h : NetV net) (s : Nat) (hs : s < net.length) : m_enough_play [netD net, .int s] = .ok (.own false (.list (((below net s).map Stp.put).map stD))) := by
  apply run_of; intro K kk
  have hc := comp1 (v := 2) (ci := iSeq (cCall m_beneath [.nm 0, .nm 1])) (ct := tYesC) (ce := cTup [.ex (cK (.str (Str.ofString "put"))), .ex (cVar 2)])
    (env := [.frz (netD net), .frz (.int s), .emp]) (f := nD) (xs := below net s) (fun _ => true) (fun n => stD (.put n))
    (by simp [ev_beneath h s hs]) (by simp) (by simp) (fun x hx => by simp [tYesC, stD])
  simp [c_enough_play, hc]
  exact kk.rt _ _ (by simp [Function.comp_def])
end DL

/-! PPM: plays that a law draws; what a play misses. -/
namespace DL
open PySem L2
def c_missed : CS := (cSeq (cDrop (cCall m_need_spot [(.nm 0), (.nm 1)]))
    (cSeq (cSet 4 (cLst []))
    (cSeq (cFor (.one 5) (iSeq (cCall m_lays_of [(.nm 0), (.nm 2), (.nm 3)])) (cDrop (cMethT "list" mExtend 4 [(.ex (cVar 5))])))
    (cRet (cComp (.one 6) (iSeq (cCall m_beneath [(.nm 0), (.nm 1)])) (toT (cOp2 (oIn true) (.nm 6) (.nm 4))) (cVar 6) [6])))))
def m_missed : Fn := runDef 7 c_missed
def ruleOf (n : Nat) : Rul := match n with
  | 0 => .plain
  | 1 => .slide
  | _ => .careful
theorem ev_lrules (b : Int) : ∃ r : Rul, m__law_rules (.list [.int b]) [] = .ok (.frz (ruD r)) (.list [.int (b / 3)]) := by
  have h : b % 3 = ((b % 3).toNat : Nat) := by omega
  have h2 : (b % 3).toNat = 0 ∨ (b % 3).toNat = 1 ∨ (b % 3).toNat = 2 := by omega
  refine ⟨ruleOf (b % 3).toNat, ?_⟩
  apply runI_of; intro K k
  have e : ∀ n : Nat, n = 0 ∨ n = 1 ∨ n = 2 → atI [PyData.str (Str.ofString "plain"), .str (Str.ofString "slide"), .str (Str.ofString "careful")] (n : Int) = some (ruD (ruleOf n)) := fun n hn => by
    rcases hn with rfl | rfl | rfl <;> rfl
  have e2 := e _ h2
  rw [← h] at e2
  simp [c__law_rules, ev_take, e2]
  exact k.rt _ _ _ rfl ⟨rfl, rfl⟩
theorem pick_mem {α : Type} {l : List α} (b : Int) (h : l ≠ []) : ∃ x, x ∈ l ∧ atI l (b % (l.length : Int)) = some x := by
  have hp : 0 < l.length := List.length_pos_iff.mpr h
  have h0 := Int.emod_nonneg b (show (l.length : Int) ≠ 0 by omega)
  have h1 := Int.emod_lt_of_pos b (show 0 < (l.length : Int) by omega)
  obtain ⟨n, hn⟩ : ∃ n : Nat, b % (l.length : Int) = (n : Int) := ⟨(b % (l.length : Int)).toNat, by omega⟩
  rw [hn, atI_nat]
  have hl : n < l.length := by omega
  exact ⟨l[n], List.getElem_mem hl, List.getElem?_eq_getElem hl⟩
theorem at_zero {α : Type} {l : List α} (h : l ≠ []) : ∃ x, x ∈ l ∧ atI l 0 = some x := by
  cases l with
  | nil => exact (h rfl).elim
  | cons x l => exact ⟨x, List.mem_cons_self, (atI_nat (x :: l) 0).trans rfl⟩
theorem ev_lplay {net : List (List Nat)} (hv : NetV net) (r : Rul) (b most stones : Int) (h0 : 0 ≤ most) (h1 : most ≤ 100) (h2 : stones = 9 ∨ stones = 14 ∨ (0 ≤ stones ∧ stones ≤ 20)) :
    ∃ c d, m__law_play (.list [.int b]) [netD net, ruD r, .int most, .int stones] = .ok c d ∧ (∃ b' : Int, d = .list [.int b']) ∧ ∃ p : List Stp, c = .own false (.list (p.map stD)) ∧ goes net r [] p ∧ (p.length : Int) ≤ most := by
  have h10 := hv.ten
  have hb := Int.emod_nonneg b (show most + 1 ≠ 0 by omega)
  have hb2 := Int.emod_lt_of_pos b (show 0 < most + 1 by omega)
  obtain ⟨N, hN⟩ : ∃ N : Nat, b % (most + 1) = (N : Int) := ⟨(b % (most + 1)).toNat, by omega⟩
  apply runI_ex; intro K k
  simp [c__law_play, ev_take b (most + 1) (by omega) (by omega), hN, show -1000000 ≤ (N : Int) by omega, show (N : Int) ≤ 1000000 by omega, rgD0]
  refine sat_forT (fun rest e => ∃ (b : Int) (p : List Stp) (j7 j8 j9 j10 : Cell), isLck j7 = false ∧ isLck j8 = false ∧ j9.mine = false ∧ isLck j10 = false ∧ e = [.own true (.list [.int b]), .frz (netD net), .frz (ruD r), .frz (.int most), .frz (.int stones), .frz (laD (lastB [] p)), .own false (.list (p.map stD)), j7, j8, j9, j10] ∧ goes net r [] p ∧ p.length + rest.length ≤ N) ?_ ?_ ?_
  · exact ⟨_, [], .emp, .emp, .emp, .emp, rfl, rfl, rfl, rfl, rfl, trivial, by simp⟩
  · rintro x rest e ⟨b, p, j7, j8, j9, j10, l7, l8, l9, l10, rfl, hg, hlen⟩ K' L
    have hlay := goes_lay hv.ok p [] (.nil _) hg
    have hll := hlay.len
    simp only [List.length_cons] at hlen
    have hsl := allSteps_len hv
    have hfl : ∀ q : Stp → Bool, ((allSteps net).filter q).length ≤ 120 := fun q => Nat.le_trans (List.length_filter_le _ _) hsl
    simp [l7, ev_lsteps hv, l8]
    generalize hsome : (allSteps net).filter (letB net (lastB [] p) r) = some'
    have hmem : ∀ st ∈ some', st ∈ allSteps net ∧ letB net (lastB [] p) r st = true := fun st hst => by
      rw [← hsome, List.mem_filter] at hst; exact hst
    have hsl2 : some'.length ≤ 120 := by rw [← hsome]; exact hfl _
    have hc := compO_own (b := false) (i := 8) (v := 9) (ct := toT (cOp2 oLe (.ex (cOpN oLen [.ex (cCall m__law_after [.nm 5, .nm 9])])) (.nm 4))) (ce := cVar 9)
      (env := [.own true (.list [.int b]), .frz (netD net), .frz (ruD r), .frz (.int most), .frz (.int stones), .frz (laD (lastB [] p)), .own false (.list (p.map stD)), .frz (.int x), .own false (.list (some'.map stD)), j9, j10])
      (f := stD) (xs := some') (fun st => decide (((aft (lastB [] p) st).length : Int) ≤ stones)) stD (by simp) (by simp) (by simp [l9]) (by decide) (fun st hst => by
        simp [ev_lafter (lastB [] p) st (lt_le hlay.inc) (by omega)])
    generalize hsome2 : some'.filter (fun st => decide (((aft (lastB [] p) st).length : Int) ≤ stones)) = s2 at hc
    have hmem2 : ∀ st ∈ s2, st ∈ allSteps net ∧ letB net (lastB [] p) r st = true := fun st hst => by
      rw [← hsome2, List.mem_filter] at hst; exact hmem st hst.1
    have hsl3 : s2.length ≤ 120 := by rw [← hsome2]; exact Nat.le_trans (List.length_filter_le _ _) hsl2
    have fin : ∀ (st : Stp) (b2 : Int) (j8 : Cell), st ∈ s2 → isLck j8 = false → K'.nx [.own true (.list [.int b2]), .frz (netD net), .frz (ruD r), .frz (.int most), .frz (.int stones), .frz (laD (aft (lastB [] p) st)), .own false (.list (p.map stD ++ [stD st])), .frz (.int x), j8, j9, .frz (stD st)] := fun st b2 j8 hst hj =>
      L.nx _ ⟨b2, p ++ [st], .frz (.int x), j8, j9, .frz (stD st), rfl, hj, l9, rfl, by rw [lastB_snoc]; simp, (goes_snoc st [] p).mpr ⟨hg, (hmem2 st hst).1, (hmem2 st hst).2⟩, by simp; omega⟩
    by_cases hz : s2 = []
    · subst hz
      simp [hc]
      exact L.rt _ _ (k.rt _ _ _ rfl ⟨⟨_, rfl⟩, p, rfl, hg, by omega⟩)
    · obtain ⟨st, hst, hat⟩ := pick_mem b hz
      obtain ⟨st0, hst0, hat0⟩ := at_zero hz
      have hlen2 : 0 < s2.length := List.length_pos_iff.mpr hz
      have haf : ∀ q ∈ s2, m__law_after [laD (lastB [] p), stD q] = .ok (.frz (laD (aft (lastB [] p) q))) := fun q _ => ev_lafter _ q (lt_le hlay.inc) (by omega)
      simp [hc, hz, ev_take, hlen2, show (s2.length : Int) < 1073741824 by omega, hat, l10]
      cases st with
      | take t =>
        simp [ev_take, hat0]
        refine ⟨fun _ => ?_, fun _ => ?_⟩
        · simp [lim, show p.length < 1000000 by omega, haf _ hst0]
          exact fin st0 _ _ hst0 rfl
        · simp [lim, show p.length < 1000000 by omega, haf _ hst]
          exact fin _ _ _ hst rfl
      | put t =>
        simp [lim, show p.length < 1000000 by omega, haf _ hst]
        exact fin _ _ _ hst rfl
      | slide n t =>
        simp [lim, show p.length < 1000000 by omega, haf _ hst]
        exact fin _ _ _ hst rfl
  · rintro e ⟨b, p, j7, j8, j9, j10, l7, l8, l9, l10, rfl, hg, hlen⟩
    simp
    exact k.rt _ _ _ rfl ⟨⟨_, rfl⟩, p, rfl, hg, by simp at hlen; omega⟩
end DL

/-! PMB: what bears a stone in a play: mathematics. -/
namespace DL
open PySem L2
theorem mem_aft {lay : List Nat} {st : Stp} {x : Nat} (h : x ∈ aft lay st) : x ∈ lay ∨ (st.paid = true ∧ x = st.top) := by
  cases st with
  | put s =>
    have := (sortN_perm (lay ++ [s])).mem_iff.mp h
    rw [List.mem_append] at this
    rcases this with q | q
    · exact .inl q
    · simp at q; exact .inr ⟨rfl, q⟩
  | take s => exact .inl (List.mem_filter.mp h).1
  | slide n s =>
    have := (sortN_perm ((lay.filter fun x => !decide (x = n)) ++ [s])).mem_iff.mp h
    rw [List.mem_append] at this
    rcases this with q | q
    · exact .inl (List.mem_filter.mp q).1
    · simp at q; exact .inr ⟨rfl, q⟩
theorem top_aft {lay : List Nat} {st : Stp} (h : st.paid = true) : st.top ∈ aft lay st := by
  cases st with
  | put s => exact (sortN_perm (lay ++ [s])).mem_iff.mpr (by simp [Stp.top])
  | take s => cases h
  | slide n s => exact (sortN_perm ((lay.filter fun x => !decide (x = n)) ++ [s])).mem_iff.mpr (by simp [Stp.top])
theorem let_full {net : List (List Nat)} {lay : List Nat} {r : Rul} {st : Stp} (h : letB net lay r st = true) (hp : st.paid = true) : ∀ n ∈ nds net st.top, n ∈ lay := by
  have : fullB net lay st.top = true := by
    cases st with
    | put s => simp [letB] at h; exact h.2
    | take s => cases hp
    | slide n s => simp [letB] at h; exact h.1.2.2
  unfold fullB at this
  rw [List.all_eq_true] at this
  intro n hn; simpa using this n hn
/-- what bears a stone in some lay of a play -/
def Bears (p : List Stp) (x : Nat) : Prop := ∃ l ∈ laysB [] p, x ∈ l
theorem bears_snoc {p : List Stp} {st : Stp} {x : Nat} : Bears (p ++ [st]) x ↔ Bears p x ∨ x ∈ aft (lastB [] p) st := by
  unfold Bears
  rw [laysB_snoc]
  constructor
  · rintro ⟨l, hl, hx⟩
    rw [List.mem_append] at hl
    rcases hl with hl | hl
    · exact .inl ⟨l, hl, hx⟩
    · simp at hl; subst hl; exact .inr hx
  · rintro (⟨l, hl, hx⟩ | hx)
    · exact ⟨l, List.mem_append_left _ hl, hx⟩
    · exact ⟨_, List.mem_append_right _ (by simp), hx⟩
theorem snoc_ind {α : Type} {P : List α → Prop} (h0 : P []) (hs : ∀ l x, P l → P (l ++ [x])) : ∀ l, P l := fun l => by
  have : ∀ l : List α, P l.reverse := fun l => by
    induction l with
    | nil => exact h0
    | cons x l ih => rw [List.reverse_cons]; exact hs _ _ ih
  have := this l.reverse
  rwa [List.reverse_reverse] at this
theorem last_bears : ∀ (p : List Stp) (x : Nat), x ∈ lastB [] p → Bears p x := by
  refine snoc_ind (fun x h => by cases h) fun p st ih x h => ?_
  rw [lastB_snoc] at h; exact bears_snoc.mpr (.inr h)
/-- what bears a stone has its needs borne -/
theorem bears_needs {net : List (List Nat)} {r : Rul} : ∀ p : List Stp, goes net r [] p → ∀ x, Bears p x → ∀ n ∈ nds net x, Bears p n := by
  refine snoc_ind (fun _ x h => by obtain ⟨l, hl, _⟩ := h; cases hl) fun p st ih g x h n hn => ?_
  have g' := (goes_snoc st [] p).mp g
  rcases bears_snoc.mp h with h | h
  · exact bears_snoc.mpr (.inl (ih g'.1 x h n hn))
  · rcases mem_aft h with h | ⟨hp, rfl⟩
    · exact bears_snoc.mpr (.inl (ih g'.1 x (last_bears p x h) n hn))
    · exact bears_snoc.mpr (.inl (last_bears p n (let_full g'.2.2 hp n hn)))
theorem bears_reach {net : List (List Nat)} {r : Rul} {p : List Stp} (g : goes net r [] p) {s x : Nat} (h : Bears p s) (q : Reach net s x) : Bears p x := by
  induction q with
  | here => exact h
  | down _ m ih => exact bears_needs p g _ ih _ m
/-- each paid step brings one spot more at most -/
theorem bears_cost : ∀ p : List Stp, ∃ l : List Nat, l.length ≤ costL p ∧ ∀ x, Bears p x → x ∈ l := by
  refine snoc_ind ⟨[], by simp, fun x h => by obtain ⟨l, hl, _⟩ := h; cases hl⟩ fun p st ⟨l, h1, h2⟩ => ?_
  have hc : costL (p ++ [st]) = costL p + if st.paid then 1 else 0 := by
    unfold costL; rw [List.countP_append, List.countP_singleton]
  cases hp : st.paid with
  | true =>
    refine ⟨st.top :: l, by rw [hc, hp]; simp; omega, fun x h => ?_⟩
    rcases bears_snoc.mp h with h | h
    · exact List.mem_cons_of_mem _ (h2 x h)
    · rcases mem_aft h with h | ⟨_, rfl⟩
      · exact List.mem_cons_of_mem _ (h2 x (last_bears p x h))
      · exact List.mem_cons_self
  | false =>
    refine ⟨l, by rw [hc, hp]; simpa using h1, fun x h => ?_⟩
    rcases bears_snoc.mp h with h | h
    · exact h2 x h
    · rcases mem_aft h with h | ⟨h', _⟩
      · exact h2 x (last_bears p x h)
      · rw [hp] at h'; cases h'
theorem below_cost {net : List (List Nat)} (hk : NetOk net) {r : Rul} {p : List Stp} (g : goes net r [] p) {s : Nat} (h : Bears p s) : (below net s).length ≤ costL p := by
  obtain ⟨l, h1, h2⟩ := bears_cost p
  have := List.Nodup.length_le_of_subset (lt_nodup (below_inc net s)) (l₂ := l) fun x hx => h2 x (bears_reach g h ((mem_below hk).mp hx))
  omega
/-- a play of puts alone bears just what it puts -/
theorem bears_puts : ∀ (l : List Nat) (x : Nat), Bears (l.map Stp.put) x ↔ x ∈ l := by
  refine snoc_ind (fun x => ⟨fun ⟨l, hl, _⟩ => (List.not_mem_nil hl).elim, fun h => (List.not_mem_nil h).elim⟩) fun l y ih x => ?_
  rw [List.map_append, List.map_cons, List.map_nil, bears_snoc, ih, List.mem_append, List.mem_singleton]
  constructor
  · rintro (h | h)
    · exact .inl h
    · rcases mem_aft h with h | ⟨_, h⟩
      · exact .inl ((ih x).mp (last_bears _ x h))
      · exact .inr h
  · rintro (h | h)
    · exact .inl h
    · subst h; exact .inr (top_aft (st := .put x) rfl)
theorem goes_of_wrong {net : List (List Nat)} {r : Rul} : ∀ (p : List Stp) (lay : List Nat) (k : Nat), (∀ st ∈ p, st ∈ allSteps net) → wrongAt net r lay p k = none → goes net r lay p
  | [], _, _, _, _ => trivial
  | st :: p, lay, k, hm, hw => by
    rw [wrongAt_cons] at hw
    cases h : letB net lay r st with
    | false => rw [h] at hw; cases hw
    | true =>
      rw [h, if_pos rfl] at hw
      exact ⟨hm st List.mem_cons_self, h, goes_of_wrong p _ _ (fun s hs => hm s (List.mem_cons_of_mem _ hs)) hw⟩
/-- what a play misses beneath a spot -/
noncomputable def missL (net : List (List Nat)) (s : Nat) (p : List Stp) : List Nat := (below net s).filter fun x => !((laysB [] p).flatten).contains x
theorem mem_miss {net : List (List Nat)} {s : Nat} {p : List Stp} {x : Nat} : x ∈ missL net s p ↔ x ∈ below net s ∧ ¬ Bears p x := by
  unfold missL Bears
  rw [List.mem_filter]; simp
@[simp] theorem mExtend_la (ds : List PyData) (l : List Nat) : mExtend (.list ds) [laD l] = if ds.length + l.length ≤ lim then .ok (.frz .none) (.list (ds ++ l.map nD)) else .no := by
  show mExtend (.list ds) [.tuple (l.map nD)] = _
  rw [mExtend_tuple, List.length_map]
theorem lays_len {net : List (List Nat)} (hk : NetOk net) {r : Rul} : ∀ (p : List Stp) (lay : List Nat), LayV net.length lay → goes net r lay p → ∀ l ∈ laysB lay p, l.length ≤ net.length
  | st :: p, lay, h, g, l, hl => by
    rcases List.mem_cons.mp hl with rfl | hl
    · exact (h.aft hk g.1 g.2.1).len
    · exact lays_len hk p _ (h.aft hk g.1 g.2.1) g.2.2 l hl
theorem flat_len {n : Nat} : ∀ l : List (List Nat), (∀ x ∈ l, x.length ≤ n) → l.flatten.length ≤ l.length * n
  | [], _ => by simp
  | x :: l, h => by
    have h1 := h x List.mem_cons_self
    have h2 := flat_len l fun y hy => h y (List.mem_cons_of_mem _ hy)
    rw [List.flatten_cons, List.length_append, List.length_cons, Nat.add_mul]; omega
theorem ev_missed {net : List (List Nat)} (hv : NetV net) (s : Nat) (hs : s < net.length) (r : Rul) (p : List Stp) (hg : goes net r [] p) (hl : p.length < 1000) : m_missed [netD net, .int s, .list (p.map stD), ruD r] = .ok (.own false (.list ((missL net s p).map nD))) := by
  have h10 := hv.ten
  apply run_of; intro K kk
  have hll := lays_len hv.ok p [] (.nil _) hg
  obtain ⟨LS, hLS⟩ : ∃ LS, LS = [] :: laysB [] p := ⟨_, rfl⟩
  have hlo := ev_lays_of hv r p hg hl
  rw [← hLS] at hlo
  simp [c_missed, ev_needspot hv s hs, hlo]
  refine sat_forT (fun rest e => ∃ (pre : List (List Nat)) (B : List Nat) (j5 : Cell), isLck j5 = false ∧ LS = pre ++ rest ∧ B = pre.flatten ∧ e = [.frz (netD net), .frz (.int s), .frz (.list (p.map stD)), .frz (ruD r), .own false (.list (B.map nD)), j5, .emp]) ⟨[], [], .emp, rfl, rfl, rfl, rfl⟩ ?_ ?_
  · rintro l rest e ⟨pre, B, j5, l5, hp, hB, rfl⟩ K' L
    have hle : ∀ x ∈ pre ++ l :: rest, x.length ≤ 10 := fun x hx => by
      rw [← hp, hLS] at hx
      rcases List.mem_cons.mp hx with rfl | hx
      · simp
      · exact Nat.le_trans (hll x hx) h10
    have h1 := flat_len pre fun x hx => hle x (List.mem_append_left _ hx)
    have h2 := hle l (List.mem_append_right _ List.mem_cons_self)
    have h3 : pre.length ≤ p.length := by
      have := congrArg List.length (hLS.symm.trans hp); simp [laysB_len] at this; omega
    rw [← hB] at h1
    simp [l5, lim, show B.length + l.length ≤ 1000000 by omega]
    exact L.nx _ ⟨pre ++ [l], B ++ l, .frz (laD l), rfl, by rw [hp]; simp, by rw [hB]; simp, by simp⟩
  · rintro e ⟨pre, B, j5, l5, hp, hB, rfl⟩
    rw [List.append_nil] at hp
    have hc := comp1 (f := nD) (v := 6) (ci := iSeq (cCall m_beneath [.nm 0, .nm 1])) (ct := toT (cOp2 (oIn true) (.nm 6) (.nm 4))) (ce := cVar 6)
      (env := [.frz (netD net), .frz (.int s), .frz (.list (p.map stD)), .frz (ruD r), .own false (.list (B.map nD)), j5, .emp]) (xs := below net s) (fun x => !B.contains x) nD
      (by simp [ev_beneath hv s hs]) (by simp) (by simp) (fun x hx => by simp)
    rw [ev_ret, hc]
    refine kk.rt _ _ ?_
    rw [hB, ← hp, hLS]
    simp [missL]
end DL

/-! PLL: a law's own lays of a play. -/
namespace DL
open PySem L2
theorem ev_llays {net : List (List Nat)} (hv : NetV net) (r : Rul) (p : List Stp) (hg : goes net r [] p) (hl : p.length < 1000) : m__law_lays [.list (p.map stD)] = .ok (.own false (.list (([] :: laysB [] p).map laD))) := by
  have h10 := hv.ten
  apply run_of; intro K kk
  simp [c__law_lays]
  refine sat_forT (fun rest e => ∃ (pre : List Stp) (j4 : Jk), e = [.frz (.list (p.map stD)), .own false (.list (([] :: laysB [] pre).map laD)), j4.c] ∧ p = pre ++ rest) ⟨[], jkE, rfl, rfl⟩ ?_ ?_
  · rintro st rest e ⟨pre, j4, rfl, hp⟩ K' L
    have hgp : goes net r [] (pre ++ [st]) := by
      rw [hp, show pre ++ st :: rest = (pre ++ [st]) ++ rest by simp] at hg
      exact ((goes_append _ _ _).mp hg).1
    have hlay := goes_lay hv.ok pre [] (.nil _) ((goes_snoc st [] pre).mp hgp).1
    have hll := hlay.len
    have hpl : pre.length < 1000 := by rw [hp] at hl; simp at hl; omega
    have hat : atI ([] :: laysB [] pre) (-1) = some (lastB [] pre) := by
      have := atI_neg ([] :: laysB [] pre) 1 (by omega) (by simp)
      rw [show (-((1 : Nat) : Int)) = -1 from rfl] at this
      rw [this, List.length_cons, Nat.add_sub_cancel, laysB_len]
      exact last_lays pre []
    have hat2 : atI (laD [] :: (laysB [] pre).map laD) (-1) = some (laD (lastB [] pre)) := by
      rw [← List.map_cons, atI_map, hat]; rfl
    simp [hat2, ev_lafter (lastB [] pre) st (lt_le hlay.inc) (by omega), laysB_len, lim, show pre.length + 1 < 1000000 by omega]
    refine L.nx _ ⟨pre ++ [st], ⟨.frz (stD st), rfl⟩, ?_, by rw [hp]; simp⟩
    rw [laysB_snoc]; simp
  · rintro e ⟨pre, j4, rfl, hp⟩
    rw [List.append_nil] at hp
    subst hp
    simp
    exact kk.rt _ _ (by simp)
end DL

/-! PK07: lays that a law draws; law 07. -/
namespace DL
open PySem L2
def c_need_lay : CS := (cSeq (cDrop (cCall m_need_net [(.nm 0)]))
    (cSeq (cDrop (cCall m_need_rules [(.nm 2)]))
    (cIfS (cNotT (toT (cCall m_is_lay [(.nm 0), (.nm 1)]))) (cRaise "NoLay") cNext)))
def m_need_lay : Fn := runDef 3 c_need_lay
def c_steps_from : CS := (cSeq (cDrop (cCall m_need_lay [(.nm 0), (.nm 1), (.nm 2)]))
    (cRet (cCall m_steps_let [(.nm 0), (.nm 1), (.nm 2)])))
def m_steps_from : Fn := runDef 3 c_steps_from
theorem rising_la {l : List Nat} {n : Nat} (h : LayV n l) : risingD (l.map nD) (-1) n = true :=
  rising_nD l (-1) n (fun x _ => by omega) h.inc (fun x hx => by have := h.low x hx; omega)
theorem ev_is_lay {net : List (List Nat)} {lay : List Nat} (h : LayV net.length lay) : m_is_lay [netD net, laD lay] = .ok (.frz (.bool true)) := by
  apply run_of; intro K kk
  have e := ev_rising (laD lay) (lay.map nD) net.length rfl (fun d hd => by simp at hd; obtain ⟨n, _, rfl⟩ := hd; rfl)
  rw [rising_la h] at e
  have e2 : isiD "tuple" (laD lay) = some true := rfl
  simp [c_is_lay, e2, e]
  exact kk.rt _ _ rfl
theorem ev_need_lay {net : List (List Nat)} (hv : NetV net) {lay : List Nat} (h : LayV net.length lay) (r : Rul) : m_need_lay [netD net, laD lay, ruD r] = .ok (.frz .none) := by
  apply run_of; intro K kk
  simp [c_need_lay, ev_neednet hv, ev_need_rules r, ev_is_lay h]
  exact kk.nx rfl _
theorem ev_steps_from {net : List (List Nat)} (hv : NetV net) {lay : List Nat} (h : LayV net.length lay) (r : Rul) : m_steps_from [netD net, laD lay, ruD r] = .ok (.own false (.list (((allSteps net).filter (letB net lay r)).map stD))) := by
  apply run_of; intro K kk
  simp [c_steps_from, ev_need_lay hv h r, ev_steps_let hv lay r]
  exact kk.rt _ _ rfl
theorem ev_llay {net : List (List Nat)} (hv : NetV net) (b : Int) : ∃ c d, m__law_lay (.list [.int b]) [netD net] = .ok c d ∧ (∃ b' : Int, d = .list [.int b']) ∧ ∃ l, c = .frz (laD l) ∧ LayV net.length l := by
  have h10 := hv.ten
  apply runI_ex; intro K k
  unfold c__law_lay
  rw [ev_ret, ev_opN]
  simp only [evs_cons, ev_ex, evs_nil]
  generalize hc : cComp _ _ _ _ _ _ = r
  obtain ⟨ds, e', rfl, l, b1, j, rfl, rfl, hp, m, hm, hlow⟩ := comp_inv hc (f := nD) (xs := List.range net.length)
    (fun rest ds e => ∃ (l : List Nat) (b : Int) (j : Jm), e = [.own true (.list [.int b]), .frz (netD net), j.c] ∧ ds = l.map nD ∧ l.Pairwise (· < ·) ∧ ∃ m, rest = List.range' m (net.length - m) ∧ (∀ x ∈ l, x < m ∧ x < net.length))
    (by simp [emps, rgD0, show (net.length : Int) ≤ 1000000 by omega]; rfl) (by simp [emps]) ⟨[], b, jmE, rfl, rfl, .nil, 0, by simp [List.range_eq_range'], by simp⟩ (by
      rintro x rest ds e ⟨l, b, j, rfl, rfl, hp, m, hm, hl⟩ Y Z hY hZ
      obtain ⟨rfl, hk2, rfl⟩ := range'_cons hm
      simp [ev_take]
      have hl2 : ∀ y ∈ l, y < x + 1 ∧ y < net.length := fun y hy => by have := hl y hy; omega
      refine ⟨fun _ => hY _ _ ⟨l ++ [x], _, ⟨.frz (nD x), rfl⟩, rfl, by simp, ?_, x + 1, ?_, ?_⟩, fun _ => hZ _ ⟨l, _, ⟨.frz (nD x), rfl⟩, rfl, rfl, hp, x + 1, ?_, hl2⟩⟩
      · rw [List.pairwise_append]; exact ⟨hp, by simp, fun a ha c hc => by simp at hc; subst hc; exact (hl a ha).1⟩
      · congr 1
      · intro y hy; rw [List.mem_append] at hy; rcases hy with hy | hy
        · exact hl2 y hy
        · simp at hy; omega
      · congr 1)
  simp
  exact k.rt _ _ _ rfl ⟨⟨_, rfl⟩, l, rfl, hp, fun x hx => (hlow x hx).2⟩
theorem step_lt {net : List (List Nat)} (hk : NetOk net) {st : Stp} (h : st ∈ allSteps net) : st.inn net.length := (allSteps_inn hk h).1
theorem shS : EncSh stD (fun st => st.inn (2 ^ 64)) 10 where
  okr st h := by
    cases st with
    | put s => simp [stD, okR, okRs, ok_put]; exact log2_lt h
    | take s => simp [stD, okR, okRs, ok_take]; exact log2_lt h
    | slide n s => simp [stD, okR, okRs, ok_slide]; exact ⟨log2_lt h.1, log2_lt h.2⟩
  cnt st h := by
    have e1 : (Str.ofString "put").length = 3 := by decide +kernel
    have e2 : (Str.ofString "take").length = 4 := by decide +kernel
    have e3 : (Str.ofString "slide").length = 5 := by decide +kernel
    cases st <;> simp [stD, cnt, cnts, e1, e2, e3]
  dep st := EncOk.dpt (f := stD) st
theorem inn_big {st : Stp} {n : Nat} (h : st.inn n) (hn : n ≤ 10) : st.inn (2 ^ 64) := by
  have : (10 : Nat) ≤ 2 ^ 64 := by decide
  cases st with
  | put s => exact Nat.lt_of_lt_of_le h (by omega)
  | take s => exact Nat.lt_of_lt_of_le h (by omega)
  | slide a s => exact ⟨Nat.lt_of_lt_of_le h.1 (by omega), Nat.lt_of_lt_of_le h.2 (by omega)⟩
theorem show_steps {net : List (List Nat)} (hv : NetV net) {l : List Stp} (h : ∀ st ∈ l, st ∈ allSteps net) (hl : l.length ≤ 400) : showOk (.list (l.map stD)) = true :=
  show_list shS (fun st hst => inn_big (step_lt hv.ok (h st hst)) hv.ten) (by omega)
theorem LayV.all (n : Nat) : LayV n (List.range n) := ⟨List.pairwise_lt_range, fun x hx => by simpa using hx⟩
def c_law_v7 : CS := (cSeq (cFor (.one 1) (iArgs rg1 [(.ex (cOpN oMax2 [(.ex (cK (.int 1))), (.ex (cOpN oMin2 [(.ex (cOpN oLen [(.nm 0)])), (.ex (cK (.int 5)))]))]))]) (cSeq (cSet 2 (cCall m__law_box [(.nm 0), (.nm 1)]))
    (cSeq (cSet 3 (cCallI m__law_net 2 [(.ex (cOp2 oIx (.ex (cLst [(.ex (cK (.int 6))), (.ex (cK (.int 6))), (.ex (cK (.int 6))), (.ex (cK (.int 10)))])) (.ex (cCallI m__law_take 2 [(.ex (cK (.int 4)))]))))]))
    (cFor (.one 4) (iSeq (cLst [(.ex (cCallI m__law_lay 2 [(.ex (cVar 3))])), (.ex (cCallI m__law_lay 2 [(.ex (cVar 3))])), (.ex (cTup [])), (.ex (cRg1 (fun ds => .val (.frz (.tuple ds))) (.ex (cOpN oLen [(.nm 3)]))))])) (cFor (.one 5) (iSeq (cLst [(.ex (cK (.str "plain"))), (.ex (cK (.str "slide"))), (.ex (cK (.str "careful")))])) (cSeq (cSet 6 (cCall m__law_steps [(.nm 3), (.nm 4), (.nm 5)]))
    (cSeq (cSet 7 (cCall m_steps_from [(.nm 3), (.nm 4), (.nm 5)]))
    (cSeq (cIfS (cOrT (cNotT (toT (cIsi "list" (.nm 7)))) (toT (cOp2 oNe (.ex (cOpN oRepr [(.nm 7)])) (.ex (cOpN oRepr [(.nm 6)]))))) (cRet (cK (.bool false))) cNext)
    (cSeq (cDrop (cMethT "list" mAppend 7 [(.ex (cK (.int 0)))]))
    (cIfS (toT (cOp2 oNe (.ex (cOpN oRepr [(.ex (cCall m_steps_from [(.nm 3), (.nm 4), (.nm 5)]))])) (.ex (cOpN oRepr [(.nm 6)])))) (cRet (cK (.bool false))) cNext))))))))))
    (cRet (cK (.bool true))))
def m_law_v7 : Fn := runDef 8 c_law_v7
theorem pick4a (b : Int) (x y : Int) (hx : 0 < x ∧ x ≤ 10) (hy : 0 < y ∧ y ≤ 10) : ∃ m : Int, atI [PyData.int x, .int x, .int x, .int y] (b % 4) = some (.int m) ∧ 0 < m ∧ m ≤ 10 ∧ (m = x ∨ m = y) := by
  have h : b % 4 = ((b % 4).toNat : Nat) := by omega
  have h2 : (b % 4).toNat = 0 ∨ (b % 4).toNat = 1 ∨ (b % 4).toNat = 2 ∨ (b % 4).toNat = 3 := by omega
  rw [h, atI_nat]
  rcases h2 with h | h | h | h <;> rw [h] <;> first | exact ⟨_, rfl, hx.1, hx.2, .inl rfl⟩ | exact ⟨_, rfl, hy.1, hy.2, .inr rfl⟩
theorem law_true_07 (ns : List Int) : m_law_v7 [scriptD ns] = .ok (.frz (.bool true)) := by
  refine law_outer (by decide) (by decide) (fun js => ∃ (j1 j2 j3 j4 j5 j6 j7 : Jk), js = [j1.c, j2.c, j3.c, j4.c, j5.c, j6.c, j7.c]) ⟨jkE, jkE, jkE, jkE, jkE, jkE, jkE, rfl⟩ ?_
  rintro k hk js ⟨j1, j2, j3, j4, j5, j6, j7, rfl⟩ K' hnx hct
  obtain ⟨rr, hbox, b, rfl⟩ := ev_box ns k hk
  obtain ⟨m, hm, hm0, hm1, _⟩ := pick4a b 6 10 (by decide) (by decide)
  obtain ⟨rr, d, hnet, ⟨b2, rfl⟩, net, rfl, hok, h1, h2⟩ := ev_net (b / 4) m hm0 hm1
  have hv : NetV net := ⟨hok, h1, by omega⟩
  have h10 := hv.ten
  obtain ⟨c, d, hl1, ⟨b3, rfl⟩, lay1, rfl, hlv1⟩ := ev_llay hv b2
  obtain ⟨c, d, hl2, ⟨b4, rfl⟩, lay2, rfl, hlv2⟩ := ev_llay hv b3
  have hlists : ([laD lay1, laD lay2, .tuple [], .tuple ((List.range net.length).map nD)] : List PyData) = [lay1, lay2, [], List.range net.length].map laD := rfl
  simp [hbox, ev_take, hm, hnet, hl1, hl2, rgL_nat, show (net.length : Int) ≤ 1000000 by omega]
  rw [hlists]
  refine sat_for (fun rest e => ∃ (j4 j5 j6 j7 : Jk), e = [.frz (scriptD ns), .frz (.int k), .own false (.list [.int b4]), .frz (netD net), j4.c, j5.c, j6.c, j7.c] ∧ ∀ l ∈ rest, LayV net.length l)
    ⟨j4, j5, j6, j7, rfl, by simp; exact ⟨hlv1, hlv2, .nil _, .all _⟩⟩ ?_ ?_
  · rintro lay rest e ⟨j4, j5, j6, j7, rfl, hr⟩ K2 L
    have hlv := hr lay List.mem_cons_self
    have hr2 : ∀ x ∈ rest, LayV net.length x := fun x hx => hr x (List.mem_cons_of_mem _ hx)
    have hrs : ([.str (Str.ofString "plain"), .str (Str.ofString "slide"), .str (Str.ofString "careful")] : List PyData) = [Rul.plain, .slide, .careful].map ruD := rfl
    simp
    rw [hrs]
    refine sat_for (fun rest e => ∃ (j5 j6 j7 : Jk), e = [.frz (scriptD ns), .frz (.int k), .own false (.list [.int b4]), .frz (netD net), .frz (laD lay), j5.c, j6.c, j7.c])
      ⟨j5, j6, j7, rfl⟩ ?_ ?_
    · rintro r rest e ⟨j5, j6, j7, rfl⟩ K3 L3
      have hst := ev_steps_from hv hlv r
      have hls := ev_lsteps hv lay r
      have hsl := allSteps_len hv
      have hsh := show_steps hv (l := (allSteps net).filter (letB net lay r)) (fun st hst => (List.mem_filter.mp hst).1) (by have := List.length_filter_le (letB net lay r) (allSteps net); omega)
      have hlen : ((allSteps net).filter (letB net lay r)).length < 1000000 := by have := List.length_filter_le (letB net lay r) (allSteps net); omega
      generalize (allSteps net).filter (letB net lay r) = S at hst hls hsh hlen
      simp [hst, hls, hsh, oNe_strs, lim, hlen]
      exact L3.nx _ ⟨⟨_, (by first | rfl | exact Jk.u _ | exact Jm.m _ | exact Jm.lck _ | simp | assumption)⟩, ⟨_, (by first | rfl | exact Jk.u _ | exact Jm.m _ | exact Jm.lck _ | simp | assumption)⟩, ⟨_, (by first | rfl | exact Jk.u _ | exact Jm.m _ | exact Jm.lck _ | simp | assumption)⟩, rfl⟩
    · rintro e ⟨j5, j6, j7, rfl⟩
      exact L.nx _ ⟨⟨_, (by first | rfl | exact Jk.u _ | exact Jm.m _ | exact Jm.lck _ | simp | assumption)⟩, j5, j6, j7, rfl, hr2⟩
  · rintro e ⟨j4, j5, j6, j7, rfl, hr⟩
    exact hnx _ ⟨⟨_, (by first | rfl | exact Jk.u _ | exact Jm.m _ | exact Jm.lck _ | simp | assumption)⟩, ⟨_, (by first | rfl | exact Jk.u _ | exact Jm.m _ | exact Jm.lck _ | simp | assumption)⟩, ⟨_, (by first | rfl | exact Jk.u _ | exact Jm.m _ | exact Jm.lck _ | simp | assumption)⟩, j4, j5, j6, j7, rfl⟩
end DL

/-! PGD: things that are no net, no spot, no rules, no lay, no step: any data. -/
namespace DL
open PySem L2
abbrev exc (x : Str) : Exc := ⟨x, none⟩
def noNet (x : PyData) : Prop := scrD x = false ∧ (∀ ds, x = .tuple ds → ∀ d ∈ ds, okN d) ∧ netB x = false
theorem ev_neednet_no {x : PyData} (h : noNet x) : m_need_net [x] = .ex (exc "NoNet") := by
  obtain ⟨h1, h2, h3⟩ := h
  apply run_raise; intro K kk
  simp [c_need_net, ev_isnet x h1 h2, h3]
  exact kk.ex _ _ rfl
def spotB (n : Nat) : PyData → Bool
  | .int i => decide (0 ≤ i) && decide (i < (n : Int))
  | _ => false
theorem ev_needspot_net {x : PyData} (h : noNet x) (d : PyData) : m_need_spot [x, d] = .ex (exc "NoNet") := by
  apply run_raise; intro K kk
  simp [c_need_spot, ev_neednet_no h]
  exact kk.ex _ _ rfl
theorem ev_needspot_no {net : List (List Nat)} (hv : NetV net) {d : PyData} (hd : scrD d = false) (h : spotB net.length d = false) : m_need_spot [netD net, d] = .ex (exc "NoSpot") := by
  apply run_raise; intro K kk
  simp [c_need_spot, ev_neednet hv, ev_whole d hd]
  cases d with
  | int i =>
    have h : (decide (0 ≤ i) && decide (i < (net.length : Int))) = false := h
    simp [wholeD, h]
    exact kk.ex _ _ rfl
  | _ => simp [wholeD]; exact kk.ex _ _ rfl
def rulesB : PyData → Bool
  | .str x => x == "plain" || x == "slide" || x == "careful"
  | _ => false
theorem ev_needrules_no {d : PyData} (hd : scrD d = false) (h : rulesB d = false) : m_need_rules [d] = .ex (exc "NoRules") := by
  apply run_raise; intro K kk
  cases d with
  | str x =>
    have h : (x == Str.ofString "plain" || x == Str.ofString "slide" || x == Str.ofString "careful") = false := h
    have e : hasD (.str x) [.str (Str.ofString "plain"), .str (Str.ofString "slide"), .str (Str.ofString "careful")] = false := by
      rw [Bool.or_eq_false_iff, Bool.or_eq_false_iff] at h
      obtain ⟨⟨h1, h2⟩, h3⟩ := h
      have f1 : (Str.ofString "plain" == x) = false := by rw [Bool.beq_comm]; exact h1
      have f2 : (Str.ofString "slide" == x) = false := by rw [Bool.beq_comm]; exact h2
      have f3 : (Str.ofString "careful" == x) = false := by rw [Bool.beq_comm]; exact h3
      simp [hasD, PyData.eqv, h1, h2, h3, f1, f2, f3]
    have e2 : oIn true (.str x) (.tuple [.str (Str.ofString "plain"), .str (Str.ofString "slide"), .str (Str.ofString "careful")]) = .val (.frz (.bool true)) := by
      unfold oIn; simp [flatD, e]
    simp [c_need_rules, e2]
    exact kk.ex _ _ rfl
  | dict k => simp [c_need_rules, isi_dict "str" k hd]; exact kk.ex _ _ rfl
  | _ => simp [c_need_rules]; exact kk.ex _ _ rfl
def layB (n : Nat) : PyData → Bool
  | .tuple ds => risingD ds (-1) n
  | _ => false
theorem ev_islay (net : List (List Nat)) {d : PyData} (h : okN d) : m_is_lay [netD net, d] = .ok (.frz (.bool (layB net.length d))) := by
  apply run_of; intro K kk
  cases d with
  | tuple ds =>
    have e := ev_rising (.tuple ds) ds net.length rfl (h.2 ds rfl)
    simp [c_is_lay, e]
    exact kk.rt _ _ rfl
  | dict k => simp [c_is_lay, isi_dict "tuple" k h.1]; exact kk.rt _ _ rfl
  | _ => simp [c_is_lay]; exact kk.rt _ _ rfl
theorem ev_needlay_net {x : PyData} (h : noNet x) (d r : PyData) : m_need_lay [x, d, r] = .ex (exc "NoNet") := by
  apply run_raise; intro K kk
  simp [c_need_lay, ev_neednet_no h]
  exact kk.ex _ _ rfl
theorem ev_needlay_rules {net : List (List Nat)} (hv : NetV net) (d : PyData) {r : PyData} (hr : scrD r = false) (h : rulesB r = false) : m_need_lay [netD net, d, r] = .ex (exc "NoRules") := by
  apply run_raise; intro K kk
  simp [c_need_lay, ev_neednet hv, ev_needrules_no hr h]
  exact kk.ex _ _ rfl
theorem ev_needlay_no {net : List (List Nat)} (hv : NetV net) {d : PyData} (hd : okN d) (h : layB net.length d = false) (r : Rul) : m_need_lay [netD net, d, ruD r] = .ex (exc "NoLay") := by
  apply run_raise; intro K kk
  simp [c_need_lay, ev_neednet hv, ev_need_rules r, ev_islay net hd, h]
  exact kk.ex _ _ rfl
/-- the form of a step -/
def stepB (n : Nat) : PyData → Bool
  | .tuple (.str w :: d :: ds) => (match lookS wordsK w with | some (.int k) => decide (k = ((ds.length + 2 : Nat) : Int)) | _ => false) && (d :: ds).all (spotB n)
  | _ => false
theorem lookS_words (w : Str) : lookS wordsK w = none ∨ ∃ k : Int, lookS wordsK w = some (.int k) := by
  unfold wordsK
  simp only [lookS]
  split
  · exact .inr ⟨_, rfl⟩
  · split
    · exact .inr ⟨_, rfl⟩
    · split
      · exact .inr ⟨_, rfl⟩
      · exact .inl rfl
theorem lookS_words3 {w : Str} {k : Int} (h : lookS wordsK w = some (.int k)) : k = 2 ∨ k = 3 := by
  unfold wordsK at h
  simp only [lookS] at h
  split at h
  · cases h; exact .inl rfl
  · split at h
    · cases h; exact .inl rfl
    · split at h
      · cases h; exact .inr rfl
      · cases h
theorem ev_isstep (net : List (List Nat)) {d : PyData} (h : okN d) : m_is_step [netD net, d] = .ok (.frz (.bool (stepB net.length d))) := by
  apply run_of; intro K kk
  cases d with
  | dict k => simp [c_is_step, isi_dict "tuple" k h.1]; exact kk.rt _ _ rfl
  | tuple ds =>
    have hs := h.2 ds rfl
    cases ds with
    | nil => simp [c_is_step]; exact kk.rt _ _ rfl
    | cons w ds =>
      cases ds with
      | nil => simp [c_is_step]; exact kk.rt _ _ (by cases w <;> rfl)
      | cons d ds =>
        have hw := hs w List.mem_cons_self
        have a0 : atI (w :: d :: ds) 0 = some w := atI_nat (w :: d :: ds) 0
        have hl2 : ¬ ((ds.length : Int) + 1 + 1 < 2) := by omega
        have finN : ∀ w, (∀ x, w ≠ PyData.str x) → stepB net.length (.tuple (w :: d :: ds)) = false := fun w hw => by
          cases w with
          | str x => exact (hw x rfl).elim
          | _ => rfl
        cases w with
        | dict k =>
          have hw' : isScr k = false := hw
          simp [c_is_step, a0, isi_dict "str" k hw', hl2]; exact kk.rt _ _ rfl
        | str w =>
          have hc := comp1 (v := 2) (ci := iSeq (cSl (.nm 1) (.some (.ex (cK (.int 1)))) .none)) (ct := tYesC) (ce := cAnd (cCall m_is_whole [.nm 2]) (cChain oLe oLt (.ex (cK (.int 0))) (.nm 2) (.ex (cOpN oLen [.nm 0])))) (env := [.frz (netD net), .frz (.tuple (.str w :: d :: ds)), .emp]) (f := id) (xs := d :: ds) (fun _ => true) (fun x => .bool (spotB net.length x))
            (by
              have e : cutD (.str w :: d :: ds) (some ((1 : Nat) : Int)) none = d :: ds := by
                unfold cutD
                rw [HT.sIx_none, HT.sIx_nat, List.length_cons, show min 1 ((d :: ds).length + 1) = 1 by omega, List.drop_succ_cons, List.drop_zero, show (d :: ds).length + 1 - 1 = (d :: ds).length by omega, List.take_length]
              have e' : cutD (.str w :: d :: ds) (some 1) none = d :: ds := e
              simp [e']) (by simp) (by simp) (fun x hx => by
              have hx' := hs x (List.mem_cons_of_mem _ hx)
              cases x with
              | int i => simp [tYesC, ev_whole, spotB]
              | dict k => simp [tYesC, ev_whole _ hx', wholeD, spotB]
              | _ => simp [tYesC, ev_whole _ hx', wholeD, spotB])
          rw [show (d :: ds).filter (fun _ => true) = d :: ds from List.filter_eq_self.mpr fun _ _ => rfl] at hc
          have ha : oAll [.list ((d :: ds).map fun x => .bool (spotB net.length x))] = .val (.frz (.bool ((d :: ds).all (spotB net.length)))) := oAll_map _ _
          generalize ((d :: ds).map fun x => PyData.bool (spotB net.length x)) = bs at hc ha
          have hlk := lookS_words w
          unfold wordsK at hlk
          rcases hlk with hlk | ⟨k, hlk⟩
          · have e1 : stepB net.length (.tuple (.str w :: d :: ds)) = false := by
              have : lookS wordsK w = none := hlk
              simp [stepB, this]
            rw [e1] at kk
            have e2 : oNe .none (.int ((ds.length : Int) + 1 + 1)) = .val (.frz (.bool true)) := rfl
            simp [c_is_step, a0, hl2, hlk, e2]
            exact kk.rt _ _ rfl
          · have e1 : stepB net.length (.tuple (.str w :: d :: ds)) = (decide (k = ((ds.length + 2 : Nat) : Int)) && (d :: ds).all (spotB net.length)) := by
              have : lookS wordsK w = some (.int k) := hlk
              simp [stepB, this]
            rw [e1] at kk
            simp [c_is_step, a0, hl2, hlk, hc, ha]
            constructor
            · intro hk
              refine kk.rt _ _ ?_
              have : decide (k = ((ds.length + 2 : Nat) : Int)) = false := by simp; omega
              rw [this]; rfl
            · intro hk
              refine kk.rt _ _ ?_
              have : decide (k = ((ds.length + 2 : Nat) : Int)) = true := by simp; omega
              rw [this]; simp
        | _ => simp [c_is_step, a0, hl2]; exact kk.rt _ _ rfl
  | _ => simp [c_is_step]; exact kk.rt _ _ rfl
end DL

/-! PK08: led; law 08. -/
namespace DL
open PySem L2
def c_led : CS := (cSeq (cDrop (cCall m_need_lay [(.nm 0), (.nm 1), (.nm 3)]))
    (cSeq (cIfS (cOrT (cNotT (toT (cCall m_is_step [(.nm 0), (.nm 2)]))) (cNotT (toT (cCall m_is_let [(.nm 0), (.nm 1), (.nm 2), (.nm 3)])))) (cRaise "NoStep") cNext)
    (cRet (cCall m_behind [(.nm 1), (.nm 2)]))))
def m_led : Fn := runDef 4 c_led
def c__law_no_spot : CS := (cSeq (cSet 2 (cLst [(.ex (cVar 1)), (.ex (cNeg (.ex (cK (.int 1))))), (.ex (cK (.bool true))), (.ex (cK (.bool false))), (.ex (cK .none)), (.ex (cK (.str "0"))), (.ex (cTup [(.ex (cK (.int 0)))])), (.ex (cOp2 oAdd (.nm 1) (.ex (cCallI m__law_take 0 [(.ex (cK (.int 9)))])))), (.ex (cOp2 oPow (.ex (cK (.int 10))) (.ex (cK (.int 39))))), (.ex (cLst [(.ex (cK (.int 0)))]))]))
    (cRet (cOp2 oIx (.nm 2) (.ex (cCallI m__law_take 0 [(.ex (cK (.int 10)))])))))
def m__law_no_spot : Fm := runDefI 3 c__law_no_spot
def c__law_told_v3 : CS := (cTry 4 hmMarks (cRet (cCall m_led [(.nm 0), (.nm 1), (.nm 2), (.nm 3)])))
def m__law_told_v3 : Fn := runDef 5 c__law_told_v3
def c__law_no_step : CS := (cSeq (cSet 2 (cCallI m__law_no_spot 0 [(.ex (cVar 1))]))
    (cSeq (cSet 3 (cLst [(.ex (cK .none)), (.ex (cTup [])), (.ex (cTup [(.ex (cK (.str "put")))])), (.ex (cTup [(.ex (cK (.str "put"))), (.ex (cK (.int 0))), (.ex (cK (.int 0)))])), (.ex (cLst [(.ex (cK (.str "put"))), (.ex (cK (.int 0)))])), (.ex (cTup [(.ex (cK (.str "Put"))), (.ex (cK (.int 0)))])), (.ex (cTup [(.ex (cK (.str "take"))), (.ex (cVar 2))])), (.ex (cTup [(.ex (cK (.str "put"))), (.ex (cVar 2))])), (.ex (cTup [(.ex (cK (.str "slide"))), (.ex (cK (.int 0)))]))]))
    (cRet (cOp2 oAdd (.nm 3) (.ex (cLst [(.ex (cTup [(.ex (cK (.str "slide"))), (.ex (cK (.int 0))), (.ex (cK (.int 0))), (.ex (cK (.int 0)))])), (.ex (cTup [(.ex (cK (.str "slide"))), (.ex (cVar 2)), (.ex (cK (.int 0)))])), (.ex (cTup [(.ex (cK (.int 0))), (.ex (cK (.str "put")))])), (.ex (cK (.str "put 0"))), (.ex (cTup [(.ex (cK (.str "lay"))), (.ex (cK (.int 0)))])), (.ex (cTup [(.ex (cK (.str "slide"))), (.ex (cVar 2)), (.ex (cVar 2))]))]))))))
def m__law_no_step : Fm := runDefI 4 c__law_no_step
def c__law_no_lay : CS := (cSeq (cSet 2 (cLst [(.ex (cK .none)), (.ex (cLst [(.ex (cK (.int 0)))])), (.ex (cTup [(.ex (cVar 1))])), (.ex (cTup [(.ex (cK (.int 0))), (.ex (cK (.int 0)))])), (.ex (cTup [(.ex (cK (.int 1))), (.ex (cK (.int 0)))])), (.ex (cTup [(.ex (cNeg (.ex (cK (.int 1)))))])), (.ex (cTup [(.ex (cK (.bool true)))])), (.ex (cK (.str ""))), (.ex (cTup [(.ex (cK (.str "0")))])), (.ex (cK (.int 0))), (.ex cDict0), (.ex (cTup [(.ex (cTup [(.ex (cK (.int 0)))]))]))]))
    (cRet (cOp2 oIx (.nm 2) (.ex (cCallI m__law_take 0 [(.ex (cK (.int 12)))])))))
def m__law_no_lay : Fm := runDefI 3 c__law_no_lay
def c_law_v8 : CS := (cSeq (cFor (.one 1) (iArgs rg1 [(.ex (cOpN oMax2 [(.ex (cK (.int 1))), (.ex (cOpN oMin2 [(.ex (cOpN oLen [(.nm 0)])), (.ex (cK (.int 5)))]))]))]) (cSeq (cSet 2 (cCall m__law_box [(.nm 0), (.nm 1)]))
    (cSeq (cSet 3 (cCallI m__law_net 2 [(.ex (cK (.int 6)))]))
    (cSeq (cSet 4 (cCallI m__law_rules 2 []))
    (cSeq (cSet 5 (cRg1 (fun ds => .val (.own false (.list ds))) (.ex (cOpN oLen [(.nm 3)]))))
    (cSeq (cFor (.one 6) (iSeq (cLst [(.ex (cOp2 oIx (.ex (cCall m__law_lays [(.ex (cCallI m__law_play 2 [(.ex (cVar 3)), (.ex (cVar 4)), (.ex (cK (.int 9))), (.ex (cK (.int 9)))]))])) (.ex (cNeg (.ex (cK (.int 1))))))), (.ex (cCallI m__law_lay 2 [(.ex (cVar 3))]))])) (cSeq (cSet 7 (cOp2 oAdd (.ex (cCompO 5 (.one 8) tYesC (cTup [(.ex (cK (.str "put"))), (.ex (cVar 8))]) [8])) (.ex (cCompO 5 (.one 8) tYesC (cTup [(.ex (cK (.str "take"))), (.ex (cVar 8))]) [8]))))
    (cSeq (cForO 5 (.one 9) (cSet 7 (cOp2 oAdd (.nm 7) (.ex (cCompO 5 (.one 8) tYesC (cTup [(.ex (cK (.str "slide"))), (.ex (cVar 9)), (.ex (cVar 8))]) [8])))))
    (cSeq (cForO 7 (.one 10) (cSeq (cSet 11 (cK (.str "step")))
    (cSeq (cIfS (toT (cCall m__law_lets [(.nm 3), (.nm 6), (.nm 10), (.nm 4)])) (cSet 11 (cCall m__law_after [(.nm 6), (.nm 10)])) cNext)
    (cIfS (toT (cOp2 oNe (.ex (cOpN oRepr [(.ex (cCall m__law_told_v3 [(.nm 3), (.nm 6), (.nm 10), (.nm 4)]))])) (.ex (cOpN oRepr [(.nm 11)])))) (cRet (cK (.bool false))) cNext))))
    (cFor (.one 12) (iSeq (cCallI m__law_no_step 2 [(.ex (cOpN oLen [(.nm 3)]))])) (cIfS (toT (cOp2 oNe (.ex (cCall m__law_told_v3 [(.nm 3), (.nm 6), (.nm 12), (.nm 4)])) (.ex (cK (.str "step"))))) (cRet (cK (.bool false))) cNext))))))
    (cSeq (cSet 13 (cCallI m__law_no_lay 2 [(.ex (cOpN oLen [(.nm 3)]))]))
    (cIfS (cOrT (toT (cOp2 oNe (.ex (cCall m__law_told_v3 [(.nm 3), (.nm 13), (.ex (cTup [(.ex (cK (.str "put"))), (.ex (cK (.int 0)))])), (.nm 4)])) (.ex (cK (.str "lay"))))) (toT (cOp2 oNe (.ex (cCall m__law_told_v3 [(.nm 3), (.nm 13), (.ex (cK .none)), (.nm 4)])) (.ex (cK (.str "lay")))))) (cRet (cK (.bool false))) cNext))))))))
    (cRet (cK (.bool true))))
def m_law_v8 : Fn := runDef 14 c_law_v8
theorem pick (ds : List PyData) (b n : Int) (h : (ds.length : Int) = n) (hn : 0 < n) : ∃ x ∈ ds, atI ds (b % n) = some x := by
  have h1 := Int.emod_nonneg b (by omega : n ≠ 0)
  have h2 := Int.emod_lt_of_pos b hn
  obtain ⟨k, hk⟩ : ∃ k : Nat, b % n = (k : Int) := ⟨(b % n).toNat, by omega⟩
  rw [hk, atI_nat]
  have hl : k < ds.length := by omega
  exact ⟨ds[k], List.getElem_mem hl, List.getElem?_eq_getElem hl⟩
/-- a thing that is no number of a spot -/
def oddS (n : Nat) (x : PyData) : Prop := scrD x = false ∧ spotB n x = false ∧ okN x
theorem ev_lnospot (b : Int) (n : Nat) (hn : n ≤ 10) : ∃ c d, m__law_no_spot (.list [.int b]) [.int n] = .ok c d ∧ (∃ b' : Int, d = .list [.int b']) ∧ ∃ x, c = .frz x ∧ oddS n x := by
  apply runI_ex; intro K k
  have hp : (10 : Int) ^ (39 : Int).toNat = 10 ^ 39 := rfl
  have hpw : oPow (.int 10) (.int 39) = .val (.frz (.int (10 ^ 39))) := rfl
  simp [c__law_no_spot, ev_take, hpw]
  obtain ⟨x, hx, hat⟩ := pick [.int (n : Nat), .int (-1), .bool true, .bool false, .none, .str (Str.ofString "0"), .tuple [.int 0], .int ((n : Int) + b % 9), .int (10 ^ 39), .list [.int 0]] (b / 9) 10 rfl (by decide)
  have hq : oddS n x := by
    have h9 := Int.emod_nonneg b (by decide : (9 : Int) ≠ 0)
    have big : (n : Int) ≤ 10 ^ 39 := Int.le_trans (show (n : Int) ≤ 10 by omega) (by decide)
    simp only [List.mem_cons, List.not_mem_nil, or_false] at hx
    rcases hx with rfl | rfl | rfl | rfl | rfl | rfl | rfl | rfl | rfl | rfl
    all_goals refine ⟨rfl, ?_, rfl, ?_⟩
    all_goals first | (intro ds e; cases e; done) | (intro ds e; cases e; intro x hx; simp at hx; subst hx; rfl) | rfl | (simp [spotB]; done) | (simp [spotB]; omega) | (simp [spotB]; exact fun _ => big)
  have hat' : atI [.int (n : Int), .int (-1), .bool true, .bool false, .none, .str (Str.ofString "0"), .tuple [.int 0], .int ((n : Int) + b % 9), .int 1000000000000000000000000000000000000000, .list [.int 0]] (b / 9 % 10) = some x := hat
  simp [hat']
  exact k.rt _ _ _ rfl ⟨⟨_, rfl⟩, x, rfl, hq⟩
theorem w_Put : lookS wordsK (Str.ofString "Put") = none := by decide +kernel
theorem w_lay : lookS wordsK (Str.ofString "lay") = none := by decide +kernel
def noStep (n : Nat) (d : PyData) : Prop := okN d ∧ stepB n d = false
theorem noStep_t {n : Nat} {w : Str} {ds : List PyData} (h : ∀ x ∈ ds, scrD x = false) (hs : stepB n (.tuple (.str w :: ds)) = false) : noStep n (.tuple (.str w :: ds)) := by
  refine ⟨⟨rfl, fun ds' e x hx => ?_⟩, hs⟩
  cases e
  rcases List.mem_cons.mp hx with rfl | hx
  · rfl
  · exact h x hx
theorem stepB_cons (n : Nat) (w : Str) (d : PyData) (ds : List PyData) : stepB n (.tuple (.str w :: d :: ds)) = ((match lookS wordsK w with | some (.int k) => decide (k = ((ds.length + 2 : Nat) : Int)) | _ => false) && (d :: ds).all (spotB n)) := rfl
theorem noStep_s {n : Nat} {w : Str} {ds : List PyData} (h : ∀ x ∈ ds, scrD x = false) (hs : ds.all (spotB n) = false) : noStep n (.tuple (.str w :: ds)) := by
  refine noStep_t h ?_
  cases ds with
  | nil => rfl
  | cons d ds => rw [stepB_cons, hs, Bool.and_false]
theorem noStep_w {n : Nat} {w : Str} {ds : List PyData} (h : ∀ x ∈ ds, scrD x = false) (hs : ∀ k : Int, lookS wordsK w = some (.int k) → k ≠ ((ds.length + 1 : Nat) : Int)) : noStep n (.tuple (.str w :: ds)) := by
  refine noStep_t h ?_
  cases ds with
  | nil => rfl
  | cons d ds =>
    rw [stepB_cons]
    rcases lookS_words w with e | ⟨k, e⟩
    · rw [e]; rfl
    · rw [e]
      have := hs k e
      simp at this
      simp; intro z; omega
theorem ev_lnostep (b : Int) (n : Nat) (hn : n ≤ 10) : ∃ c d, m__law_no_step (.list [.int b]) [.int n] = .ok c d ∧ (∃ b' : Int, d = .list [.int b']) ∧ ∃ L, c = .own false (.list L) ∧ ∀ t ∈ L, noStep n t := by
  obtain ⟨c, d, hs, ⟨b2, rfl⟩, x, rfl, hx1, hx2, hx3⟩ := ev_lnospot b n hn
  apply runI_ex; intro K k
  simp [c__law_no_step, hs, lim]
  refine k.rt _ _ _ rfl ⟨⟨_, rfl⟩, _, rfl, ?_⟩
  have one : ∀ {w : Str} {t}, lookS wordsK w = some (.int t) → ∀ k : Int, lookS wordsK w = some (.int k) → k = t := fun h k h' => by rw [h] at h'; cases h'; rfl
  intro t ht
  simp only [List.mem_cons, List.not_mem_nil, or_false] at ht
  rcases ht with rfl | rfl | rfl | rfl | rfl | rfl | rfl | rfl | rfl | rfl | rfl | rfl | rfl | rfl | rfl
  · exact ⟨⟨rfl, fun _ e => by cases e⟩, rfl⟩
  · exact ⟨⟨rfl, fun _ e => by cases e; simp⟩, rfl⟩
  · exact noStep_w (by simp) fun k h => by rw [one look_put k h]; decide
  · exact noStep_w (by simp [scrD]) fun k h => by rw [one look_put k h]; decide
  · exact ⟨⟨rfl, fun _ e => by cases e⟩, rfl⟩
  · exact noStep_w (by simp [scrD]) fun k h => by rw [w_Put] at h; cases h
  · exact noStep_s (by simp [hx1]) (by simp [hx2])
  · exact noStep_s (by simp [hx1]) (by simp [hx2])
  · exact noStep_w (by simp [scrD]) fun k h => by rw [one look_slide k h]; decide
  · exact noStep_w (by simp [scrD]) fun k h => by rw [one look_slide k h]; decide
  · exact noStep_s (by simp [hx1]; rfl) (by simp [hx2])
  · exact ⟨⟨rfl, fun _ e => by cases e; simp [scrD]⟩, rfl⟩
  · exact ⟨⟨rfl, fun _ e => by cases e⟩, rfl⟩
  · exact noStep_w (by simp [scrD]) fun k h => by rw [w_lay] at h; cases h
  · exact noStep_s (by simp [hx1]) (by simp [hx2])
theorem ev_lnolay (b : Int) (n : Nat) (hn : n ≤ 10) : ∃ c d, m__law_no_lay (.list [.int b]) [.int n] = .ok c d ∧ (∃ b' : Int, d = .list [.int b']) ∧ ∃ x, c = .frz x ∧ okN x ∧ layB n x = false := by
  apply runI_ex; intro K k
  simp [c__law_no_lay, ev_take]
  obtain ⟨x, hx, hat⟩ := pick [.none, .list [.int 0], .tuple [.int (n : Nat)], .tuple [.int 0, .int 0], .tuple [.int 1, .int 0], .tuple [.int (-1)], .tuple [.bool true], .str (Str.ofString ""), .tuple [.str (Str.ofString "0")], .int 0, .dict [], .tuple [.tuple [.int 0]]] b 12 rfl (by decide)
  have hq : okN x ∧ layB n x = false := by
    simp only [List.mem_cons, List.not_mem_nil, or_false] at hx
    rcases hx with rfl | rfl | rfl | rfl | rfl | rfl | rfl | rfl | rfl | rfl | rfl | rfl
    all_goals refine ⟨⟨rfl, fun ds e => ?_⟩, ?_⟩
    all_goals first | (cases e; done) | (cases e; simp [scrD]; done) | rfl | (simp [layB, risingD])
  have hat' : atI [.none, .list [.int 0], .tuple [.int (n : Int)], .tuple [.int 0, .int 0], .tuple [.int 1, .int 0], .tuple [.int (-1)], .tuple [.bool true], .str (Str.ofString ""), .tuple [.str (Str.ofString "0")], .int 0, .dict [], .tuple [.tuple [.int 0]]] (b % 12) = some x := hat
  simp [hat']
  exact k.rt _ _ _ rfl ⟨⟨_, rfl⟩, x, rfl, hq⟩
/-! ### led -/
theorem ev_led {net : List (List Nat)} (hv : NetV net) {lay : List Nat} (hl : LayV net.length lay) (r : Rul) (st : Stp) (hi : st.inn net.length) (hf : letB net lay r st = true → st.fit) :
    m_led [netD net, laD lay, stD st, ruD r] = if letB net lay r st then .ok (.frz (laD (aft lay st))) else .ex (exc "NoStep") := by
  have htop : st.top < net.length := by cases st with | put s => exact hi | take s => exact hi | slide n s => exact hi.2
  have h10 := hv.ten
  have hln := hl.len
  cases hb : letB net lay r st with
  | true =>
    apply run_of; intro K kk
    simp [c_led, ev_need_lay hv hl r, ev_is_step hi, ev_is_let lay st r htop, hb, ev_behind lay st (hf hb) (by omega)]
    exact kk.rt _ _ rfl
  | false =>
    apply run_raise; intro K kk
    simp [c_led, ev_need_lay hv hl r, ev_is_step hi, ev_is_let lay st r htop, hb]
    exact kk.ex _ _ rfl
theorem ev_led_no {net : List (List Nat)} (hv : NetV net) {lay : List Nat} (hl : LayV net.length lay) (r : Rul) {d : PyData} (h : noStep net.length d) : m_led [netD net, laD lay, d, ruD r] = .ex (exc "NoStep") := by
  apply run_raise; intro K kk
  simp [c_led, ev_need_lay hv hl r, ev_isstep net h.1, h.2]
  exact kk.ex _ _ rfl
theorem ev_led_lay {net : List (List Nat)} (hv : NetV net) {x : PyData} (h : okN x) (hx : layB net.length x = false) (r : Rul) (d : PyData) : m_led [netD net, x, d, ruD r] = .ex (exc "NoLay") := by
  apply run_raise; intro K kk
  simp [c_led, ev_needlay_no hv h hx r]
  exact kk.ex _ _ rfl
theorem hm_NoStep : hmMarks ⟨"NoStep", none⟩ = some (.frz (.str "step")) := by simp [hmMarks, List.lookup_cons]
theorem hm_NoLay : hmMarks ⟨"NoLay", none⟩ = some (.frz (.str "lay")) := by simp [hmMarks, List.lookup_cons]
def caught (hm : Exc → Option Cell) : FR → FR
  | .ok x => .ok x.out
  | .ex x => match hm x with | some c => .ok c.out | none => .no
  | .no => .no
@[simp] theorem caught_ok (hm : Exc → Option Cell) (c : Cell) : caught hm (.ok c) = .ok c.out := rfl
@[simp] theorem caught_ex (hm : Exc → Option Cell) (x : Exc) : caught hm (.ex x) = match hm x with | some c => .ok c.out | none => .no := rfl
theorem told8 {a b c d : PyData} {m : FR} (h : m_led [a, b, c, d] = m) : m__law_told_v3 [a, b, c, d] = caught hmMarks m := by
  show runDef 5 c__law_told_v3 [a, b, c, d] = _
  unfold runDef c__law_told_v3
  simp [emps, h]
  cases m with
  | ok c => simp
  | ex x => simp; cases hmMarks x <;> rfl
  | no => rfl
theorem lays_last (p : List Stp) : atI (([] :: laysB [] p).map laD) (-1) = some (laD (lastB [] p)) := by
  have key : ∀ (p : List Stp) (lay : List Nat), (lay :: laysB lay p)[(lay :: laysB lay p).length - 1]? = some (lastB lay p) := by
    intro p
    induction p with
    | nil => intro lay; rfl
    | cons st p ih => intro lay; exact ih (aft lay st)
  have := atI_neg (([] :: laysB [] p).map laD) 1 (by decide) (by simp)
  rw [show (-1 : Int) = -((1 : Nat) : Int) from rfl, this, List.getElem?_map, List.length_map, key p []]; rfl
theorem comp_steps {n i : Nat} {c5 : Cell} {env : Cs} (w : Nat → Stp) (ce : CE) (h5 : gC i env = .own false (.list ((List.range n).map nD)) ∨ gC i env = .lck (.list ((List.range n).map nD))) (hi : i < 8) (hl : 8 < env.length) (hm : (gC 8 env).mine = false)
    (hs : ∀ e x, gC 8 e = .frz (.int (x : Nat)) → (∃ z, e = (env.set i z).set 8 (.frz (nD x)) ∨ e = env.set 8 (.frz (nD x))) → ce e = .ok (.frz (stD (w x))) e) :
    cCompO i (.one 8) tYesC ce [8] env = .ok (.own false (.list (((List.range n).map w).map stD))) env := by
  have g8 : ∀ (e : Cs) (c : Cell), 8 < e.length → gC 8 (e.set 8 c) = c := fun e c h => by rw [← getD_gC, List.getD_eq_getElem?_getD, List.getElem?_set_self h]; rfl
  rcases h5 with h5 | h5
  · have := compO_own (b := false) (i := i) (v := 8) (ct := tYesC) (ce := ce) (env := env) (f := nD) (xs := List.range n) (fun _ => true) (fun x => stD (w x)) h5 hl hm (by omega) (fun x hx => by
      refine ⟨rfl, fun _ => ?_⟩
      have q := hs ((env.set i (.lck (.list ((List.range n).map nD)))).set 8 (.frz (nD x))) x (g8 _ _ (by simpa using hl)) ⟨_, .inl rfl⟩
      rw [q]
      exact ⟨rfl, _, rfl⟩)
    rw [this]; simp
  · have := compO_ro (i := i) (v := 8) (ct := tYesC) (ce := ce) (env := env) (f := nD) (xs := List.range n) (fun _ => true) (fun x => stD (w x)) (.inr (.inr h5)) hl hm (by omega) (fun x hx => by
      refine ⟨rfl, fun _ => ?_⟩
      have q := hs (env.set 8 (.frz (nD x))) x (g8 _ _ hl) ⟨c5, .inr rfl⟩
      rw [q]
      exact ⟨rfl, _, rfl⟩)
    rw [this]; simp
theorem show_step : showOk (.str (Str.ofString "step")) = true := by decide +kernel
theorem law_true_08 (ns : List Int) : m_law_v8 [scriptD ns] = .ok (.frz (.bool true)) := by
  refine law_outer (by decide) (by decide) (fun js => ∃ (j1 j2 j3 j4 j5 j6 j7 : Jk) (j8 : Jm) (j9 j10 j11 j12 j13 : Jk), js = [j1.c, j2.c, j3.c, j4.c, j5.c, j6.c, j7.c, j8.c, j9.c, j10.c, j11.c, j12.c, j13.c]) ⟨jkE, jkE, jkE, jkE, jkE, jkE, jkE, jmE, jkE, jkE, jkE, jkE, jkE, rfl⟩ ?_
  rintro k hk js ⟨j1, j2, j3, j4, j5, j6, j7, j8, j9, j10, j11, j12, j13, rfl⟩ K' hnx hct
  obtain ⟨rr, hbox, b, rfl⟩ := ev_box ns k hk
  obtain ⟨rr, d, hnet, ⟨b2, rfl⟩, net, rfl, hok, h1, h2⟩ := ev_net b 6 (by decide) (by decide)
  have hv : NetV net := ⟨hok, h1, by omega⟩
  have h10 := hv.ten
  obtain ⟨r, hru⟩ := ev_lrules b2
  obtain ⟨c, d, hpl, ⟨b3, rfl⟩, p, rfl, hg, hplen⟩ := ev_lplay hv r (b2 / 3) 9 9 (by decide) (by decide) (.inl rfl)
  have hll := ev_llays hv r p hg (by omega)
  have hlast := lays_last p
  have hl1 : LayV net.length (lastB [] p) := goes_lay hok p [] (.nil _) hg
  generalize lastB [] p = l1 at hlast hl1
  generalize hLS : ([] :: laysB [] p).map laD = LS at hll hlast
  obtain ⟨c, d, hla, ⟨b4, rfl⟩, l2, rfl, hl2⟩ := ev_llay hv b3
  have hrg : rgL 0 (net.length : Int) = (List.range net.length).map nD := rgL_nat _
  simp [hbox, hnet, hru, hrg, hpl, hll, hlast, hla, show (-1000000 : Int) ≤ (net.length : Int) by omega, show (net.length : Int) ≤ 1000000 by omega]
  refine sat_forT (f := laD) (xs := [l1, l2]) (fun rest e => ∃ (b : Int) (j6 j7 : Jk) (j8 : Jm) (j9 j10 j11 j12 : Jk), e = [.frz (scriptD ns), .frz (.int k), .own false (.list [.int b]), .frz (netD net), .frz (ruD r), .own false (.list ((List.range net.length).map nD)), j6.c, j7.c, j8.c, j9.c, j10.c, j11.c, j12.c, j13.c] ∧ ∀ l ∈ rest, LayV net.length l)
    ⟨b4, j6, j7, j8, j9, j10, j11, j12, rfl, by simp [hl1, hl2]⟩ ?_ ?_
  · rintro l rest e ⟨b, j6, j7, j8, j9, j10, j11, j12, rfl, hr⟩ K2 L
    have hl := hr l List.mem_cons_self
    have hr2 : ∀ l ∈ rest, LayV net.length l := fun y hy => hr y (List.mem_cons_of_mem _ hy)
    have hln := hl.len
    have hc1 := comp_steps (n := net.length) (i := 5) (c5 := .emp) (env := [.frz (scriptD ns), .frz (.int k), .own false (.list [.int b]), .frz (netD net), .frz (ruD r), .own false (.list ((List.range net.length).map nD)), .frz (laD l), j7.c, j8.c, j9.c, j10.c, j11.c, j12.c, j13.c]) .put (cTup [.ex (cK (.str "put")), .ex (cVar 8)]) (.inl rfl) (by decide) (by simp) (by simp)
      (fun e x h8 he => by simp [h8, stD])
    have hc2 := comp_steps (n := net.length) (i := 5) (c5 := .emp) (env := [.frz (scriptD ns), .frz (.int k), .own false (.list [.int b]), .frz (netD net), .frz (ruD r), .own false (.list ((List.range net.length).map nD)), .frz (laD l), j7.c, j8.c, j9.c, j10.c, j11.c, j12.c, j13.c]) .take (cTup [.ex (cK (.str "take")), .ex (cVar 8)]) (.inl rfl) (by decide) (by simp) (by simp)
      (fun e x h8 he => by simp [h8, stD])
    simp [-List.map_map, hc1, hc2, lim, show net.length + net.length ≤ 1000000 by omega]
    rw [← List.map_append]
    refine sat_forOT (f := nD) (xs := List.range net.length) (fun rest e => ∃ (S : List Stp) (j8 : Jm) (j9 : Jk), e = [.frz (scriptD ns), .frz (.int k), .own false (.list [.int b]), .frz (netD net), .frz (ruD r), .lck (.list ((List.range net.length).map nD)), .frz (laD l), .own false (.list (S.map stD)), j8.c, j9.c, j10.c, j11.c, j12.c, j13.c] ∧ (∀ st ∈ S, st.inn net.length) ∧ S.length + rest.length * net.length ≤ 1000 ∧ ∀ x ∈ rest, x < net.length)
      ⟨_, j8, j9, rfl, ?_, ?_, by simp⟩ ?_ ?_
    · intro st hst
      simp at hst
      rcases hst with ⟨x, hx, rfl⟩ | ⟨x, hx, rfl⟩ <;> exact hx
    · simp
      have : net.length * net.length ≤ 10 * 10 := Nat.mul_le_mul h10 h10
      omega
    · rintro m rest e ⟨S, j8, j9, rfl, hS, hSl, hrm⟩ K3 L3
      have hm := hrm m List.mem_cons_self
      have hc3 := comp_steps (n := net.length) (i := 5) (c5 := .emp) (env := [.frz (scriptD ns), .frz (.int k), .own false (.list [.int b]), .frz (netD net), .frz (ruD r), .lck (.list ((List.range net.length).map nD)), .frz (laD l), .own false (.list (S.map stD)), j8.c, .frz (.int (m : Nat)), j10.c, j11.c, j12.c, j13.c]) (.slide m) (cTup [.ex (cK (.str "slide")), .ex (cVar 9), .ex (cVar 8)]) (.inr rfl) (by decide) (by simp) (by simp)
        (fun e x h8 he => by
          have h9 : gC 9 e = .frz (.int (m : Nat)) := by rcases he with ⟨z, rfl | rfl⟩ <;> simp
          simp [h8, h9, stD])
      rw [List.length_cons, Nat.add_mul, Nat.one_mul] at hSl
      simp [-List.map_map, hc3, lim, show S.length + net.length ≤ 1000000 by omega]
      rw [← List.map_append]
      refine L3.nx _ ⟨_, ⟨_, (by first | rfl | exact Jk.u _ | exact Jm.m _ | exact Jm.lck _ | simp | assumption)⟩, ⟨_, (by first | rfl | exact Jk.u _ | exact Jm.m _ | exact Jm.lck _ | simp | assumption)⟩, rfl, ?_, by simp; omega, fun x hx => hrm x (List.mem_cons_of_mem _ hx)⟩
      intro st hst
      rcases List.mem_append.mp hst with h | h
      · exact hS st h
      · simp at h; obtain ⟨x, hx, rfl⟩ := h; exact ⟨hm, hx⟩
    · rintro e ⟨S, j8, j9, rfl, hS, hSl, _⟩
      simp
      refine sat_forOT (f := stD) (xs := S) (fun rest e => ∃ (j10 j11 : Jk), e = [.frz (scriptD ns), .frz (.int k), .own false (.list [.int b]), .frz (netD net), .frz (ruD r), .own false (.list ((List.range net.length).map nD)), .frz (laD l), .lck (.list (S.map stD)), j8.c, j9.c, j10.c, j11.c, j12.c, j13.c] ∧ ∀ st ∈ rest, st.inn net.length)
        ⟨j10, j11, rfl, hS⟩ ?_ ?_
      · rintro st rest e ⟨j10, j11, rfl, hrs⟩ K3 L3
        have hst := hrs st List.mem_cons_self
        have htop : st.top < net.length := by cases st with | put s => exact hst | take s => exact hst | slide n s => exact hst.2
        have hfit : letB net l r st = true → st.fit := fun hb => by
          cases st with
          | put s => trivial
          | take s => trivial
          | slide n s =>
            have hn : n ∈ nds net s := by simp [letB] at hb; exact hb.2
            have := nds_lt hok hn
            show n ≠ s
            omega
        have hled := told8 (ev_led hv hl r st hst hfit)
        have hlets := ev_llets (net := net) l st r htop
        have haft := ev_lafter l st (lt_le hl.inc) (by omega)
        cases hb : letB net l r st with
        | true =>
          have hlay2 : LayV net.length (aft l st) := by
            refine hl.aft (r := r) hok ?_ hb
            unfold allSteps
            cases st with
            | put s => simp; exact hst
            | take s => simp; exact hst
            | slide n s =>
              have hn : n ∈ nds net s := by simp [letB] at hb; exact hb.2
              simp
              exact ⟨s, hst.2, n, hn, rfl, rfl⟩
          have hsm : showOk (laD (aft l st)) = true := show_tuple shN (fun n hn => Nat.lt_of_lt_of_le (hlay2.low n hn) (Nat.le_trans h10 (by decide))) (by have := hlay2.len; omega)
          simp [hb] at hled
          simp [hlets, hb, haft, hled, hsm, oNe_strs]
          exact L3.nx _ ⟨⟨_, (by first | rfl | exact Jk.u _ | exact Jm.m _ | exact Jm.lck _ | simp | assumption)⟩, ⟨_, (by first | rfl | exact Jk.u _ | exact Jm.m _ | exact Jm.lck _ | simp | assumption)⟩, rfl, fun y hy => hrs y (List.mem_cons_of_mem _ hy)⟩
        | false =>
          simp [hb, hm_NoStep] at hled
          simp [hlets, hb, hled, show_step, oNe_strs]
          exact L3.nx _ ⟨⟨_, (by first | rfl | exact Jk.u _ | exact Jm.m _ | exact Jm.lck _ | simp | assumption)⟩, ⟨_, (by first | rfl | exact Jk.u _ | exact Jm.m _ | exact Jm.lck _ | simp | assumption)⟩, rfl, fun y hy => hrs y (List.mem_cons_of_mem _ hy)⟩
      · rintro e ⟨j10, j11, rfl, _⟩
        obtain ⟨c, d, hns, ⟨b5, rfl⟩, T, rfl, hT⟩ := ev_lnostep b net.length h10
        simp [hns]
        rw [← List.map_id T]
        refine sat_for (f := id) (xs := T) (fun rest e => ∃ (j12 : Jk), e = [.frz (scriptD ns), .frz (.int k), .own false (.list [.int b5]), .frz (netD net), .frz (ruD r), .own false (.list ((List.range net.length).map nD)), .frz (laD l), .own false (.list (S.map stD)), j8.c, j9.c, j10.c, j11.c, j12.c, j13.c] ∧ ∀ t ∈ rest, noStep net.length t) ⟨j12, rfl, hT⟩ ?_ ?_
        · rintro t rest e ⟨j12, rfl, hrt⟩ K3 L3
          have hno := told8 (ev_led_no hv hl r (hrt t List.mem_cons_self))
          simp [hm_NoStep] at hno
          simp [hno, oNe_strs]
          exact L3.nx _ ⟨⟨_, (by first | rfl | exact Jk.u _ | exact Jm.m _ | exact Jm.lck _ | simp | assumption)⟩, rfl, fun y hy => hrt y (List.mem_cons_of_mem _ hy)⟩
        · rintro e ⟨j12, rfl, _⟩
          exact L.nx _ ⟨b5, ⟨_, (by first | rfl | exact Jk.u _ | exact Jm.m _ | exact Jm.lck _ | simp | assumption)⟩, ⟨_, (by first | rfl | exact Jk.u _ | exact Jm.m _ | exact Jm.lck _ | simp | assumption)⟩, j8, j9, j10, j11, j12, rfl, hr2⟩
  · rintro e ⟨b, j6, j7, j8, j9, j10, j11, j12, rfl, _⟩
    obtain ⟨c, d, hnl, ⟨b5, rfl⟩, x, rfl, hx1, hx2⟩ := ev_lnolay b net.length h10
    have t1 := told8 (ev_led_lay hv hx1 hx2 r (.tuple [.str (Str.ofString "put"), .int 0]))
    have t2 := told8 (ev_led_lay hv hx1 hx2 r .none)
    simp [hm_NoLay] at t1 t2
    simp [hnl, t1, t2, oNe_strs]
    exact hnx _ ⟨⟨_, (by first | rfl | exact Jk.u _ | exact Jm.m _ | exact Jm.lck _ | simp | assumption)⟩, ⟨_, (by first | rfl | exact Jk.u _ | exact Jm.m _ | exact Jm.lck _ | simp | assumption)⟩, ⟨_, (by first | rfl | exact Jk.u _ | exact Jm.m _ | exact Jm.lck _ | simp | assumption)⟩, ⟨_, (by first | rfl | exact Jk.u _ | exact Jm.m _ | exact Jm.lck _ | simp | assumption)⟩, ⟨_, (by first | rfl | exact Jk.u _ | exact Jm.m _ | exact Jm.lck _ | simp | assumption)⟩, j6, j7, j8, j9, j10, j11, j12, ⟨_, (by first | rfl | exact Jk.u _ | exact Jm.m _ | exact Jm.lck _ | simp | assumption)⟩, rfl⟩
end DL

/-! PRF: what is refused, function by function. -/
namespace DL
open PySem L2
def c__law_no_net : CS := (cSeq (cSet 1 (cLst [(.ex (cK .none)), (.ex (cTup [])), (.ex (cLst [(.ex (cTup []))])), (.ex (cTup [(.ex (cTup [(.ex (cK (.int 0)))]))])), (.ex (cTup [(.ex (cTup [])), (.ex (cTup [(.ex (cK (.int 1)))]))])), (.ex (cTup [(.ex (cTup [])), (.ex (cLst [(.ex (cK (.int 0)))]))])), (.ex (cTup [(.ex (cTup [])), (.ex (cTup [(.ex (cK (.bool true)))]))])), (.ex (cK (.str "0:"))), (.ex (cOp2 oMulT (.ex (cTup [(.ex (cTup []))])) (.ex (cK (.int 11))))), (.ex (cK (.int 5))), (.ex (cTup [(.ex (cTup [])), (.ex (cTup [(.ex (cNeg (.ex (cK (.int 1)))))]))])), (.ex cDict0)]))
    (cRet (cOp2 oIx (.nm 1) (.ex (cCallI m__law_take 0 [(.ex (cK (.int 12)))])))))
def m__law_no_net : Fm := runDefI 2 c__law_no_net
def c__law_no_rules : CS := (cSeq (cSet 1 (cLst [(.ex (cK .none)), (.ex (cK (.str ""))), (.ex (cK (.str "Plain"))), (.ex (cK (.str "plain "))), (.ex (cK (.str "put"))), (.ex (cK (.int 0))), (.ex (cK (.bool true))), (.ex (cTup [(.ex (cK (.str "plain")))])), (.ex (cLst [(.ex (cK (.str "slide")))])), (.ex (cDispI [("plain", 1)]))]))
    (cRet (cOp2 oIx (.nm 1) (.ex (cCallI m__law_take 0 [(.ex (cK (.int 10)))])))))
def m__law_no_rules : Fm := runDefI 2 c__law_no_rules
theorem ev_fw_net {x : PyData} (h : noNet x) (d r : PyData) : m_first_wrong [x, d, r] = .ex (exc "NoNet") := by
  apply run_raise; intro K kk
  simp [c_first_wrong, ev_neednet_no h]
  exact kk.ex _ _ rfl
theorem ev_fw_rules {net : List (List Nat)} (hv : NetV net) (d : PyData) {r : PyData} (hr : scrD r = false) (h : rulesB r = false) : m_first_wrong [netD net, d, r] = .ex (exc "NoRules") := by
  apply run_raise; intro K kk
  simp [c_first_wrong, ev_neednet hv, ev_needrules_no hr h]
  exact kk.ex _ _ rfl
def listB : PyData → Bool
  | .list _ => true
  | _ => false
theorem ev_fw_play {net : List (List Nat)} (hv : NetV net) (r : Rul) {d : PyData} (hd : scrD d = false) (h : listB d = false) : m_first_wrong [netD net, d, ruD r] = .ex (exc "NoPlay") := by
  apply run_raise; intro K kk
  cases d with
  | list ds => cases h
  | dict k => simp [c_first_wrong, ev_neednet hv, ev_need_rules r, isi_dict "list" k hd]; exact kk.ex _ _ rfl
  | _ => simp [c_first_wrong, ev_neednet hv, ev_need_rules r]; exact kk.ex _ _ rfl
theorem ev_lo_ex {a b c : PyData} {x : Exc} (h : m_first_wrong [a, b, c] = .ex x) : m_lays_of [a, b, c] = .ex x := by
  apply run_raise; intro K kk
  simp [c_lays_of, h]
  exact kk.ex _ _ rfl
theorem ev_lo_wrong {a b c d : PyData} (h : m_first_wrong [a, b, c] = .ok (.frz d)) (hd : oNotN d .none = .val (.frz (.bool true))) (hl : lowC (.frz d) = true) : m_lays_of [a, b, c] = .ex (exc "NoPlay") := by
  apply run_raise; intro K kk
  simp [c_lays_of, h, hd, hl]
  exact kk.ex _ _ rfl
theorem ev_so_ex {a b c : PyData} {x : Exc} (h : m_lays_of [a, b, c] = .ex x) : m_stones_of [a, b, c] = .ex x := by
  apply run_raise; intro K kk
  simp [c_stones_of, ev_comp, h]
  exact kk.ex _ _ rfl
theorem ev_co_ex {a b c : PyData} {x : Exc} (h : m_lays_of [a, b, c] = .ex x) : m_cost_of [a, b, c] = .ex x := by
  apply run_raise; intro K kk
  simp [c_cost_of, h]
  exact kk.ex _ _ rfl
theorem ev_sf_ex {a b c : PyData} {x : Exc} (h : m_need_lay [a, b, c] = .ex x) : m_steps_from [a, b, c] = .ex x := by
  apply run_raise; intro K kk
  simp [c_steps_from, h]
  exact kk.ex _ _ rfl
theorem ev_led_ex {a b c : PyData} {x : Exc} (d : PyData) (h : m_need_lay [a, b, c] = .ex x) : m_led [a, b, d, c] = .ex x := by
  apply run_raise; intro K kk
  simp [c_led, h]
  exact kk.ex _ _ rfl
theorem ev_mi_spot {a b : PyData} {x : Exc} (c d : PyData) (h : m_need_spot [a, b] = .ex x) : m_missed [a, b, c, d] = .ex x := by
  apply run_raise; intro K kk
  simp [c_missed, h]
  exact kk.ex _ _ rfl
theorem ev_mi_ex {a b c d : PyData} {x : Exc} (h : m_need_spot [a, b] = .ok (.frz .none)) (h2 : m_lays_of [a, c, d] = .ex x) : m_missed [a, b, c, d] = .ex x := by
  apply run_raise; intro K kk
  simp [c_missed, h, h2]
  exact kk.ex _ _ rfl
/-! ### what is drawn of it -/
theorem oMulT_11 : oMulT (.tuple [.tuple []]) (.int 11) = .val (.frz (.tuple (List.replicate 11 (.tuple [])))) := by rfl
theorem ev_lnonet (b : Int) : ∃ c d, m__law_no_net (.list [.int b]) [] = .ok c d ∧ (∃ b' : Int, d = .list [.int b']) ∧ ∃ x, c = .frz x ∧ noNet x := by
  apply runI_ex; intro K k
  simp [c__law_no_net, ev_take, oMulT_11]
  obtain ⟨x, hx, hat⟩ := pick [.none, .tuple [], .list [.tuple []], .tuple [.tuple [.int 0]], .tuple [.tuple [], .tuple [.int 1]], .tuple [.tuple [], .list [.int 0]], .tuple [.tuple [], .tuple [.bool true]], .str (Str.ofString "0:"), .tuple (List.replicate 11 (.tuple [])), .int 5, .tuple [.tuple [], .tuple [.int (-1)]], .dict []] b 12 rfl (by decide)
  have ok0 : okN (.tuple []) := ⟨rfl, fun ds e => by cases e; simp⟩
  have hq : noNet x := by
    simp only [List.mem_cons, List.not_mem_nil, or_false] at hx
    rcases hx with rfl | rfl | rfl | rfl | rfl | rfl | rfl | rfl | rfl | rfl | rfl | rfl
    · exact ⟨rfl, fun _ e => (by cases e), rfl⟩
    · exact ⟨rfl, fun _ e => (by cases e; simp), rfl⟩
    · exact ⟨rfl, fun _ e => (by cases e), rfl⟩
    · refine ⟨rfl, fun _ e d hd => ?_, rfl⟩
      cases e; simp at hd; subst hd; exact ⟨rfl, fun _ e => by cases e; simp [scrD]⟩
    · refine ⟨rfl, fun _ e d hd => ?_, rfl⟩
      cases e; simp at hd; rcases hd with rfl | rfl; exact ok0; exact ⟨rfl, fun _ e => by cases e; simp [scrD]⟩
    · refine ⟨rfl, fun _ e d hd => ?_, rfl⟩
      cases e; simp at hd; rcases hd with rfl | rfl; exact ok0; exact ⟨rfl, fun _ e => by cases e⟩
    · refine ⟨rfl, fun _ e d hd => ?_, rfl⟩
      cases e; simp at hd; rcases hd with rfl | rfl; exact ok0; exact ⟨rfl, fun _ e => by cases e; simp [scrD]⟩
    · exact ⟨rfl, fun _ e => (by cases e), rfl⟩
    · refine ⟨rfl, fun _ e d hd => ?_, rfl⟩
      cases e; rw [List.mem_replicate] at hd; rw [hd.2]; exact ok0
    · exact ⟨rfl, fun _ e => (by cases e), rfl⟩
    · refine ⟨rfl, fun _ e d hd => ?_, rfl⟩
      cases e; simp at hd; rcases hd with rfl | rfl; exact ok0; exact ⟨rfl, fun _ e => by cases e; simp [scrD]⟩
    · exact ⟨rfl, fun _ e => (by cases e), rfl⟩
  have hat' := hat
  simp only [List.replicate] at hat'
  simp [hat', List.replicate]
  first | exact k.rt _ _ _ rfl ⟨⟨_, rfl⟩, x, rfl, hq⟩ | (simp [hat]; exact k.rt _ _ _ rfl ⟨⟨_, rfl⟩, x, rfl, hq⟩)
theorem ev_lnorules (b : Int) : ∃ c d, m__law_no_rules (.list [.int b]) [] = .ok c d ∧ (∃ b' : Int, d = .list [.int b']) ∧ ∃ x, c = .frz x ∧ scrD x = false ∧ rulesB x = false := by
  apply runI_ex; intro K k
  simp [c__law_no_rules, ev_take]
  obtain ⟨x, hx, hat⟩ := pick [.none, .str (Str.ofString ""), .str (Str.ofString "Plain"), .str (Str.ofString "plain "), .str (Str.ofString "put"), .int 0, .bool true, .tuple [.str (Str.ofString "plain")], .list [.str (Str.ofString "slide")], dispI [(Str.ofString "plain", 1)]] b 10 rfl (by decide)
  have hq : scrD x = false ∧ rulesB x = false := by
    simp only [List.mem_cons, List.not_mem_nil, or_false] at hx
    rcases hx with rfl | rfl | rfl | rfl | rfl | rfl | rfl | rfl | rfl | rfl <;> refine ⟨rfl, ?_⟩ <;> first | rfl | decide +kernel
  simp [hat]
  exact k.rt _ _ _ rfl ⟨⟨_, rfl⟩, x, rfl, hq.1, hq.2⟩
end DL

/-! PGP: plays of any data. -/
namespace DL
open PySem L2
theorem strW {w : Str} {k : Int} (h : lookS wordsK w = some (.int k)) : (w = "put" ∧ k = 2) ∨ (w = "take" ∧ k = 2) ∨ (w = "slide" ∧ k = 3) := by
  unfold wordsK at h
  simp only [lookS] at h
  split at h
  · rename_i e; cases h; exact .inl ⟨by first | exact e | exact e.symm, rfl⟩
  · split at h
    · rename_i e; cases h; exact .inr (.inl ⟨by first | exact e | exact e.symm, rfl⟩)
    · split at h
      · rename_i e; cases h; exact .inr (.inr ⟨by first | exact e | exact e.symm, rfl⟩)
      · cases h
theorem spotB_of {n : Nat} {d : PyData} (h : spotB n d = true) : ∃ s : Nat, d = .int (s : Nat) ∧ s < n := by
  cases d with
  | int i =>
    have h : (decide (0 ≤ i) && decide (i < (n : Int))) = true := h
    simp at h
    exact ⟨i.toNat, by rw [Int.toNat_of_nonneg h.1], by omega⟩
  | _ => cases h
theorem stepB_of {n : Nat} {d : PyData} (h : stepB n d = true) : ∃ st : Stp, d = stD st ∧ st.inn n := by
  cases d with
  | tuple ds =>
    match ds, h with
    | [], h => cases h
    | [w], h => cases w <;> cases h
    | w :: d :: ds, h =>
      cases w with
      | str w =>
        rw [stepB_cons] at h
        rcases lookS_words w with e | ⟨k, e⟩
        · rw [e] at h; cases h
        · rw [e] at h
          rw [Bool.and_eq_true, decide_eq_true_eq] at h
          obtain ⟨hk, hall⟩ := h
          rw [List.all_cons, Bool.and_eq_true] at hall
          obtain ⟨s, rfl, hs⟩ := spotB_of hall.1
          rcases strW e with ⟨rfl, rfl⟩ | ⟨rfl, rfl⟩ | ⟨rfl, rfl⟩
          · have hl : ds = [] := List.length_eq_zero_iff.mp (by omega)
            subst hl; exact ⟨.put s, rfl, hs⟩
          · have hl : ds = [] := List.length_eq_zero_iff.mp (by omega)
            subst hl; exact ⟨.take s, rfl, hs⟩
          · obtain ⟨d2, rfl⟩ : ∃ d2, ds = [d2] := by
              match ds, hk with
              | [d2], _ => exact ⟨d2, rfl⟩
              | [], hk => simp at hk
              | _ :: _ :: _, hk => simp at hk; omega
            simp at hall
            obtain ⟨t, rfl, ht⟩ := spotB_of hall.2
            exact ⟨.slide s t, rfl, hs, ht⟩
      | _ => cases h
  | _ => cases h
theorem stepB_stD {n : Nat} {st : Stp} (h : st.inn n) : stepB n (stD st) = true := by
  have sp : ∀ s : Nat, s < n → spotB n (.int (s : Nat)) = true := fun s hs => by simp [spotB, hs]
  cases st with
  | put s => show stepB n (.tuple [.str "put", .int s]) = true; rw [stepB_cons, look_put]; simp [sp s h]
  | take s => show stepB n (.tuple [.str "take", .int s]) = true; rw [stepB_cons, look_take]; simp [sp s h]
  | slide m s => show stepB n (.tuple [.str "slide", .int m, .int s]) = true; rw [stepB_cons, look_slide]; simp [sp s h.2, sp m h.1]
theorem stD_inj {a b : Stp} (h : stD a = stD b) : a = b := by
  have np : (Str.ofString "put") ≠ Str.ofString "take" := fun e => by have := ne_put_take; rw [e] at this; simp at this
  cases a <;> cases b <;> simp [stD] at h
  · simp only [Stp.put.injEq]; omega
  · exact (np h.1).elim
  · exact (np h.1.symm).elim
  · simp only [Stp.take.injEq]; omega
  · simp only [Stp.slide.injEq]; omega
/-- a step that is let, of a fitting net, is one of all steps -/
theorem inn_all {net : List (List Nat)} {lay : List Nat} {r : Rul} {st : Stp} (h : st.inn net.length) (hb : letB net lay r st = true) : st ∈ allSteps net := by
  unfold allSteps
  cases st with
  | put s => simp; exact h
  | take s => simp; exact h
  | slide n s =>
    have hn : n ∈ nds net s := by simp [letB] at hb; exact hb.2
    simp; exact ⟨s, h.2, n, hn, rfl, rfl⟩
theorem inn_top {n : Nat} {st : Stp} (h : st.inn n) : st.top < n := by cases st with | put s => exact h | take s => exact h | slide m s => exact h.2
noncomputable def decS (n : Nat) (d : PyData) : Option Stp := by
  classical
  exact if h : stepB n d = true then some (Classical.choose (stepB_of h)) else none
theorem decS_some {n : Nat} {st : Stp} (h : st.inn n) : decS n (stD st) = some st := by
  unfold decS
  have e := stepB_stD h
  rw [dif_pos e]
  exact congrArg some (stD_inj (Classical.choose_spec (stepB_of e)).1.symm)
theorem decS_none {n : Nat} {d : PyData} (h : stepB n d = false) : decS n d = none := by
  unfold decS; rw [dif_neg (by rw [h]; exact Bool.false_ne_true)]
/-- the first thing wrong -/
noncomputable def wrongG (net : List (List Nat)) (r : Rul) : List Nat → List PyData → Nat → PyData
  | _, [], _ => .none
  | lay, d :: ds, k => match decS net.length d with
    | none => .tuple [.str "form", .int (k : Nat)]
    | some st => if letB net lay r st then wrongG net r (aft lay st) ds (k + 1) else .tuple [.str "rule", .int (k : Nat)]
theorem wrongG_none {net : List (List Nat)} {r : Rul} {lay : List Nat} {d : PyData} {ds : List PyData} {k : Nat} (h : stepB net.length d = false) : wrongG net r lay (d :: ds) k = .tuple [.str "form", .int (k : Nat)] := by
  unfold wrongG; rw [decS_none h]
theorem wrongG_step {net : List (List Nat)} {r : Rul} {lay : List Nat} {st : Stp} {ds : List PyData} {k : Nat} (h : st.inn net.length) : wrongG net r lay (stD st :: ds) k = if letB net lay r st then wrongG net r (aft lay st) ds (k + 1) else .tuple [.str "rule", .int (k : Nat)] := by
  show (match decS net.length (stD st) with | none => _ | some st => _) = _
  rw [decS_some h]
theorem ev_fw {net : List (List Nat)} (hv : NetV net) (r : Rul) (ds : List PyData) (hd : ∀ d ∈ ds, okN d) : m_first_wrong [netD net, .list ds, ruD r] = .ok (.frz (wrongG net r [] ds 0)) := by
  have h10 := hv.ten
  apply run_of; intro K kk
  simp [c_first_wrong, ev_neednet hv, ev_need_rules, enumD_zip]
  refine sat_forT (fun rest e => ∃ (lay : List Nat) (k : Nat) (j4 j5 : Jk), e = [.frz (netD net), .frz (.list ds), .frz (ruD r), .frz (laD lay), j4.c, j5.c] ∧ LayV net.length lay ∧ ∃ q, rest = q.zipIdx k ∧ (∀ d ∈ q, okN d) ∧ wrongG net r lay q k = wrongG net r [] ds 0) ⟨[], 0, jkE, jkE, rfl, .nil _, ds, rfl, hd, rfl⟩ ?_ ?_
  · rintro ⟨d, i⟩ rest e ⟨lay, k, j4, j5, rfl, hlay, q, hq, hok, hw⟩ K' L
    cases q with
    | nil => cases hq
    | cons y q =>
      rw [List.zipIdx_cons] at hq
      injection hq with h1 h2
      cases h1
      have hy := hok d List.mem_cons_self
      cases hs : stepB net.length d with
      | false =>
        rw [wrongG_none hs] at hw
        simp [ev_isstep net hy, hs]
        exact L.rt _ _ (kk.rt _ _ (by rw [← hw]; rfl))
      | true =>
        obtain ⟨st, rfl, hin⟩ := stepB_of hs
        rw [wrongG_step hin] at hw
        have htop := inn_top hin
        cases hb : letB net lay r st with
        | false =>
          rw [hb] at hw
          simp [ev_isstep net hy, hs, ev_is_let lay st r htop, hb]
          exact L.rt _ _ (kk.rt _ _ (by rw [← hw]; rfl))
        | true =>
          rw [hb] at hw
          have hall := inn_all hin hb
          have hf := (allSteps_inn hv.ok hall).2
          have hln := hlay.len
          simp [ev_isstep net hy, hs, ev_is_let lay st r htop, hb, ev_behind lay st hf (by omega)]
          exact L.nx _ ⟨aft lay st, i + 1, ⟨_, (by first | rfl | exact Jk.u _ | exact Jm.m _ | exact Jm.lck _ | simp | assumption)⟩, ⟨_, (by first | rfl | exact Jk.u _ | exact Jm.m _ | exact Jm.lck _ | simp | assumption)⟩, rfl, hlay.aft hv.ok hall hb, q, h2, fun y hy => hok y (List.mem_cons_of_mem _ hy), hw⟩
  · rintro e ⟨lay, k, j4, j5, rfl, hlay, q, hq, hok, hw⟩
    have hq0 : q = [] := by cases q with | nil => rfl | cons y q => cases hq
    subst hq0
    simp
    exact kk.rt _ _ (by rw [← hw]; rfl)
theorem okN_st (st : Stp) : okN (stD st) := by
  cases st <;> exact ⟨rfl, fun ds e => by cases e; simp [scrD]⟩
/-- behind a good beginning -/
theorem wrongG_app {net : List (List Nat)} {r : Rul} (ds : List PyData) : ∀ (p : List Stp) (lay : List Nat) (k : Nat), (∀ st ∈ p, st.inn net.length) → goes net r lay p → wrongG net r lay (p.map stD ++ ds) k = wrongG net r (lastB lay p) ds (k + p.length)
  | [], _, _, _, _ => rfl
  | st :: p, lay, k, hi, g => by
    rw [List.map_cons, List.cons_append, wrongG_step (hi st List.mem_cons_self), if_pos g.2.1, wrongG_app ds p (aft lay st) (k + 1) (fun s hs => hi s (List.mem_cons_of_mem _ hs)) g.2.2]
    show _ = wrongG net r (lastB (aft lay st) p) ds (k + (st :: p).length)
    rw [List.length_cons, Nat.add_assoc, Nat.add_comm 1]
theorem goes_inn {net : List (List Nat)} {r : Rul} (hk : NetOk net) : ∀ (p : List Stp) (lay : List Nat), goes net r lay p → ∀ st ∈ p, st.inn net.length
  | [], _, _, _, h => by cases h
  | x :: p, lay, g, st, h => by
    rcases List.mem_cons.mp h with rfl | h
    · exact (allSteps_inn hk g.1).1
    · exact goes_inn hk p _ g.2.2 st h
theorem wrongG_not {net : List (List Nat)} {r : Rul} : ∀ (ds : List PyData) (lay : List Nat) (k : Nat), wrongG net r lay ds k = .none ∨ ∃ w j, wrongG net r lay ds k = .tuple [.str w, .int (j : Nat)]
  | [], _, _ => .inl rfl
  | d :: ds, lay, k => by
    unfold wrongG
    split
    · exact .inr ⟨_, _, rfl⟩
    · split
      · exact wrongG_not ds _ _
      · exact .inr ⟨_, _, rfl⟩
theorem lo_wrong {net : List (List Nat)} (hv : NetV net) (r : Rul) {ds : List PyData} (hd : ∀ d ∈ ds, okN d) (h : wrongG net r [] ds 0 ≠ .none) : m_lays_of [netD net, .list ds, ruD r] = .ex (exc "NoPlay") := by
  have e := ev_fw hv r ds hd
  rcases wrongG_not (net := net) (r := r) ds [] 0 with z | ⟨w, j, z⟩
  · exact (h z).elim
  · rw [z] at e; exact ev_lo_wrong e rfl rfl
end DL

/-! PHV: what the later laws draw: boxes, steps let, plays. -/
namespace DL
open PySem L2
def c__law_box_v2 : CS := (cSeq (cSet 2 (cOp2 oAdd (.ex (cOp2 oMul (.ex (cK (.int 7919))) (.nm 1))) (.ex (cK (.int 13)))))
    (cSeq (cIfS (toT (cOp2 oLt (.nm 1) (.ex (cOpN oLen [(.nm 0)])))) (cSet 2 (cOp2 oIx (.nm 0) (.nm 1))) cNext)
    (cSeq (cIfS (toT (cOp2 oEq (.ex (cOp2 oMod (.nm 2) (.ex (cK (.int 2))))) (.ex (cK (.int 0))))) (cRet (cLst [(.ex (cOp2 oFdiv (.nm 2) (.ex (cK (.int 2)))))])) cNext)
    (cSeq (cSet 3 (cK (.int 0)))
    (cSeq (cFor (.one 4) (iArgs rg1 [(.ex (cK (.int 16)))]) (cSeq (cSet 5 (cOp2 oMod (.ex (cOp2 oAdd (.ex (cOp2 oAdd (.ex (cOp2 oMul (.ex (cOp2 oMod (.nm 2) (.ex (cK (.int 2147483647))))) (.ex (cK (.int 48271))))) (.ex (cOp2 oMul (.ex (cK (.int 7919))) (.nm 4))))) (.ex (cK (.int 1))))) (.ex (cK (.int 2147483647)))))
    (cSeq (cSet 5 (cOp2 oMod (.ex (cOp2 oMul (.nm 5) (.nm 5))) (.ex (cK (.int 2147483629)))))
    (cSet 3 (cOp2 oAdd (.ex (cOp2 oMul (.nm 3) (.ex (cK (.int 2147483647))))) (.ex (cOp2 oMod (.ex (cOp2 oMul (.nm 5) (.ex (cOp2 oAdd (.nm 5) (.ex (cK (.int 13))))))) (.ex (cK (.int 2147483647))))))))))
    (cRet (cLst [(.ex (cVar 3))])))))))
def m__law_box_v2 : Fn := runDef 6 c__law_box_v2
def c__law_lets_v2 : CS := (cSeq (cSet 3 (cComp (.one 4) (iArgs rg1 [(.ex (cOpN oLen [(.nm 0)]))]) (cAndT (toT (cOp2 (oIn true) (.nm 4) (.nm 1))) (toT (cOpN oAll [(.ex (cComp (.one 5) (iSeq (cOp2 oIx (.nm 0) (.nm 4))) tYesC (cOp2 (oIn false) (.nm 5) (.nm 1)) [5]))]))) (cVar 4) [4]))
    (cSeq (cSet 6 (cCompO 3 (.one 4) tYesC (cTup [(.ex (cK (.str "put"))), (.ex (cVar 4))]) [4]))
    (cSeq (cSet 7 (cCompO 1 (.one 4) (cOrT (toT (cOp2 oNe (.nm 2) (.ex (cK (.str "careful"))))) (toT (cOpN oAll [(.ex (cComp (.one 5) (iSeq (cOp2 oIx (.nm 0) (.nm 4))) tYesC (cOp2 (oIn false) (.nm 5) (.nm 1)) [5]))]))) (cVar 4) [4]))
    (cSeq (cSet 6 (cOp2 oAdd (.nm 6) (.ex (cCompO 7 (.one 4) tYesC (cTup [(.ex (cK (.str "take"))), (.ex (cVar 4))]) [4]))))
    (cSeq (cIfS (toT (cOp2 oEq (.nm 2) (.ex (cK (.str "slide"))))) (cForO 3 (.one 4) (cSet 6 (cOp2 oAdd (.nm 6) (.ex (cComp (.one 5) (iSeq (cOp2 oIx (.nm 0) (.nm 4))) tYesC (cTup [(.ex (cK (.str "slide"))), (.ex (cVar 5)), (.ex (cVar 4))]) [5]))))) cNext)
    (cRet (cMove 6)))))))
def m__law_lets_v2 : Fn := runDef 8 c__law_lets_v2
def c__law_behind : CS := (cSeq (cSet 2 (cCompO 0 (.one 3) (cOrT (toT (cOp2 oNe (.nm 3) (.ex (cOp2 oIx (.nm 1) (.ex (cK (.int 1))))))) (toT (cOp2 oEq (.ex (cOp2 oIx (.nm 1) (.ex (cK (.int 0))))) (.ex (cK (.str "put")))))) (cVar 3) [3]))
    (cSeq (cIfS (toT (cOp2 oNe (.ex (cOp2 oIx (.nm 1) (.ex (cK (.int 0))))) (.ex (cK (.str "take"))))) (cDrop (cMethT "list" mAppend 2 [(.ex (cOp2 oIx (.nm 1) (.ex (cNeg (.ex (cK (.int 1)))))))])) cNext)
    (cRet (cOpN oTuple [(.ex (cOpN oSortedA [(.nm 2)]))]))))
def m__law_behind : Fn := runDef 4 c__law_behind
def c__law_play_v2 : CS := (cSeq (cSet 4 (cTup []))
    (cSeq (cSet 5 (cLst []))
    (cSeq (cFor (.one 6) (iArgs rg1 [(.ex (cCallI m__law_take 0 [(.ex (cOp2 oAdd (.nm 3) (.ex (cK (.int 1)))))]))]) (cSeq (cSet 7 (cCall m__law_lets_v2 [(.nm 1), (.nm 4), (.nm 2)]))
    (cSeq (cSet 8 (cCompO 7 (.one 9) (toT (cOp2 oEq (.ex (cOp2 oIx (.nm 9) (.ex (cK (.int 0))))) (.ex (cK (.str "put"))))) (cVar 9) [9]))
    (cSeq (cIfS (cAndT (toT (cOp2 oNe (.nm 8) (.ex (cLst [])))) (toT (cOp2 oGt (.ex (cCallI m__law_take 0 [(.ex (cK (.int 3)))])) (.ex (cK (.int 0)))))) (cSet 7 (cVar 8)) cNext)
    (cIfS (toT (cOp2 oNe (.nm 7) (.ex (cLst [])))) (cSeq (cDrop (cMethT "list" mAppend 5 [(.ex (cOp2 oIx (.nm 7) (.ex (cCallI m__law_take 0 [(.ex (cOpN oLen [(.nm 7)]))]))))]))
    (cSet 4 (cCall m__law_behind [(.nm 4), (.ex (cOp2 oIx (.nm 5) (.ex (cNeg (.ex (cK (.int 1)))))))]))) cNext)))))
    (cRet (cMove 5)))))
def m__law_play_v2 : Fm := runDefI 10 c__law_play_v2
def c__law_lays_v2 : CS := (cSeq (cSet 1 (cLst [(.ex (cTup []))]))
    (cSeq (cForO 0 (.one 2) (cDrop (cMethT "list" mAppend 1 [(.ex (cCall m__law_behind [(.ex (cOp2 oIx (.nm 1) (.ex (cNeg (.ex (cK (.int 1))))))), (.nm 2)]))])))
    (cRet (cMove 1))))
def m__law_lays_v2 : Fn := runDef 3 c__law_lays_v2
theorem ev_box2 (ns : List Int) (k : Nat) (hk : k < 1000) : ∃ r, m__law_box_v2 [scriptD ns, .int k] = .ok r ∧ ∃ i : Int, r = .own false (.list [.int i]) := by
  have hm1 : ∀ x : Int, small (x % 2147483647) = true := fun x => small_of (by omega) (by omega)
  have hm2 : ∀ x : Int, small (x % 2147483629) = true := fun x => small_of (by omega) (by omega)
  have h1 : small 7919 = true := by decide
  have h2 : small 48271 = true := by decide
  have h3 : small 2147483647 = true := by decide
  have hix : ∀ c, (if k < ns.length then ns[k]? else some c) = some ((if k < ns.length then ns[k]?.getD 0 else c)) := fun c => by
    split
    · rename_i h; rw [List.getElem?_eq_getElem h]; rfl
    · rfl
  apply run_ex; intro K kk
  unfold c__law_box_v2
  generalize hA : cSeq (cIfS (toT (cOp2 oEq _ _)) _ _) _ = A
  have key : ∀ c : Int, (A [.frz (scriptD ns), .frz (.int k), .frz (.int c), .emp, .emp, .emp]).sat K := by
    intro c
    rw [← hA]
    simp [rgD0]
    refine ⟨fun _ => kk.rt _ _ ⟨_, rfl⟩, fun _ => ?_⟩
    refine sat_forT (fun rest e => ∃ (i : Int) (j4 j5 : Jk), e = [.frz (scriptD ns), .frz (.int k), .frz (.int c), .frz (.int i), j4.c, j5.c]) ⟨0, jkE, jkE, rfl⟩ ?_ ?_
    · rintro x rest e ⟨i, j4, j5, rfl⟩ K' L
      simp [h1, h2, h3, hm1, hm2]
      exact L.nx _ ⟨_, ⟨_, (by first | rfl | exact Jk.u _ | exact Jm.m _ | exact Jm.lck _ | simp | assumption)⟩, ⟨_, (by first | rfl | exact Jk.u _ | exact Jm.m _ | exact Jm.lck _ | simp | assumption)⟩, rfl⟩
    · rintro e ⟨i, j4, j5, rfl⟩
      simp
      exact kk.rt _ _ ⟨_, rfl⟩
  by_cases hl : k < ns.length
  · have := key ns[k]
    simp [h1]
    simp [scriptD, atI_nat, hl] at this ⊢
    first | exact ⟨this, fun h => by omega⟩ | exact fun _ => this
  · have := key (7919 * k + 13)
    simp [h1]
    simp [scriptD, atI_nat, hl] at this ⊢
    first | exact ⟨this, fun h => by omega⟩ | exact fun _ => this
theorem gC_ne {i j : Nat} {env : Cs} {c : Cell} (h : i ≠ j) : gC i (env.set j c) = gC i env := by
  rw [← getD_gC, ← getD_gC, List.getD_eq_getElem?_getD, List.getD_eq_getElem?_getD, List.getElem?_set_ne (Ne.symm h)]
theorem gC_eq {j : Nat} {env : Cs} {c : Cell} (h : j < env.length) : gC j (env.set j c) = c := by
  rw [← getD_gC, List.getD_eq_getElem?_getD, List.getElem?_set_self h]; rfl
theorem ev_behind2 (lay : List Nat) (st : Stp) (hp : lay.Pairwise (· ≤ ·)) (hl : lay.length < 1000) : m__law_behind [laD lay, stD st] = .ok (.frz (laD (aft lay st))) := by
  apply run_of; intro K kk
  have hlen : ∀ p : Nat → Bool, (lay.filter p).length < 1000000 := fun p => Nat.lt_of_le_of_lt (List.length_filter_le _ _) (by omega)
  cases st with
  | put s =>
    have hc := compO_ro (i := 0) (v := 3) (ct := cOrT (toT (cOp2 oNe (.nm 3) (.ex (cOp2 oIx (.nm 1) (.ex (cK (.int 1))))))) (toT (cOp2 oEq (.ex (cOp2 oIx (.nm 1) (.ex (cK (.int 0))))) (.ex (cK (.str "put")))))) (ce := cVar 3) (env := [.frz (laD lay), .frz (stD (.put s)), .emp, .emp]) (f := nD) (xs := lay) (fun x => true) nD
      (.inr (.inl rfl)) (by simp) (by simp) (by decide) (fun x hx => by simp)
    simp only [stD] at hc
    simp [c__law_behind, stD, hc, lim, show lay.length < 1000000 by omega]
    exact kk.rt _ _ (by simp; rfl)
  | take s =>
    have hc := compO_ro (i := 0) (v := 3) (ct := cOrT (toT (cOp2 oNe (.nm 3) (.ex (cOp2 oIx (.nm 1) (.ex (cK (.int 1))))))) (toT (cOp2 oEq (.ex (cOp2 oIx (.nm 1) (.ex (cK (.int 0))))) (.ex (cK (.str "put")))))) (ce := cVar 3) (env := [.frz (laD lay), .frz (stD (.take s)), .emp, .emp]) (f := nD) (xs := lay) (fun x => !decide (x = s)) nD
      (.inr (.inl rfl)) (by simp) (by simp) (by decide) (fun x hx => by simp [Int.ofNat_inj])
    simp only [stD] at hc
    simp [c__law_behind, stD, hc, lim, hlen]
    exact kk.rt _ _ (by simp; rw [sortN_of_sorted (hp.filter _)]; rfl)
  | slide n s =>
    have hc := compO_ro (i := 0) (v := 3) (ct := cOrT (toT (cOp2 oNe (.nm 3) (.ex (cOp2 oIx (.nm 1) (.ex (cK (.int 1))))))) (toT (cOp2 oEq (.ex (cOp2 oIx (.nm 1) (.ex (cK (.int 0))))) (.ex (cK (.str "put")))))) (ce := cVar 3) (env := [.frz (laD lay), .frz (stD (.slide n s)), .emp, .emp]) (f := nD) (xs := lay) (fun x => !decide (x = n)) nD
      (.inr (.inl rfl)) (by simp) (by simp) (by decide) (fun x hx => by simp [Int.ofNat_inj])
    simp only [stD] at hc
    simp [c__law_behind, stD, hc, lim, hlen]
    exact kk.rt _ _ rfl
def putsV (net : List (List Nat)) (lay : List Nat) : List Nat := (List.range net.length).filter fun s => !lay.contains s && fullB net lay s
def takesV (net : List (List Nat)) (lay : List Nat) (r : Rul) : List Nat := lay.filter fun s => !decide (r = .careful) || fullB net lay s
def slidesV (net : List (List Nat)) (ps : List Nat) : List Stp := ps.flatMap fun s => (nds net s).map fun n => .slide n s
def letsV (net : List (List Nat)) (lay : List Nat) (r : Rul) : List Stp := (putsV net lay).map .put ++ (takesV net lay r).map .take ++ if r = .slide then slidesV net (putsV net lay) else []
theorem full_in {net : List (List Nat)} {lay : List Nat} {s : Nat} (hs : s < net.length) {env : Cs} (g0 : gC 0 env = .frz (netD net)) (g1 : gC 1 env = .frz (laD lay)) (g4 : gC 4 env = .frz (.int (s : Nat))) (h5 : 5 < env.length) (hm : (gC 5 env).mine = false) :
    cComp (.one 5) (iSeq (cOp2 oIx (.nm 0) (.nm 4))) tYesC (cOp2 (oIn false) (.nm 5) (.nm 1)) [5] env = .ok (.own false (.list ((nds net s).map fun n => .bool (lay.contains n)))) env := by
  have hc := comp1 (v := 5) (ci := iSeq (cOp2 oIx (.nm 0) (.nm 4))) (ct := tYesC) (ce := cOp2 (oIn false) (.nm 5) (.nm 1)) (env := env) (f := nD) (xs := nds net s) (fun _ => true) (fun n => .bool (lay.contains n))
    (by simp [g0, g4, atI_nat, nds_at hs]) h5 hm (fun x hx => by
      have e1 : gC 5 (env.set 5 (.frz (nD x))) = .frz (.int (x : Nat)) := gC_eq h5
      have e2 : gC 1 (env.set 5 (.frz (nD x))) = .frz (laD lay) := by rw [gC_ne (by decide), g1]
      simp only [nD_eq] at e1 e2
      simp [tYesC, e1, e2]
      exact ⟨_, rfl⟩)
  rw [filterT] at hc
  exact hc
theorem mem_letsV {net : List (List Nat)} (hk : NetOk net) {lay : List Nat} (hl : LayV net.length lay) {r : Rul} {st : Stp} : st ∈ letsV net lay r ↔ st.inn net.length ∧ letB net lay r st = true := by
  unfold letsV
  rw [List.mem_append, List.mem_append]
  constructor
  · rintro ((h | h) | h)
    · obtain ⟨s, hs, rfl⟩ := List.mem_map.mp h
      unfold putsV at hs
      rw [List.mem_filter] at hs
      exact ⟨List.mem_range.mp hs.1, hs.2⟩
    · obtain ⟨s, hs, rfl⟩ := List.mem_map.mp h
      unfold takesV at hs
      rw [List.mem_filter] at hs
      refine ⟨hl.low s hs.1, ?_⟩
      have h1 := hs.1; have h2 := hs.2
      simp [letB, h1] at h2 ⊢
      exact h2
    · split at h
      · rename_i hr
        unfold slidesV at h
        obtain ⟨s, hs, hn⟩ := List.mem_flatMap.mp h
        obtain ⟨n, hn2, rfl⟩ := List.mem_map.mp hn
        unfold putsV at hs
        rw [List.mem_filter] at hs
        have hs1 := List.mem_range.mp hs.1
        have := nds_lt hk hn2
        refine ⟨⟨by omega, hs1⟩, ?_⟩
        have h2 := hs.2
        simp [letB, hr, hn2] at h2 ⊢
        exact h2
      · cases h
  · rintro ⟨hi, hb⟩
    cases st with
    | put s =>
      refine .inl (.inl (List.mem_map.mpr ⟨s, ?_, rfl⟩))
      unfold putsV
      rw [List.mem_filter]
      exact ⟨List.mem_range.mpr hi, hb⟩
    | take s =>
      refine .inl (.inr (List.mem_map.mpr ⟨s, ?_, rfl⟩))
      unfold takesV
      rw [List.mem_filter]
      simp [letB] at hb ⊢
      exact ⟨hb.1, hb.2⟩
    | slide n s =>
      simp [letB] at hb
      have hr : r = .slide := hb.1.1
      refine .inr ?_
      rw [if_pos hr]
      unfold slidesV
      refine List.mem_flatMap.mpr ⟨s, ?_, List.mem_map.mpr ⟨n, hb.2, rfl⟩⟩
      unfold putsV
      rw [List.mem_filter]
      refine ⟨List.mem_range.mpr hi.2, ?_⟩
      simp
      exact hb.1.2
theorem putsV_lt {net : List (List Nat)} {lay : List Nat} {s : Nat} (h : s ∈ putsV net lay) : s < net.length := by
  unfold putsV at h; rw [List.mem_filter] at h; exact List.mem_range.mp h.1
theorem putsV_len (net : List (List Nat)) (lay : List Nat) : (putsV net lay).length ≤ net.length := by
  unfold putsV; have := List.length_filter_le (fun s => !lay.contains s && fullB net lay s) (List.range net.length); simpa using this
theorem slidesV_len {net : List (List Nat)} (hv : NetV net) : ∀ ps : List Nat, (slidesV net ps).length ≤ 10 * ps.length
  | [] => by simp [slidesV]
  | s :: ps => by
    have ih := slidesV_len hv ps
    have h : (nds net s).length ≤ 10 := by
      by_cases h : s < net.length
      · have := nds_len hv.ok s; have := hv.ten; omega
      · have e : nds net s = [] := by unfold nds; simp [List.getElem?_eq_none (by omega : net.length ≤ s)]
        rw [e]; simp
    unfold slidesV at ih ⊢
    rw [List.flatMap_cons, List.length_append, List.length_map, List.length_cons]; omega
theorem ev_lets2 {net : List (List Nat)} (hv : NetV net) {lay : List Nat} (hl : LayV net.length lay) (r : Rul) : m__law_lets_v2 [netD net, laD lay, ruD r] = .ok (.own false (.list ((letsV net lay r).map stD))) := by
  have h10 := hv.ten
  have hln := hl.len
  apply run_of; intro K kk
  have c1 := comp1 (v := 4) (ci := iArgs rg1 [.ex (cOpN oLen [.nm 0])]) (ct := cAndT (toT (cOp2 (oIn true) (.nm 4) (.nm 1))) (toT (cOpN oAll [.ex (cComp (.one 5) (iSeq (cOp2 oIx (.nm 0) (.nm 4))) tYesC (cOp2 (oIn false) (.nm 5) (.nm 1)) [5])]))) (ce := cVar 4)
    (env := [.frz (netD net), .frz (laD lay), .frz (ruD r), .emp, .emp, .emp, .emp, .emp]) (f := nD) (xs := List.range net.length) (fun s => !lay.contains s && fullB net lay s) nD
    (by simp [rgD0, show (-1000000 : Int) ≤ (net.length : Int) by omega, show (net.length : Int) ≤ 1000000 by omega]) (by simp) (by simp) (fun s hs => by
      have hs := List.mem_range.mp hs
      have hf := full_in hs (lay := lay) (env := [.frz (netD net), .frz (laD lay), .frz (ruD r), .emp, .frz (.int (s : Nat)), .emp, .emp, .emp]) rfl rfl rfl (by simp) rfl
      simp [hf, fullB])
  have c1' : cComp (.one 4) (iArgs rg1 [.ex (cOpN oLen [.nm 0])]) (cAndT (toT (cOp2 (oIn true) (.nm 4) (.nm 1))) (toT (cOpN oAll [.ex (cComp (.one 5) (iSeq (cOp2 oIx (.nm 0) (.nm 4))) tYesC (cOp2 (oIn false) (.nm 5) (.nm 1)) [5])]))) (cVar 4) [4] [.frz (netD net), .frz (laD lay), .frz (ruD r), .emp, .emp, .emp, .emp, .emp] = .ok (.own false (.list ((putsV net lay).map nD))) [.frz (netD net), .frz (laD lay), .frz (ruD r), .emp, .emp, .emp, .emp, .emp] := c1
  have hpl := putsV_len net lay
  have c2 := compO_own (b := false) (i := 3) (v := 4) (ct := tYesC) (ce := cTup [.ex (cK (.str "put")), .ex (cVar 4)]) (env := [.frz (netD net), .frz (laD lay), .frz (ruD r), .own false (.list ((putsV net lay).map nD)), .emp, .emp, .emp, .emp]) (f := nD) (xs := putsV net lay) (fun _ => true) (fun s => stD (.put s)) (by simp) (by simp) (by simp) (by decide) (fun s _ => by simp [tYesC, stD])
  have c3 := compO_ro (i := 1) (v := 4) (ct := cOrT (toT (cOp2 oNe (.nm 2) (.ex (cK (.str "careful"))))) (toT (cOpN oAll [.ex (cComp (.one 5) (iSeq (cOp2 oIx (.nm 0) (.nm 4))) tYesC (cOp2 (oIn false) (.nm 5) (.nm 1)) [5])]))) (ce := cVar 4)
    (env := [.frz (netD net), .frz (laD lay), .frz (ruD r), .own false (.list ((putsV net lay).map nD)), .emp, .emp, .own false (.list ((putsV net lay).map fun s => stD (.put s))), .emp]) (f := nD) (xs := lay) (fun s => !decide (r = .careful) || fullB net lay s) nD (.inr (.inl rfl)) (by simp) (by simp) (by decide) (fun s hs => by
      have hs := hl.low s hs
      have hf := full_in hs (lay := lay) (env := [.frz (netD net), .frz (laD lay), .frz (ruD r), .own false (.list ((putsV net lay).map nD)), .frz (.int (s : Nat)), .emp, .own false (.list ((putsV net lay).map fun s => stD (.put s))), .emp]) rfl rfl rfl (by simp) rfl
      simp [hf, fullB])
  have c3' : cCompO 1 (.one 4) (cOrT (toT (cOp2 oNe (.nm 2) (.ex (cK (.str "careful"))))) (toT (cOpN oAll [.ex (cComp (.one 5) (iSeq (cOp2 oIx (.nm 0) (.nm 4))) tYesC (cOp2 (oIn false) (.nm 5) (.nm 1)) [5])]))) (cVar 4) [4] [.frz (netD net), .frz (laD lay), .frz (ruD r), .own false (.list ((putsV net lay).map nD)), .emp, .emp, .own false (.list ((putsV net lay).map fun s => stD (.put s))), .emp] = .ok (.own false (.list ((takesV net lay r).map nD))) [.frz (netD net), .frz (laD lay), .frz (ruD r), .own false (.list ((putsV net lay).map nD)), .emp, .emp, .own false (.list ((putsV net lay).map fun s => stD (.put s))), .emp] := c3
  have htl : (takesV net lay r).length ≤ 10 := by unfold takesV; have := List.length_filter_le (fun s => !decide (r = .careful) || fullB net lay s) lay; omega
  generalize hT : takesV net lay r = T at c3' htl
  have hputs : ∀ s ∈ putsV net lay, s < net.length := fun s hs => putsV_lt hs
  generalize hP : putsV net lay = P at c1' c2 c3' hpl hputs
  have c4 := compO_own (b := false) (i := 7) (v := 4) (ct := tYesC) (ce := cTup [.ex (cK (.str "take")), .ex (cVar 4)]) (env := [.frz (netD net), .frz (laD lay), .frz (ruD r), .own false (.list (P.map nD)), .emp, .emp, .own false (.list (P.map fun s => stD (.put s))), .own false (.list (T.map nD))]) (f := nD) (xs := T) (fun _ => true) (fun s => stD (.take s)) (by simp) (by simp) (by simp) (by decide) (fun s _ => by simp [tYesC, stD])
  rw [filterT] at c2 c4
  have eA : (P.map fun s => stD (.put s)) ++ (T.map fun s => stD (.take s)) = (P.map Stp.put ++ T.map Stp.take).map stD := by simp [Function.comp_def]
  have hlet : letsV net lay r = (P.map Stp.put ++ T.map Stp.take) ++ if r = .slide then slidesV net P else [] := by unfold letsV; rw [hP, hT]
  rw [hlet] at kk
  simp [-List.map_map, -List.map_append, c__law_lets_v2, c1', c2, c3', c4, lim, show P.length + T.length ≤ 1000000 by omega, eA]
  refine ⟨fun hr => ?_, fun hr => ?_⟩
  · rw [if_pos hr] at kk
    refine sat_forOT (f := nD) (xs := P) (fun rest e => ∃ (pre : List Nat) (j4 j5 : Jm), e = [.frz (netD net), .frz (laD lay), .frz (ruD r), .lck (.list (P.map nD)), j4.c, j5.c, .own false (.list (((P.map Stp.put ++ T.map Stp.take) ++ slidesV net pre).map stD)), .own false (.list (T.map nD))] ∧ P = pre ++ rest) ⟨[], jmE, jmE, by simp [slidesV, jmE], rfl⟩ ?_ ?_
    · rintro s rest e ⟨pre, j4, j5, rfl, hpre⟩ K' L
      have hs : s < net.length := hputs s (by rw [hpre]; simp)
      have c5 := comp1 (v := 5) (ci := iSeq (cOp2 oIx (.nm 0) (.nm 4))) (ct := tYesC) (ce := cTup [.ex (cK (.str "slide")), .ex (cVar 5), .ex (cVar 4)]) (env := [.frz (netD net), .frz (laD lay), .frz (ruD r), .lck (.list (P.map nD)), .frz (.int (s : Nat)), j5.c, .own false (.list (((P.map Stp.put ++ T.map Stp.take) ++ slidesV net pre).map stD)), .own false (.list (T.map nD))]) (f := nD) (xs := nds net s) (fun _ => true) (fun n => stD (.slide n s))
        (by simp [atI_nat, nds_at hs]) (by simp) (by simp) (fun x hx => by simp [tYesC, stD])
      rw [filterT] at c5
      have hsl := slidesV_len hv pre
      have hprl : pre.length ≤ 10 := by have := congrArg List.length hpre; simp at this; omega
      have hnl := nds_len hv.ok s
      have e5 : (((P.map Stp.put ++ T.map Stp.take) ++ slidesV net pre).map stD) ++ (nds net s).map (fun n => stD (.slide n s)) = ((P.map Stp.put ++ T.map Stp.take) ++ slidesV net (pre ++ [s])).map stD := by
        simp [slidesV]
      generalize hA : ((P.map Stp.put ++ T.map Stp.take) ++ slidesV net pre).map stD = AA at c5 e5
      have hAl : AA.length ≤ 200 := by rw [← hA]; simp; omega
      simp [-List.map_map, -List.map_append, c5, lim, show AA.length + (nds net s).length ≤ 1000000 by omega, e5]
      exact L.nx _ ⟨pre ++ [s], ⟨.frz (.int (s : Nat)), rfl⟩, j5, by simp, by rw [hpre]; simp⟩
    · rintro e ⟨pre, j4, j5, rfl, hpre⟩
      rw [List.append_nil] at hpre
      subst hpre
      simp [-List.map_append]
      exact kk.rt _ _ (by simp)
  · rw [if_neg hr, List.append_nil] at kk
    exact kk.rt _ _ rfl
theorem letsV_len {net : List (List Nat)} (hv : NetV net) {lay : List Nat} (hl : LayV net.length lay) (r : Rul) : (letsV net lay r).length ≤ 120 := by
  have h10 := hv.ten
  have h1 := putsV_len net lay
  have h2 : (takesV net lay r).length ≤ 10 := by unfold takesV; have := List.length_filter_le (fun s => !decide (r = .careful) || fullB net lay s) lay; have := hl.len; omega
  have h3 := slidesV_len hv (putsV net lay)
  unfold letsV
  split <;> simp <;> omega
theorem lay_aft2 {net : List (List Nat)} (hv : NetV net) {lay : List Nat} {r : Rul} {st : Stp} (hl : LayV net.length lay) (h : st ∈ letsV net lay r) : LayV net.length (aft lay st) := by
  obtain ⟨h1, h2⟩ := (mem_letsV hv.ok hl).mp h
  exact hl.aft hv.ok (inn_all h1 h2) h2
theorem ev_play2 {net : List (List Nat)} (hv : NetV net) (r : Rul) (b : Int) (most : Nat) (h1 : most ≤ 100) :
    ∃ c d, m__law_play_v2 (.list [.int b]) [netD net, ruD r, .int (most : Nat)] = .ok c d ∧ (∃ b' : Int, d = .list [.int b']) ∧ ∃ p : List Stp, c = .own false (.list (p.map stD)) ∧ goes net r [] p ∧ p.length ≤ most := by
  have h10 := hv.ten
  have hb := Int.emod_nonneg b (show (most : Int) + 1 ≠ 0 by omega)
  have hb2 := Int.emod_lt_of_pos b (show 0 < (most : Int) + 1 by omega)
  obtain ⟨N, hN⟩ : ∃ N : Nat, b % ((most : Int) + 1) = (N : Int) := ⟨(b % ((most : Int) + 1)).toNat, by omega⟩
  apply runI_ex; intro K k
  simp [c__law_play_v2, ev_take b ((most : Int) + 1) (by omega) (by omega), hN, show -1000000 ≤ (N : Int) by omega, show (N : Int) ≤ 1000000 by omega, rgD0]
  refine sat_forT (fun rest e => ∃ (b : Int) (p : List Stp) (j6 j7 j8 : Jk) (j9 : Jm), e = [.own true (.list [.int b]), .frz (netD net), .frz (ruD r), .frz (.int (most : Nat)), .frz (laD (lastB [] p)), .own false (.list (p.map stD)), j6.c, j7.c, j8.c, j9.c] ∧ goes net r [] p ∧ p.length + rest.length ≤ N) ?_ ?_ ?_
  · exact ⟨_, [], jkE, jkE, jkE, jmE, rfl, trivial, by simp⟩
  · rintro x rest e ⟨b, p, j6, j7, j8, j9, rfl, hg, hlen⟩ K' L
    have hlay := goes_lay hv.ok p [] (.nil _) hg
    simp only [List.length_cons] at hlen
    have hlets := ev_lets2 hv hlay r
    have hmem : ∀ st, st ∈ letsV net (lastB [] p) r → st ∈ allSteps net ∧ letB net (lastB [] p) r st = true := fun st h => by
      obtain ⟨q1, q2⟩ := (mem_letsV hv.ok hlay).mp h; exact ⟨inn_all q1 q2, q2⟩
    have hsl := letsV_len hv hlay r
    have hll := hlay.len
    generalize letsV net (lastB [] p) r = S at hlets hmem hsl
    have hc := compO_own (b := false) (i := 7) (v := 9) (ct := toT (cOp2 oEq (.ex (cOp2 oIx (.nm 9) (.ex (cK (.int 0))))) (.ex (cK (.str "put"))))) (ce := cVar 9)
      (env := [.own true (.list [.int b]), .frz (netD net), .frz (ruD r), .frz (.int (most : Nat)), .frz (laD (lastB [] p)), .own false (.list (p.map stD)), .frz (.int x), .own false (.list (S.map stD)), j8.c, j9.c])
      (f := stD) (xs := S) (fun st => match st with | .put _ => true | _ => false) stD (by simp) (by simp) (by simp) (by decide) (fun st hst => by cases st <;> simp)
    generalize hS2 : S.filter (fun st => match st with | .put _ => true | _ => false) = S2 at hc
    have hmem2 : ∀ st ∈ S2, st ∈ S := fun st h => by rw [← hS2, List.mem_filter] at h; exact h.1
    have hsl2 : S2.length ≤ 120 := by rw [← hS2]; exact Nat.le_trans (List.length_filter_le _ _) hsl
    have fin : ∀ (T : List Stp) (b2 : Int) (c8 : Cell) (j7 : Cell), (∀ st ∈ T, st ∈ S) → T ≠ [] → T.length ≤ 120 → isLck c8 = false → (j7 = .own false (.list (T.map stD)) ∨ j7 = .frz (.list (T.map stD))) → 
        (SRes.sat K' (cSeq (cDrop (cMethT "list" mAppend 5 [(.ex (cOp2 oIx (.nm 7) (.ex (cCallI m__law_take 0 [(.ex (cOpN oLen [(.nm 7)]))]))))])) (cSet 4 (cCall m__law_behind [(.nm 4), (.ex (cOp2 oIx (.nm 5) (.ex (cNeg (.ex (cK (.int 1)))))))]))
          [.own true (.list [.int b2]), .frz (netD net), .frz (ruD r), .frz (.int (most : Nat)), .frz (laD (lastB [] p)), .own false (.list (p.map stD)), .frz (.int x), j7, c8, j9.c])) := by
      intro T b2 c8 j7 hT hne hTl h8 h7
      obtain ⟨st, hst, hat⟩ := pick_mem b2 hne
      obtain ⟨q1, q2⟩ := hmem st (hT st hst)
      have hbe := ev_behind2 (lastB [] p) st (lt_le hlay.inc) (by omega)
      have hlst : atI (p.map stD ++ [stD st]) (-1) = some (stD st) := by
        have := atI_neg (p.map stD ++ [stD st]) 1 (by decide) (by simp)
        rw [show (-1 : Int) = -((1 : Nat) : Int) from rfl, this]; simp
      have hTl0 : 0 < T.length := List.length_pos_iff.mpr hne
      rcases h7 with rfl | rfl
      · simp [ev_take, hTl0, show (T.length : Int) < 1073741824 by omega, hat, lim, show p.length < 1000000 by omega, hlst, hbe]
        exact L.nx _ ⟨b2 / (T.length : Int), p ++ [st], ⟨.frz (.int (x : Nat)), rfl⟩, ⟨.own false (.list (T.map stD)), rfl⟩, ⟨c8, h8⟩, j9, by rw [lastB_snoc]; simp, (goes_snoc st [] p).mpr ⟨hg, q1, q2⟩, by simp; omega⟩
      · simp [ev_take, hTl0, show (T.length : Int) < 1073741824 by omega, hat, lim, show p.length < 1000000 by omega, hlst, hbe]
        exact L.nx _ ⟨b2 / (T.length : Int), p ++ [st], ⟨.frz (.int (x : Nat)), rfl⟩, ⟨.frz (.list (T.map stD)), rfl⟩, ⟨c8, h8⟩, j9, by rw [lastB_snoc]; simp, (goes_snoc st [] p).mpr ⟨hg, q1, q2⟩, by simp; omega⟩
    generalize hA : cSeq (cDrop (cMethT "list" mAppend 5 _)) _ = A at fin
    have skip : ∀ (b2 : Int) (c7 c8 : Cell), isLck c7 = false → isLck c8 = false → K'.nx [.own true (.list [.int b2]), .frz (netD net), .frz (ruD r), .frz (.int (most : Nat)), .frz (laD (lastB [] p)), .own false (.list (p.map stD)), .frz (.int x), c7, c8, j9.c] := fun b2 c7 c8 h7 h8 =>
      L.nx _ ⟨b2, p, ⟨.frz (.int (x : Nat)), rfl⟩, ⟨c7, h7⟩, ⟨c8, h8⟩, j9, by simp, hg, by omega⟩
    by_cases hz2 : S2 = []
    · subst hz2
      by_cases hz : S = []
      · subst hz
        simp only [List.map_nil] at hc
        simp [hlets, hc]
        exact skip _ (.own false (.list [])) (.own false (.list [])) rfl rfl
      · simp [hlets, hc, hz]
        exact fin S _ _ _ (fun _ h => h) hz hsl rfl (.inl rfl)
    · have hz : S ≠ [] := fun z => by
        obtain ⟨st, hst⟩ := List.exists_mem_of_ne_nil _ hz2
        have := hmem2 st hst; rw [z] at this; cases this
      simp [hlets, hc, hz2, ev_take]
      refine ⟨fun _ => ?_, fun _ => ?_⟩
      · exact fin S2 _ _ _ hmem2 hz2 hsl2 rfl (.inr rfl)
      · refine ⟨fun _ => fin S _ _ _ (fun _ h => h) hz hsl ?_ (.inl rfl), fun h => absurd h hz⟩
        rfl
  · rintro e ⟨b, p, j6, j7, j8, j9, rfl, hg, hlen⟩
    simp
    exact k.rt _ _ _ rfl ⟨⟨_, rfl⟩, p, rfl, hg, by simp at hlen; omega⟩
theorem ev_lays2 {net : List (List Nat)} (hv : NetV net) (r : Rul) (p : List Stp) (hg : goes net r [] p) (hl : p.length < 1000) : m__law_lays_v2 [.list (p.map stD)] = .ok (.own false (.list (([] :: laysB [] p).map laD))) := by
  have h10 := hv.ten
  apply run_of; intro K kk
  simp [c__law_lays_v2]
  refine sat_forT (f := stD) (xs := p) (fun rest e => ∃ (pre : List Stp) (j2 : Jk), e = [.frz (.list (p.map stD)), .own false (.list (([] :: laysB [] pre).map laD)), j2.c] ∧ p = pre ++ rest) ⟨[], jkE, rfl, rfl⟩ ?_ ?_
  · rintro st rest e ⟨pre, j2, rfl, hp⟩ K' L
    have hg2 : goes net r [] (pre ++ [st] ++ rest) := by rw [List.append_assoc]; exact hp ▸ hg
    have goes_pre : ∀ (a b : List Stp) (lay : List Nat), goes net r lay (a ++ b) → goes net r lay a := by
      intro a
      induction a with
      | nil => intro _ _ _; trivial
      | cons x a ih => intro b lay h; exact ⟨h.1, h.2.1, ih b _ h.2.2⟩
    have hgs := (goes_snoc st [] pre).mp (goes_pre _ _ _ hg2)
    have hlay := goes_lay hv.ok pre [] (.nil _) hgs.1
    have hll := hlay.len
    have hbe := ev_behind2 (lastB [] pre) st (lt_le hlay.inc) (by omega)
    have hlast := lays_last pre
    have hlen : (laysB [] pre).length = pre.length := by
      have : ∀ (q : List Stp) (lay : List Nat), (laysB lay q).length = q.length := by
        intro q
        induction q with
        | nil => intro _; rfl
        | cons x q ih => intro lay; show (laysB _ q).length + 1 = _; rw [ih]; rfl
      exact this _ _
    have hpl : pre.length ≤ p.length := by rw [hp]; simp
    have hsn := laysB_snoc st [] pre
    generalize hLS : ([] :: laysB [] pre) = LS at hlast
    have hLl : LS.length ≤ 1000 := by rw [← hLS]; simp; omega
    simp [hlast, hbe, lim, show LS.length < 1000000 by omega]
    exact L.nx _ ⟨pre ++ [st], ⟨.frz (stD st), rfl⟩, by rw [hsn, ← List.cons_append, hLS]; simp, by rw [hp]; simp⟩
  · rintro e ⟨pre, j2, rfl, hp⟩
    rw [List.append_nil] at hp
    subst hp
    simp
    exact kk.rt _ _ rfl
end DL

/-! PK63: law 63. -/
namespace DL
open PySem L2
def c_is_clean : CS := (cSeq (cDrop (cCall m_need_spot [(.nm 0), (.nm 2)]))
    (cSeq (cDrop (cCall m_need_rules [(.nm 3)]))
    (cRet (cOp2 oEq (.ex (cOp2 oIx (.ex (cCall m_lays_of [(.nm 0), (.nm 1), (.nm 3)])) (.ex (cNeg (.ex (cK (.int 1))))))) (.ex (cTup [(.ex (cVar 2))]))))))
def m_is_clean : Fn := runDef 4 c_is_clean
def c__law_odd_v2 : CS := (cSeq (cSet 1 (cLst [(.ex (cK .none)), (.ex (cK (.bool true))), (.ex (cK (.bool false))), (.ex (cK (.str "1"))), (.ex (cK (.str ""))), (.ex (cTup [(.ex (cK (.int 1)))])), (.ex (cLst [(.ex (cK (.int 1)))])), (.ex (cDispI [("a", 1)])), (.ex (cTup [])), (.ex (cOp2 oPow (.ex (cK (.int 10))) (.ex (cK (.int 39))))), (.ex (cNeg (.ex (cK (.int 1))))), (.ex (cLst [(.ex (cK (.str "put")))])), (.ex (cTup [(.ex (cK (.str "put"))), (.ex (cK (.str "1")))])), (.ex (cK (.int 11)))]))
    (cRet (cOp2 oIx (.nm 1) (.ex (cCallI m__law_take 0 [(.ex (cK (.int 14)))])))))
def m__law_odd_v2 : Fm := runDefI 2 c__law_odd_v2
def c__law_told_v14 : CS := (cTry 4 hmPlaces (cRet (cCall m_is_clean [(.nm 0), (.nm 1), (.nm 2), (.nm 3)])))
def m__law_told_v14 : Fn := runDef 6 c__law_told_v14
def c_law_v46 : CS := (cSeq (cFor (.one 1) (iArgs rg1 [(.ex (cOpN oMax2 [(.ex (cK (.int 1))), (.ex (cOpN oMin2 [(.ex (cOpN oLen [(.nm 0)])), (.ex (cK (.int 3)))]))]))]) (cSeq (cSet 2 (cCall m__law_box_v2 [(.nm 0), (.nm 1)]))
    (cSeq (cSet 3 (cCallI m__law_net 2 [(.ex (cK (.int 7)))]))
    (cSeq (cSet 4 (cCallI m__law_rules 2 []))
    (cSeq (cSet 5 (cCallI m__law_play_v2 2 [(.ex (cVar 3)), (.ex (cVar 4)), (.ex (cK (.int 12)))]))
    (cSeq (cSet 6 (cOp2 oIx (.ex (cCall m__law_lays_v2 [(.nm 5)])) (.ex (cNeg (.ex (cK (.int 1)))))))
    (cSeq (cIfS (cAndT (toT (cOp2 oEq (.ex (cCallI m__law_take 2 [(.ex (cK (.int 2)))])) (.ex (cK (.int 1))))) (toT (cOp2 oNe (.nm 4) (.ex (cK (.str "careful")))))) (cSeq (cSet 7 (cCallI m__law_take 2 [(.ex (cOp2 oAdd (.ex (cOpN oLen [(.nm 6)])) (.ex (cK (.int 1)))))]))
    (cSeq (cSet 5 (cOp2 oAdd (.nm 5) (.ex (cComp (.one 8) (iArgs rg1 [(.ex (cOpN oLen [(.nm 6)]))]) (toT (cOp2 oNe (.nm 8) (.nm 7))) (cTup [(.ex (cK (.str "take"))), (.ex (cOp2 oIx (.nm 6) (.nm 8)))]) [8]))))
    (cSet 6 (cOp2 oIx (.ex (cCall m__law_lays_v2 [(.nm 5)])) (.ex (cNeg (.ex (cK (.int 1))))))))) cNext)
    (cSeq (cSet 9 (cOpN oList [(.nm 5)]))
    (cSeq (cFor (.one 10) (iArgs rg1 [(.ex (cOpN oLen [(.nm 3)]))]) (cSeq (cSet 11 (cCall m__law_told_v14 [(.nm 3), (.nm 9), (.nm 10), (.nm 4)]))
    (cIfS (cOrT (cNotT (toT (cIsi "bool" (.nm 11)))) (cOrT (toT (cOp2 oNe (.nm 11) (.ex (cOp2 oEq (.nm 6) (.ex (cTup [(.ex (cVar 10))])))))) (toT (cOp2 oNe (.nm 9) (.nm 5))))) (cRet (cK (.bool false))) cNext)))
    (cSeq (cSet 12 (cOp2 oIx (.ex (cLst [(.ex (cOp2 oAdd (.nm 5) (.ex (cLst [(.ex (cTup [(.ex (cK (.str "put"))), (.ex (cOpN oLen [(.nm 3)]))]))])))), (.ex (cK .none)), (.ex (cOpN oTuple [(.nm 5)])), (.ex (cOp2 oAdd (.nm 5) (.ex (cLst [(.ex (cK (.int 0)))]))))])) (.ex (cCallI m__law_take 2 [(.ex (cK (.int 4)))]))))
    (cSeq (cSet 10 (cCallI m__law_take 2 [(.ex (cOpN oLen [(.nm 3)]))]))
    (cSeq (cIfS (cOrT (toT (cOp2 oNe (.ex (cCall m__law_told_v14 [(.nm 3), (.nm 12), (.nm 10), (.nm 4)])) (.ex (cLst [(.ex (cK (.int 6)))])))) (toT (cOp2 oNe (.ex (cCall m__law_told_v14 [(.nm 3), (.nm 12), (.nm 10), (.ex (cK (.str "quick")))])) (.ex (cLst [(.ex (cK (.int 2)))]))))) (cRet (cK (.bool false))) cNext)
    (cIfS (cOrT (toT (cOp2 oNe (.ex (cCall m__law_told_v14 [(.nm 3), (.nm 12), (.ex (cOpN oLen [(.nm 3)])), (.ex (cK (.str "quick")))])) (.ex (cLst [(.ex (cK (.int 1)))])))) (toT (cOp2 oNe (.ex (cCall m__law_told_v14 [(.ex (cK .none)), (.nm 12), (.ex (cOpN oLen [(.nm 3)])), (.ex (cK (.str "quick")))])) (.ex (cLst [(.ex (cK (.int 0)))]))))) (cRet (cK (.bool false))) cNext)))))))))))))
    (cRet (cK (.bool true))))
def m_law_v46 : Fn := runDef 13 c_law_v46
theorem oEq_la1 (l : List Nat) (s : Nat) : oEq (laD l) (.tuple [.int (s : Nat)]) = .val (.frz (.bool (decide (l = [s])))) := oEq_tupleM (f := nD) l [s]
theorem told63 {a b c d : PyData} {m : FR} (h : m_is_clean [a, b, c, d] = m) : m__law_told_v14 [a, b, c, d] = caught hmPlaces m := by
  show runDef 6 c__law_told_v14 [a, b, c, d] = _
  unfold runDef c__law_told_v14
  simp [emps, h]
  cases m with
  | ok c => simp
  | ex x => simp; cases hmPlaces x <;> rfl
  | no => rfl
theorem hp_NoNet : hmPlaces ⟨"NoNet", none⟩ = some (.own false (.list [.int 0])) := by simp [hmPlaces, List.lookup_cons]
theorem hp_NoSpot : hmPlaces ⟨"NoSpot", none⟩ = some (.own false (.list [.int 1])) := by simp [hmPlaces, List.lookup_cons]
theorem hp_NoRules : hmPlaces ⟨"NoRules", none⟩ = some (.own false (.list [.int 2])) := by simp [hmPlaces, List.lookup_cons]
theorem hp_NoPlay : hmPlaces ⟨"NoPlay", none⟩ = some (.own false (.list [.int 6])) := by simp [hmPlaces, List.lookup_cons]
theorem ev_clean {net : List (List Nat)} (hv : NetV net) (r : Rul) (p : List Stp) (hg : goes net r [] p) (hl : p.length < 1000) (s : Nat) (hs : s < net.length) : m_is_clean [netD net, .list (p.map stD), .int s, ruD r] = .ok (.frz (.bool (decide (lastB [] p = [s])))) := by
  apply run_of; intro K kk
  have e : oEq (laD (lastB [] p)) (.tuple [.int (s : Nat)]) = .val (.frz (.bool (decide (lastB [] p = [s])))) := oEq_tupleM (f := nD) _ [s]
  have hll := ev_lays_of hv r p hg hl
  have hlast := lays_last p
  generalize ([] :: laysB [] p).map laD = LS at hll hlast
  simp [c_is_clean, ev_needspot hv s hs, ev_need_rules r, hll, hlast, e]
  exact kk.rt _ _ rfl
theorem ev_clean_net {x : PyData} (h : noNet x) (a b c : PyData) : m_is_clean [x, a, b, c] = .ex (exc "NoNet") := by
  apply run_raise; intro K kk
  simp [c_is_clean, ev_needspot_net h b]
  exact kk.ex _ _ rfl
theorem ev_clean_spot {net : List (List Nat)} (hv : NetV net) {s : PyData} (hs : scrD s = false) (h : spotB net.length s = false) (a c : PyData) : m_is_clean [netD net, a, s, c] = .ex (exc "NoSpot") := by
  apply run_raise; intro K kk
  simp [c_is_clean, ev_needspot_no hv hs h]
  exact kk.ex _ _ rfl
theorem ev_clean_rules {net : List (List Nat)} (hv : NetV net) (s : Nat) (hs : s < net.length) {r : PyData} (hr : scrD r = false) (h : rulesB r = false) (a : PyData) : m_is_clean [netD net, a, .int s, r] = .ex (exc "NoRules") := by
  apply run_raise; intro K kk
  simp [c_is_clean, ev_needspot hv s hs, ev_needrules_no hr h]
  exact kk.ex _ _ rfl
theorem ev_clean_play {net : List (List Nat)} (hv : NetV net) (s : Nat) (hs : s < net.length) (r : Rul) {a : PyData} (h : m_lays_of [netD net, a, ruD r] = .ex (exc "NoPlay")) : m_is_clean [netD net, a, .int s, ruD r] = .ex (exc "NoPlay") := by
  apply run_raise; intro K kk
  simp [c_is_clean, ev_needspot hv s hs, ev_need_rules r, h]
  exact kk.ex _ _ rfl
theorem takes_go {net : List (List Nat)} {r : Rul} (hr : r ≠ .careful) : ∀ (T lay : List Nat), LayV net.length lay → T.Nodup → (∀ x ∈ T, x ∈ lay) → goes net r lay (T.map .take)
  | [], _, _, _, _ => trivial
  | t :: T, lay, hl, hn, hm => by
    have ht := hm t List.mem_cons_self
    rw [List.nodup_cons] at hn
    refine ⟨?_, ?_, takes_go hr T _ ⟨hl.inc.filter _, fun x hx => hl.low x (List.mem_filter.mp hx).1⟩ hn.2 fun x hx => ?_⟩
    · have := hl.low t ht; unfold allSteps; simp [this]
    · simp [letB, ht, hr]
    · rw [aft_take, List.mem_filter]
      exact ⟨hm x (List.mem_cons_of_mem _ hx), by simp; rintro rfl; exact hn.1 hx⟩
/-- a bad play is refused in every form that the law hands in -/
def badP (net : List (List Nat)) (r : Rul) (x : PyData) : Prop := m_lays_of [netD net, x, ruD r] = .ex (exc "NoPlay")
theorem badP_app {net : List (List Nat)} (hv : NetV net) (r : Rul) {p : List Stp} (hg : goes net r [] p) {d : PyData} (h : okN d) (hs : stepB net.length d = false) : badP net r (.list (p.map stD ++ [d])) := by
  refine lo_wrong hv r (fun x hx => ?_) ?_
  · rcases List.mem_append.mp hx with hx | hx
    · obtain ⟨st, _, rfl⟩ := List.mem_map.mp hx; exact okN_st st
    · rw [List.mem_singleton.mp hx]; exact h
  · rw [wrongG_app _ p [] 0 (goes_inn hv.ok p [] hg) hg, wrongG_none hs]
    exact fun h => by cases h
theorem badP_not {net : List (List Nat)} (hv : NetV net) (r : Rul) {d : PyData} (hd : scrD d = false) (h : listB d = false) : badP net r d := ev_lo_ex (ev_fw_play hv r hd h)
theorem law_true_63 (ns : List Int) : m_law_v46 [scriptD ns] = .ok (.frz (.bool true)) := by
  refine law_outer (by decide) (by decide) (fun js => ∃ (j1 j2 j3 j4 j5 j6 j7 : Jk) (j8 : Jm) (j9 j10 j11 j12 : Jk), js = [j1.c, j2.c, j3.c, j4.c, j5.c, j6.c, j7.c, j8.c, j9.c, j10.c, j11.c, j12.c]) ⟨jkE, jkE, jkE, jkE, jkE, jkE, jkE, jmE, jkE, jkE, jkE, jkE, rfl⟩ ?_
  rintro k hk js ⟨j1, j2, j3, j4, j5, j6, j7, j8, j9, j10, j11, j12, rfl⟩ K' hnx hct
  obtain ⟨rr, hbox, b, rfl⟩ := ev_box2 ns k hk
  obtain ⟨rr, d, hnet, ⟨b2, rfl⟩, net, rfl, hok, h1, h2⟩ := ev_net b 7 (by decide) (by decide)
  have hv : NetV net := ⟨hok, h1, by omega⟩
  have h10 := hv.ten
  obtain ⟨r, hru⟩ := ev_lrules b2
  obtain ⟨c, d, hpl, ⟨b3, rfl⟩, p, rfl, hg, hplen⟩ := ev_play2 hv r (b2 / 3) 12 (by decide)
  have hll := ev_lays2 hv r p hg (by omega)
  have hlast := lays_last p
  have hl1 : LayV net.length (lastB [] p) := goes_lay hok p [] (.nil _) hg
  have hln := hl1.len
  have hno : noLists (([] :: laysB [] p).map laD) = true := noLists_laD _
  generalize ([] :: laysB [] p).map laD = LS at hll hlast hno
  have hpl' : m__law_play_v2 (.list [.int (b2 / 3)]) [netD net, ruD r, .int 12] = _ := hpl
  generalize hA : cSeq (cSet 9 _) _ = A
  have key : ∀ (b : Int) (p : List Stp) (j7 j8 : Cell), isLck j7 = false → j8.mine = false → goes net r [] p → p.length ≤ 30 → SRes.sat K' (A [.frz (scriptD ns), .frz (.int k), .own false (.list [.int b]), .frz (netD net), .frz (ruD r), .own false (.list (p.map stD)), .frz (laD (lastB [] p)), j7, j8, j9.c, j10.c, j11.c, j12.c]) := by
    intro b p j7 j8 h7 h8 hg hpl
    rw [← hA]
    have htold : ∀ s < net.length, m__law_told_v14 [netD net, .list (p.map stD), .int s, ruD r] = .ok (.frz (.bool (decide (lastB [] p = [s])))) := fun s hs => told63 (ev_clean hv r p hg (by omega) s hs)
    simp [rgD0, show (net.length : Int) ≤ 1000000 by omega]
    refine sat_forT (f := nD) (xs := List.range net.length) (fun rest e => ∃ (j10 j11 : Jk), e = [.frz (scriptD ns), .frz (.int k), .own false (.list [.int b]), .frz (netD net), .frz (ruD r), .own false (.list (p.map stD)), .frz (laD (lastB [] p)), j7, j8, .own false (.list (p.map stD)), j10.c, j11.c, j12.c] ∧ ∀ x ∈ rest, x < net.length) ⟨j10, j11, rfl, by simp⟩ ?_ ?_
    · rintro s rest e ⟨j10, j11, rfl, hr⟩ K2 L
      have hs := hr s List.mem_cons_self
      simp [htold s hs, oEq_la1]
      exact L.nx _ ⟨⟨_, (by first | rfl | exact Jk.u _ | exact Jm.m _ | exact Jm.lck _ | simp | assumption)⟩, ⟨_, (by first | rfl | exact Jk.u _ | exact Jm.m _ | exact Jm.lck _ | simp | assumption)⟩, rfl, fun y hy => hr y (List.mem_cons_of_mem _ hy)⟩
    · rintro e ⟨j10, j11, rfl, _⟩
      simp [lim, ev_take, show p.length ≤ 999999 by omega]
      obtain ⟨x, hx, hat⟩ := pick [.list (p.map stD ++ [.tuple [.str (Str.ofString "put"), .int (net.length : Nat)]]), .none, .tuple (p.map stD), .list (p.map stD ++ [.int 0])] b 4 rfl (by decide)
      have hb : badP net r x := by
        simp only [List.mem_cons, List.not_mem_nil, or_false] at hx
        rcases hx with rfl | rfl | rfl | rfl
        · exact badP_app hv r hg (okN_st (.put net.length)) (by
            rw [stepB_cons]
            simp [spotB])
        · exact badP_not hv r rfl rfl
        · exact badP_not hv r rfl rfl
        · exact badP_app hv r hg (d := .int 0) ⟨rfl, fun ds e => by cases e⟩ rfl
      obtain ⟨s, hs, hsn⟩ : ∃ s : Nat, b / 4 % (net.length : Int) = s ∧ s < net.length := ⟨(b / 4 % (net.length : Int)).toNat, by
        have := Int.emod_nonneg (b / 4) (show (net.length : Int) ≠ 0 by omega); omega, by
        have := Int.emod_lt_of_pos (b / 4) (show 0 < (net.length : Int) by omega); omega⟩
      have t1 : m__law_told_v14 [netD net, x, .int s, ruD r] = .ok (.own false (.list [.int 6])) := by rw [told63 (ev_clean_play hv s hsn r hb)]; simp [hp_NoPlay]
      have t2 : m__law_told_v14 [netD net, x, .int s, .str (Str.ofString "quick")] = .ok (.own false (.list [.int 2])) := by rw [told63 (ev_clean_rules hv s hsn rfl (by decide +kernel) x)]; simp [hp_NoRules]
      have t3 : m__law_told_v14 [netD net, x, .int net.length, .str (Str.ofString "quick")] = .ok (.own false (.list [.int 1])) := by rw [told63 (ev_clean_spot hv (s := .int net.length) rfl (by simp [spotB]) x _)]; simp [hp_NoSpot]
      have t4 : m__law_told_v14 [.none, x, .int net.length, .str (Str.ofString "quick")] = .ok (.own false (.list [.int 0])) := by rw [told63 (ev_clean_net ⟨rfl, (fun ds e => by cases e), rfl⟩ x _ _)]; simp [hp_NoNet]
      have q6 : oNe (.list [.int 6]) (.list [.int 6]) = .val (.frz (.bool false)) := rfl
      have q2 : oNe (.list [.int 2]) (.list [.int 2]) = .val (.frz (.bool false)) := rfl
      have q1 : oNe (.list [.int 1]) (.list [.int 1]) = .val (.frz (.bool false)) := rfl
      have q0 : oNe (.list [.int 0]) (.list [.int 0]) = .val (.frz (.bool false)) := rfl
      have htk := ev_take (b / 4) (net.length : Int) (by omega) (by omega)
      rw [hs] at htk
      simp [hat, htk, t1, t2, t3, t4, q0, q1, q2, q6, h7, h8, lck_of_min]
      exact hnx _ ⟨⟨_, (by first | rfl | exact Jk.u _ | exact Jm.m _ | exact Jm.lck _ | simp | assumption)⟩, ⟨_, (by first | rfl | exact Jk.u _ | exact Jm.m _ | exact Jm.lck _ | simp | assumption)⟩, ⟨_, (by first | rfl | exact Jk.u _ | exact Jm.m _ | exact Jm.lck _ | simp | assumption)⟩, ⟨_, (by first | rfl | exact Jk.u _ | exact Jm.m _ | exact Jm.lck _ | simp | assumption)⟩, ⟨_, (by first | rfl | exact Jk.u _ | exact Jm.m _ | exact Jm.lck _ | simp | assumption)⟩, ⟨_, (by first | rfl | exact Jk.u _ | exact Jm.m _ | exact Jm.lck _ | simp | assumption)⟩, ⟨j7, h7⟩, ⟨j8, h8⟩, ⟨_, (by first | rfl | exact Jk.u _ | exact Jm.m _ | exact Jm.lck _ | simp | assumption)⟩, ⟨_, (by first | rfl | exact Jk.u _ | exact Jm.m _ | exact Jm.lck _ | simp | assumption)⟩, j11, ⟨_, (by first | rfl | exact Jk.u _ | exact Jm.m _ | exact Jm.lck _ | simp | assumption)⟩, rfl⟩
  simp [hbox, hnet, hru, hpl', hll, hlast, ev_take, hno]
  refine ⟨?_, fun _ => key _ _ _ _ (by simp) (by simp) hg (by omega)⟩
  intro _ hcar
  obtain ⟨m, hm, hml⟩ : ∃ m : Nat, b3 / 2 % (((lastB [] p).length : Int) + 1) = m ∧ m ≤ (lastB [] p).length := ⟨(b3 / 2 % (((lastB [] p).length : Int) + 1)).toNat, by
    have := Int.emod_nonneg (b3 / 2) (show ((lastB [] p).length : Int) + 1 ≠ 0 by omega); omega, by
    have := Int.emod_lt_of_pos (b3 / 2) (show 0 < ((lastB [] p).length : Int) + 1 by omega); omega⟩
  simp [ev_take, hm, show (0 : Int) < ((lastB [] p).length : Int) + 1 by omega, show ((lastB [] p).length : Int) + 1 < 1073741824 by omega]
  have hc := comp1 (v := 8) (ci := iArgs rg1 [.ex (cOpN oLen [.nm 6])]) (ct := toT (cOp2 oNe (.nm 8) (.nm 7))) (ce := cTup [.ex (cK (.str (Str.ofString "take"))), .ex (cOp2 oIx (.nm 6) (.nm 8))])
    (env := [.frz (scriptD ns), .frz (.int k), .own false (.list [.int (b3 / 2 / (((lastB [] p).length : Int) + 1))]), .frz (netD net), .frz (ruD r), .own false (.list (p.map stD)), .frz (laD (lastB [] p)), .frz (.int m), j8.c, j9.c, j10.c, j11.c, j12.c]) (f := nD) (xs := List.range (lastB [] p).length) (fun i => !decide (i = m)) (fun i => stD (.take ((lastB [] p).getD i 0)))
    (by simp [rgD0, show ((lastB [] p).length : Int) ≤ 1000000 by omega]) (by simp) (by simp) (fun i hi => by
      have hi := List.mem_range.mp hi
      have h0 : (lastB [] p)[i]? = some ((lastB [] p).getD i 0) := by rw [List.getD_eq_getElem?_getD, List.getElem?_eq_getElem hi]; rfl
      simp [stD, atI_nat, h0, Int.ofNat_inj, hi])
  have gat : ∀ i (hi : i < (lastB [] p).length), (lastB [] p).getD i 0 = (lastB [] p)[i] := fun i hi => by rw [List.getD_eq_getElem?_getD, List.getElem?_eq_getElem hi]; rfl
  obtain ⟨T, hT, hTn, hTm, hTl⟩ : ∃ T : List Nat, ((List.range (lastB [] p).length).filter fun i => !decide (i = m)).map (fun i => stD (.take ((lastB [] p).getD i 0))) = (T.map Stp.take).map stD ∧ T.Nodup ∧ (∀ x ∈ T, x ∈ lastB [] p) ∧ T.length ≤ 10 := by
    refine ⟨((List.range (lastB [] p).length).filter fun i => !decide (i = m)).map fun i => (lastB [] p).getD i 0, by simp [Function.comp_def], ?_, ?_, ?_⟩
    · rw [List.nodup_iff_pairwise_ne, List.pairwise_map]
      have hpr : (List.range (lastB [] p).length).Pairwise (· < ·) := List.pairwise_lt_range
      refine (hpr.filter _).imp_of_mem fun {a b} ha hb hab => ?_
      have ha := List.mem_range.mp (List.mem_filter.mp ha).1
      have hb := List.mem_range.mp (List.mem_filter.mp hb).1
      rw [gat a ha, gat b hb]
      exact Nat.ne_of_lt (List.pairwise_iff_getElem.mp hl1.inc a b ha hb hab)
    · intro x hx
      obtain ⟨i, hi, rfl⟩ := List.mem_map.mp hx
      have hi := List.mem_range.mp (List.mem_filter.mp hi).1
      rw [gat i hi]; exact List.getElem_mem _
    · rw [List.length_map]
      exact Nat.le_trans (List.length_filter_le _ _) (by rw [List.length_range]; omega)
  rw [hT] at hc
  have hg2 : goes net r [] (p ++ T.map .take) := (goes_append p _ []).mpr ⟨hg, takes_go hcar T _ hl1 hTn hTm⟩
  have hll2 := ev_lays2 hv r _ hg2 (by simp; omega)
  have hlast2 := lays_last (p ++ T.map .take)
  have hno2 : noLists (([] :: laysB [] (p ++ T.map .take)).map laD) = true := noLists_laD _
  generalize ([] :: laysB [] (p ++ T.map .take)).map laD = LS2 at hll2 hlast2 hno2
  have k2 := key (b3 / 2 / (((lastB [] p).length : Int) + 1)) (p ++ T.map .take) (.frz (.int (m : Nat))) j8.c rfl (by simp) hg2 (by simp; omega)
  rw [List.map_append] at hll2 k2
  rw [hc]
  simp [-List.map_map, lim, hll2, hlast2, hno2, show p.length + T.length ≤ 1000000 by omega]
  exact k2
end DL

/-! PHG: roots and heights. -/
namespace DL
open PySem L2
def c_roots : CS := (cSeq (cDrop (cCall m_need_net [(.nm 0)]))
    (cRet (cComp (.many [1, 2]) (iEnumC (cVar 0)) (toT (cOp2 oEq (.nm 2) (.ex (cTup [])))) (cVar 1) [1, 2])))
def m_roots : Fn := runDef 3 c_roots
def c_heights : CS := (cSeq (cDrop (cCall m_need_net [(.nm 0)]))
    (cSeq (cSet 1 (cLst []))
    (cSeq (cForO 0 (.one 2) (cDrop (cMethT "list" mAppend 1 [(.ex (cOpN oMax [(.ex (cOp2 oAdd (.ex (cCompO 2 (.one 3) tYesC (cOp2 oAdd (.ex (cOp2 oIx (.nm 1) (.nm 3))) (.ex (cK (.int 1)))) [3])) (.ex (cLst [(.ex (cK (.int 0)))]))))]))])))
    (cRet (cMove 1)))))
def m_heights : Fn := runDef 4 c_heights
def c__law_height : CS := (cSeq (cSet 2 (cOpN oList [(.ex (cOp2 oIx (.nm 0) (.nm 1)))]))
    (cSeq (cSet 3 (cK (.int 0)))
    (cSeq (whileL (toT (cOp2 oNe (.nm 2) (.ex (cLst [])))) (cSeq (cSet 3 (cOp2 oAdd (.nm 3) (.ex (cK (.int 1)))))
    (cSeq (cSet 4 (cLst []))
    (cSeq (cForO 2 (.one 5) (cSet 4 (cOp2 oAdd (.nm 4) (.ex (cOpN oList [(.ex (cOp2 oIx (.nm 0) (.nm 5)))])))))
    (cSet 2 (cOp1 oSortSet (.nm 4)))))) 100000)
    (cRet (cMove 3)))))
def m__law_height : Fn := runDef 6 c__law_height
/-! ### how high a spot is -/
def maxM (f : Nat → Nat) : List Nat → Nat
  | [] => 0
  | x :: l => max (f x + 1) (maxM f l)
theorem maxM_le {f : Nat → Nat} {k : Nat} : ∀ {l : List Nat}, maxM f l ≤ k ↔ ∀ x ∈ l, f x + 1 ≤ k
  | [] => by unfold maxM; simp
  | x :: l => by
    unfold maxM
    rw [Nat.max_le, maxM_le (l := l)]
    simp
theorem maxM_congr {f g : Nat → Nat} : ∀ {l : List Nat}, (∀ x ∈ l, f x = g x) → maxM f l = maxM g l
  | [], _ => rfl
  | x :: l, h => by unfold maxM; rw [h x List.mem_cons_self, maxM_congr fun y hy => h y (List.mem_cons_of_mem _ hy)]
theorem maxM_mem {f : Nat → Nat} {l : List Nat} {x : Nat} (h : x ∈ l) : f x + 1 ≤ maxM f l := maxM_le.mp (Nat.le_refl _) x h
theorem maxM_get {f : Nat → Nat} : ∀ {l : List Nat}, l ≠ [] → ∃ x ∈ l, maxM f l = f x + 1
  | [], h => (h rfl).elim
  | [x], _ => ⟨x, List.mem_cons_self, by simp [maxM]⟩
  | x :: y :: l, _ => by
    obtain ⟨z, hz, e⟩ := maxM_get (f := f) (l := y :: l) (by simp)
    by_cases h : f x + 1 ≤ maxM f (y :: l)
    · exact ⟨z, List.mem_cons_of_mem _ hz, by unfold maxM; rw [Nat.max_eq_right h]; exact e⟩
    · exact ⟨x, List.mem_cons_self, by unfold maxM; rw [Nat.max_eq_left (by omega)]⟩
def hF (net : List (List Nat)) : Nat → Nat → Nat
  | 0, _ => 0
  | n + 1, s => maxM (hF net n) (nds net s)
def hgt (net : List (List Nat)) (s : Nat) : Nat := hF net (s + 1) s
theorem hF_stable {net : List (List Nat)} (hk : NetOk net) (s : Nat) : ∀ n, s < n → hF net n s = hgt net s := by
  induction s using Nat.strongRecOn with
  | _ s ih =>
    intro n hn
    cases n with
    | zero => omega
    | succ n =>
      show maxM (hF net n) (nds net s) = maxM (hF net s) (nds net s)
      refine maxM_congr fun x hx => ?_
      have hx := nds_lt hk hx
      rw [ih x hx n (by omega), ih x hx s hx]
theorem hgt_eq {net : List (List Nat)} (hk : NetOk net) (s : Nat) : hgt net s = maxM (hgt net) (nds net s) := by
  show maxM (hF net s) (nds net s) = _
  exact maxM_congr fun x hx => hF_stable hk x s (nds_lt hk hx)
theorem hgt_le {net : List (List Nat)} (hk : NetOk net) (s : Nat) : hgt net s ≤ s := by
  induction s using Nat.strongRecOn with
  | _ s ih =>
    rw [hgt_eq hk]
    refine maxM_le.mpr fun x hx => ?_
    have h1 := nds_lt hk hx
    have := ih x h1; omega
/-- what all of these need -/
def needs (net : List (List Nat)) (l : List Nat) : List Nat := l.flatMap (nds net)
theorem maxM_needs {net : List (List Nat)} (hk : NetOk net) {l : List Nat} (h : l ≠ []) : maxM (hgt net) (setN (needs net l)) + 1 = maxM (hgt net) l := by
  apply Nat.le_antisymm
  · obtain ⟨x, hx, e⟩ := maxM_get (f := hgt net) h
    have : maxM (hgt net) (setN (needs net l)) ≤ maxM (hgt net) l - 1 := maxM_le.mpr fun y hy => by
      obtain ⟨z, hz, hy⟩ := List.mem_flatMap.mp (setN_mem.mp hy)
      have h1 := maxM_mem (f := hgt net) hz
      have h2 := maxM_mem (f := hgt net) hy
      rw [← hgt_eq hk] at h2
      omega
    omega
  · refine maxM_le.mpr fun x hx => ?_
    have : hgt net x ≤ maxM (hgt net) (setN (needs net l)) := by
      rw [hgt_eq hk]
      exact maxM_le.mpr fun y hy => maxM_mem (setN_mem.mpr (List.mem_flatMap.mpr ⟨x, hx, hy⟩))
    omega
/-! ### roots -/
def rootsN (net : List (List Nat)) : List Nat := (List.range net.length).filter fun s => decide (nds net s = [])
theorem drop_cons {α : Type} {L : List α} {m : Nat} {x : α} {r : List α} (h : L.drop m = x :: r) : m < L.length ∧ L[m]? = some x ∧ L.drop (m + 1) = r := by
  have hm : m < L.length := by
    apply Classical.byContradiction; intro z
    rw [List.drop_eq_nil_of_le (by omega)] at h; cases h
  rw [List.drop_eq_getElem_cons hm] at h
  injection h with h1 h2
  exact ⟨hm, by rw [List.getElem?_eq_getElem hm, h1], h2⟩
@[simp] theorem oEq_la0 (l : List Nat) : oEq (laD l) (.tuple []) = .val (.frz (.bool (decide (l = [])))) := oEq_tupleN (f := nD) l
theorem ev_roots {net : List (List Nat)} (hv : NetV net) : m_roots [netD net] = .ok (.own false (.list ((rootsN net).map nD))) := by
  apply run_of; intro K kk
  simp [c_roots, ev_neednet hv]
  generalize hc : cComp _ _ _ _ _ _ = r
  obtain ⟨ds, e', rfl, m, ns, j1, j2, rfl, hm, hle, hr, rfl⟩ := comp_inv hc (f := fun p : PyData × Nat => PyData.tuple [.int (p.2 : Nat), p.1]) (xs := (net.map laD).zipIdx 0)
    (fun rest ds e => ∃ (m : Nat) (ns : List (List Nat)) (j1 j2 : Jk), e = [.frz (netD net), j1.c, j2.c] ∧ net.drop m = ns ∧ m ≤ net.length ∧ rest = (ns.map laD).zipIdx m ∧ ds = ((List.range m).filter fun s => decide (nds net s = [])).map nD)
    (by simp [enumD_zip]; rfl) rfl ⟨0, net, jkE, jkE, rfl, rfl, Nat.zero_le _, rfl, rfl⟩ (by
      rintro ⟨d, n⟩ rest ds e ⟨m, ns, j1, j2, rfl, hm, hle, hr, rfl⟩ Y Z hY hZ
      cases ns with
      | nil => cases hr
      | cons l ns =>
        rw [List.map_cons, List.zipIdx_cons] at hr
        injection hr with h1 h2
        injection h1 with h1 h3
        subst h1; subst h3; subst h2
        obtain ⟨hlt, hat, hd⟩ := drop_cons hm
        have e : nds net n = l := by unfold nds; rw [hat]; rfl
        simp
        refine ⟨fun hl => hY _ _ ⟨n + 1, ns, ⟨_, (by first | rfl | exact Jk.u _ | exact Jm.m _ | exact Jm.lck _ | simp | assumption)⟩, ⟨_, (by first | rfl | exact Jk.u _ | exact Jm.m _ | exact Jm.lck _ | simp | assumption)⟩, rfl, hd, hlt, rfl, ?_⟩, fun hl => hZ _ ⟨n + 1, ns, ⟨_, (by first | rfl | exact Jk.u _ | exact Jm.m _ | exact Jm.lck _ | simp | assumption)⟩, ⟨_, (by first | rfl | exact Jk.u _ | exact Jm.m _ | exact Jm.lck _ | simp | assumption)⟩, rfl, hd, hlt, rfl, ?_⟩⟩
        · rw [List.range_succ, List.filter_append]; simp [e, hl]
        · rw [List.range_succ, List.filter_append]; simp [e, hl])
  have hmn : net.length ≤ m := by
    cases ns with
    | nil => exact List.drop_eq_nil_iff.mp hm
    | cons l ns => cases hr
  simp
  refine kk.rt _ _ ?_
  have e : m = net.length := by omega
  subst e; rfl
/-! ### heights -/
theorem oMax_nat {L : List Nat} (h : L ≠ []) : ∃ m : Nat, oMax [.list (L.map nD)] = .val (.frz (.int m)) ∧ m ∈ L ∧ ∀ x ∈ L, x ≤ m := by
  have hne : (L.map fun (n : Nat) => (n : Int)) ≠ [] := by cases L with
    | nil => exact (h rfl).elim
    | cons a b => simp
  obtain ⟨m, hm, e⟩ := List.mem_map.mp (maxI_mem hne)
  refine ⟨m, ?_, hm, fun x hx => ?_⟩
  · show (match intsOf (L.map nD) with
      | some ns => if ns.isEmpty then OR.no else frzI (maxI ns)
      | none => .no) = _
    rw [intsOf_setN]; dsimp only
    rw [if_neg (by simpa using h), ← e]; rfl
  · have := maxI_ge (List.mem_map.mpr ⟨x, hx, rfl⟩ : (x : Int) ∈ L.map fun (n : Nat) => (n : Int))
    rw [← e] at this; omega
theorem oMax_M (f : Nat → Nat) (l : List Nat) : oMax [.list ((l.map fun x => PyData.int ((f x : Int) + 1)) ++ [.int 0])] = .val (.frz (.int (maxM f l : Nat))) := by
  obtain ⟨m, h1, h2, h3⟩ := oMax_nat (L := (l.map fun x => f x + 1) ++ [0]) (by simp)
  have e : ((l.map fun x => f x + 1) ++ [0]).map nD = (l.map fun x => PyData.int ((f x : Int) + 1)) ++ [.int 0] := by simp
  rw [e] at h1
  have em : m = maxM f l := by
    apply Nat.le_antisymm
    · rw [List.mem_append] at h2
      rcases h2 with h2 | h2
      · obtain ⟨x, hx, rfl⟩ := List.mem_map.mp h2; exact maxM_mem hx
      · simp at h2; omega
    · exact maxM_le.mpr fun x hx => h3 _ (List.mem_append_left _ (List.mem_map.mpr ⟨x, hx, rfl⟩))
  rw [h1, em]
theorem ev_heights {net : List (List Nat)} (hv : NetV net) : m_heights [netD net] = .ok (.own false (.list (((List.range net.length).map (hgt net)).map nD))) := by
  have h10 := hv.ten
  apply run_of; intro K kk
  simp [c_heights, ev_neednet hv]
  refine sat_forT (f := laD) (xs := net) (fun rest e => ∃ (m : Nat) (j2 : Jk), e = [.frz (netD net), .own false (.list (((List.range m).map (hgt net)).map nD)), j2.c, .emp] ∧ net.drop m = rest ∧ m ≤ net.length) ⟨0, jkE, rfl, rfl, Nat.zero_le _⟩ ?_ ?_
  · rintro l rest e ⟨m, j2, rfl, hd, hle⟩ K' L
    obtain ⟨hlt, hat, hd⟩ := drop_cons hd
    have e : nds net m = l := by unfold nds; rw [hat]; rfl
    have hc := compO_ro (i := 2) (v := 3) (ct := tYesC) (ce := cOp2 oAdd (.ex (cOp2 oIx (.nm 1) (.nm 3))) (.ex (cK (.int 1)))) (env := [.frz (netD net), .own false (.list (((List.range m).map (hgt net)).map nD)), .frz (laD l), .emp]) (f := nD) (xs := l) (fun _ => true) (fun x => .int ((hgt net x : Int) + 1))
      (.inr (.inl rfl)) (by simp) (by simp) (by decide) (fun x hx => by
        have : x < m := nds_lt hv.ok (by rw [e]; exact hx)
        simp [tYesC, atI_nat, this])
    have hlen : l.length ≤ 11 := by have := nds_len hv.ok m; rw [e] at this; omega
    simp at hc
    simp [hc, lim, hlen, show l.length + 1 ≤ 1000000 by omega, oMax_M, show m < 1000000 by omega]
    refine L.nx _ ⟨m + 1, ⟨.frz (laD l), rfl⟩, ?_, hd, hlt⟩
    rw [List.range_succ]; simp [← e, ← hgt_eq hv.ok]
  · rintro e ⟨m, j2, rfl, hd, hle⟩
    have e : m = net.length := by
      have := List.drop_eq_nil_iff.mp hd; omega
    subst e
    simp
    exact kk.rt _ _ (by simp)
@[simp] theorem oList_la (l : List Nat) : oList [laD l] = .val (.own false (.list (l.map nD))) := rfl
theorem ev_lheight {net : List (List Nat)} (hv : NetV net) (s : Nat) (hs : s < net.length) : m__law_height [netD net, .int s] = .ok (.frz (.int (hgt net s : Nat))) := by
  have h10 := hv.ten
  have hh := hgt_le hv.ok s
  apply run_of; intro K kk
  simp [c__law_height, atI_nat, nds_at hs]
  refine sat_whileT (fun m e => ∃ (l : List Nat) (c : Nat) (j4 j5 : Jk), e = [.frz (netD net), .frz (.int s), .own false (.list (l.map nD)), .frz (.int c), j4.c, j5.c] ∧ l.length ≤ 11 ∧ (∀ x ∈ l, x < net.length) ∧ c + maxM (hgt net) l = hgt net s ∧ m = maxM (hgt net) l) (k := hgt net s)
    ⟨nds net s, 0, jkE, jkE, rfl, by have := nds_len hv.ok s; omega, fun x hx => by have := nds_lt hv.ok hx; omega, by rw [Nat.zero_add]; exact (hgt_eq hv.ok s).symm, hgt_eq hv.ok s⟩ (by omega) ?_
  rintro m e ⟨l, c, j4, j5, rfl, hl, hlow, hc, rfl⟩ K' Z L hZ
  simp
  refine ⟨fun hne => ?_, fun he => hZ _ ?_⟩
  · refine sat_forOT (f := nD) (xs := l) (fun rest e => ∃ (q : List Nat) (j5 : Jk), e = [.frz (netD net), .frz (.int s), .lck (.list (l.map nD)), .frz (.int ((c : Int) + 1)), .own false (.list ((needs net q).map nD)), j5.c] ∧ l = q ++ rest ∧ (needs net q).length ≤ q.length * 11) ⟨[], j5, rfl, rfl, by simp [needs]⟩ ?_ ?_
    · rintro x rest e ⟨q, j5, rfl, hq, hln⟩ K2 L2
      have hx : x < net.length := hlow x (by rw [hq]; simp)
      have hlx : (nds net x).length ≤ 11 := by have := nds_len hv.ok x; omega
      have hql : q.length ≤ 11 := by have := congrArg List.length hq; simp at this; omega
      simp [atI_nat, nds_at hx, lim, show (needs net q).length + (nds net x).length ≤ 1000000 by omega]
      refine L2.nx _ ⟨q ++ [x], ⟨.frz (.int x), rfl⟩, ?_, by rw [hq]; simp, ?_⟩
      · simp [needs]
      · simp [needs] at hln ⊢; omega
    · rintro e ⟨q, j5, rfl, hq, hln⟩
      rw [List.append_nil] at hq; subst hq
      have hs2 := sortSet_nat (l := needs net l) (by omega) (fun x hx => by
        obtain ⟨y, hy, hx⟩ := List.mem_flatMap.mp hx
        have := nds_lt hv.ok hx; have := hlow y hy; omega)
      have hm := maxM_needs hv.ok hne
      have hlow2 : ∀ x ∈ setN (needs net l), x < net.length := fun x hx => by
        obtain ⟨y, hy, hx⟩ := List.mem_flatMap.mp (setN_mem.mp hx)
        have := nds_lt hv.ok hx; have := hlow y hy; omega
      have hln2 : (setN (needs net l)).length ≤ net.length := by
        have nd : (setN (needs net l)).Nodup := (setN_lt _).imp fun h => by omega
        have := List.Nodup.length_le_of_subset nd (l₂ := List.range net.length) fun x hx => List.mem_range.mpr (hlow2 x hx)
        simpa using this
      simp [hs2]
      exact L.nx _ ⟨_, by omega, setN (needs net l), c + 1, ⟨.own false (.list ((needs net l).map nD)), rfl⟩, j5, by simp, by omega, hlow2, by omega, rfl⟩
  · subst he
    simp
    refine kk.rt _ _ ?_
    simp [maxM] at hc
    rw [hc]; rfl
end DL

/-! PK10: law 10. -/
namespace DL
open PySem L2
def c__law_odd : CS := (cSeq (cSet 1 (cLst [(.ex (cK .none)), (.ex (cK (.bool true))), (.ex (cK (.bool false))), (.ex (cNeg (.ex (cK (.int 1))))), (.ex (cK (.str "1"))), (.ex (cK (.str ""))), (.ex (cK (.str "plain"))), (.ex (cTup [])), (.ex (cLst [])), (.ex (cTup [(.ex (cK (.int 1)))])), (.ex (cLst [(.ex (cK (.int 1)))])), (.ex (cDispI [("a", 1)])), (.ex (cTup [(.ex (cTup [])), (.ex (cTup [(.ex (cK (.int 0)))]))])), (.ex (cOp2 oPow (.ex (cK (.int 10))) (.ex (cK (.int 39))))), (.ex (cTup [(.ex (cTup [(.ex (cK (.int 1)))]))])), (.ex (cLst [(.ex (cTup []))]))]))
    (cRet (cOp2 oIx (.nm 1) (.ex (cCallI m__law_take 0 [(.ex (cK (.int 16)))])))))
def m__law_odd : Fm := runDefI 2 c__law_odd
def c__law_told_v5 : CS := (cTry 4 hmMarks (cSeq (cIfS (toT (cOp2 oEq (.nm 0) (.ex (cK (.int 0))))) (cRet (cCall m_lays_of [(.nm 1), (.nm 2), (.nm 3)])) cNext)
    (cSeq (cIfS (toT (cOp2 oEq (.nm 0) (.ex (cK (.int 1))))) (cRet (cCall m_stones_of [(.nm 1), (.nm 2), (.nm 3)])) cNext)
    (cRet (cCall m_cost_of [(.nm 1), (.nm 2), (.nm 3)])))))
def m__law_told_v5 : Fn := runDef 5 c__law_told_v5
def c_law_v10 : CS := (cSeq (cFor (.one 1) (iArgs rg1 [(.ex (cOpN oMax2 [(.ex (cK (.int 1))), (.ex (cOpN oMin2 [(.ex (cOpN oLen [(.nm 0)])), (.ex (cK (.int 5)))]))]))]) (cSeq (cSet 2 (cCall m__law_box [(.nm 0), (.nm 1)]))
    (cSeq (cSet 3 (cCallI m__law_net 2 [(.ex (cOp2 oIx (.ex (cLst [(.ex (cK (.int 6))), (.ex (cK (.int 6))), (.ex (cK (.int 6))), (.ex (cK (.int 10)))])) (.ex (cCallI m__law_take 2 [(.ex (cK (.int 4)))]))))]))
    (cSeq (cSet 4 (cCallI m__law_rules 2 []))
    (cSeq (cSet 5 (cCallI m__law_play 2 [(.ex (cVar 3)), (.ex (cVar 4)), (.ex (cK (.int 14))), (.ex (cK (.int 9)))]))
    (cSeq (cSet 6 (cCall m__law_lays [(.nm 5)]))
    (cSeq (cSet 7 (cOpN oList [(.nm 5)]))
    (cSeq (cSet 8 (cCall m__law_told_v5 [(.ex (cK (.int 0))), (.nm 3), (.nm 7), (.nm 4)]))
    (cSeq (cIfS (cOrT (toT (cOp2 oNe (.ex (cOpN oRepr [(.nm 8)])) (.ex (cOpN oRepr [(.nm 6)])))) (toT (cOp2 oNe (.ex (cOpN oRepr [(.nm 7)])) (.ex (cOpN oRepr [(.nm 5)]))))) (cRet (cK (.bool false))) cNext)
    (cSeq (cDrop (cMethT "list" mAppend 8 [(.ex (cK (.int 0)))]))
    (cSeq (cSet 9 (cLst [(.ex (cVar 6)), (.ex (cOpN oMax [(.ex (cCompO 6 (.one 10) tYesC (cOpN oLen [(.nm 10)]) [10]))])), (.ex (cCall m__law_cost [(.nm 5)]))]))
    (cSeq (cFor (.one 11) (iArgs rg1 [(.ex (cK (.int 3)))]) (cIfS (toT (cOp2 oNe (.ex (cOpN oRepr [(.ex (cCall m__law_told_v5 [(.nm 11), (.nm 3), (.nm 7), (.nm 4)]))])) (.ex (cOpN oRepr [(.ex (cOp2 oIx (.nm 9) (.nm 11)))])))) (cRet (cK (.bool false))) cNext))
    (cSeq (cSet 12 (cComp (.one 13) (iSeq (cLst [(.ex (cTup [(.ex (cK (.str "put"))), (.ex (cK (.int 0)))])), (.ex (cTup [(.ex (cK (.str "take"))), (.ex (cK (.int 0)))]))])) (cNotT (toT (cCall m__law_lets [(.nm 3), (.ex (cOp2 oIx (.nm 6) (.ex (cNeg (.ex (cK (.int 1))))))), (.nm 13), (.nm 4)]))) (cVar 13) [13]))
    (cFor (.one 14) (iSeq (cLst [(.ex (cOp2 oAdd (.nm 5) (.ex (cSl (.nm 12) .none (.some (.ex (cK (.int 1)))))))), (.ex (cOp2 oAdd (.nm 5) (.ex (cLst [(.ex (cK .none))])))), (.ex (cOpN oTuple [(.nm 5)])), (.ex (cK .none)), (.ex (cCallI m__law_odd 2 []))])) (cFor (.one 11) (iArgs rg1 [(.ex (cK (.int 3)))]) (cIfS (cAndT (toT (cOp2 oNeX (.nm 14) (.ex (cLst [])))) (cAndT (toT (cOp2 oNeX (.nm 14) (.nm 5))) (toT (cOp2 oNe (.ex (cCall m__law_told_v5 [(.nm 11), (.nm 3), (.nm 14), (.nm 4)])) (.ex (cK (.str "play"))))))) (cRet (cK (.bool false))) cNext))))))))))))))))
    (cRet (cK (.bool true))))
def m_law_v10 : Fn := runDef 15 c_law_v10
theorem lays_all {net : List (List Nat)} {r : Rul} (hk : NetOk net) : ∀ (p : List Stp) (lay : List Nat), LayV net.length lay → goes net r lay p → ∀ l ∈ lay :: laysB lay p, LayV net.length l
  | [], lay, hl, _ => fun l h => by
    have h : l ∈ [lay] := h
    rw [List.mem_singleton.mp h]; exact hl
  | st :: p, lay, hl, hg => fun l h => by
    rcases List.mem_cons.mp h with rfl | h
    · exact hl
    · exact lays_all hk p _ (hl.aft hk hg.1 hg.2.1) hg.2.2 l h
theorem ev_stones10 {net : List (List Nat)} (hv : NetV net) (r : Rul) (p : List Stp) (hg : goes net r [] p) (hl : p.length < 1000) {m : Nat} (hm : oMax [.list (([] :: laysB [] p).map fun l => PyData.int (l.length : Nat))] = .val (.frz (.int m))) : m_stones_of [netD net, .list (p.map stD), ruD r] = .ok (.frz (.int m)) := by
  apply run_of; intro K kk
  have hlo := ev_lays_of hv r p hg hl
  generalize [] :: laysB [] p = L at hm hlo
  have hc := comp1 (v := 3) (ci := iSeq (cCall m_lays_of [.nm 0, .nm 1, .nm 2])) (ct := tYesC) (ce := cOpN oLen [.nm 3]) (env := [.frz (netD net), .frz (.list (p.map stD)), .frz (ruD r), .emp]) (f := laD) (xs := L) (fun _ => true) (fun l => .int (l.length : Nat))
    (by simp [hlo]) (by simp) (by simp) (fun x hx => by simp [tYesC])
  rw [show L.filter (fun _ => true) = L from List.filter_eq_self.mpr fun _ _ => rfl] at hc
  simp [c_stones_of, hc, hm]
  exact kk.rt _ _ rfl
theorem told10_0 {a b c : PyData} {m : FR} (h : m_lays_of [a, b, c] = m) : m__law_told_v5 [.int 0, a, b, c] = caught hmMarks m := by
  show runDef 5 c__law_told_v5 [.int 0, a, b, c] = _
  unfold runDef c__law_told_v5
  simp [emps, h]
  cases m with
  | ok c => simp
  | ex x => simp; cases hmMarks x <;> rfl
  | no => rfl
theorem told10_1 {a b c : PyData} {m : FR} (h : m_stones_of [a, b, c] = m) : m__law_told_v5 [.int 1, a, b, c] = caught hmMarks m := by
  show runDef 5 c__law_told_v5 [.int 1, a, b, c] = _
  unfold runDef c__law_told_v5
  simp [emps, h]
  cases m with
  | ok c => simp
  | ex x => simp; cases hmMarks x <;> rfl
  | no => rfl
theorem told10_2 {a b c : PyData} {m : FR} (h : m_cost_of [a, b, c] = m) : m__law_told_v5 [.int 2, a, b, c] = caught hmMarks m := by
  show runDef 5 c__law_told_v5 [.int 2, a, b, c] = _
  unfold runDef c__law_told_v5
  simp [emps, h]
  cases m with
  | ok c => simp
  | ex x => simp; cases hmMarks x <;> rfl
  | no => rfl
theorem hm_Play : hmMarks ⟨"NoPlay", none⟩ = some (.frz (.str "play")) := by simp [hmMarks, List.lookup_cons]
theorem told10_bad {net : List (List Nat)} {r : Rul} {x : PyData} (h : badP net r x) {w : Nat} (hw : w < 3) : m__law_told_v5 [.int (w : Nat), netD net, x, ruD r] = .ok (.frz (.str "play")) := by
  rcases (show w = 0 ∨ w = 1 ∨ w = 2 by omega) with rfl | rfl | rfl
  · exact (told10_0 h).trans (by simp [hm_Play])
  · exact (told10_1 (ev_so_ex h)).trans (by simp [hm_Play])
  · exact (told10_2 (ev_co_ex h)).trans (by simp [hm_Play])
/-- what _law_odd hands out -/
def odd16 (x : PyData) : Prop := x ∈ [.none, .bool true, .bool false, .int (-1), .str (Str.ofString "1"), .str (Str.ofString ""), .str (Str.ofString "plain"), .tuple [], .list [], .tuple [.int 1], .list [.int 1], dispI [(Str.ofString "a", 1)], .tuple [.tuple [], .tuple [.int 0]], .int (10 ^ 39), .tuple [.tuple [.int 1]], .list [.tuple []]]
theorem ev_odd (b : Int) : ∃ c d, m__law_odd (.list [.int b]) [] = .ok c d ∧ (∃ b' : Int, d = .list [.int b']) ∧ ∃ x, c = .frz x ∧ odd16 x := by
  apply runI_ex; intro K k
  have hpw : oPow (.int 10) (.int 39) = .val (.frz (.int (10 ^ 39))) := rfl
  simp [c__law_odd, ev_take, hpw]
  obtain ⟨x, hx, hat⟩ := pick [.none, .bool true, .bool false, .int (-1), .str (Str.ofString "1"), .str (Str.ofString ""), .str (Str.ofString "plain"), .tuple [], .list [], .tuple [.int 1], .list [.int 1], dispI [(Str.ofString "a", 1)], .tuple [.tuple [], .tuple [.int 0]], .int (10 ^ 39), .tuple [.tuple [.int 1]], .list [.tuple []]] b 16 rfl (by decide)
  have hat' := hat
  simp at hat'
  simp [hat']
  exact k.rt _ _ _ rfl ⟨⟨_, rfl⟩, x, rfl, hx⟩
/-- a thing that the law hands in: nothing, the play, or refused -/
def thing10 (net : List (List Nat)) (r : Rul) (p : List Stp) (x : PyData) : Prop :=
  (∃ b1 b2, oNeX x (.list []) = .val (.frz (.bool b1)) ∧ oNeX x (.list (p.map stD)) = .val (.frz (.bool b2)) ∧ (b1 = true → b2 = true → badP net r x))
theorem thing_bad {net : List (List Nat)} {r : Rul} {p : List Stp} {x : PyData} (h : badP net r x) {b1 b2 : Bool} (h1 : oNeX x (.list []) = .val (.frz (.bool b1))) (h2 : oNeX x (.list (p.map stD)) = .val (.frz (.bool b2))) : thing10 net r p x := ⟨b1, b2, h1, h2, fun _ _ => h⟩
theorem neX_ex {x : PyData} {L : List PyData} (h : shp x = true ∨ isDic x = true) (hL : shp (.list L) = true) : ∃ b, oNeX x (.list L) = .val (.frz (.bool b)) := by
  unfold oNeX
  by_cases hd : isDic x = true
  · exact ⟨true, by rw [hd, hL]; rfl⟩
  · have hs : shp x = true := by rcases h with h | h; exact h; exact (hd h).elim
    have hd' : isDic x = false := by simpa using hd
    refine ⟨!PyData.eqv x (.list L), ?_⟩
    rw [hd']
    show oNe x (.list L) = _
    unfold oNe oEqD
    cases strD x <;> simp [hs, hL] <;> rfl
theorem thing_any {net : List (List Nat)} {r : Rul} {p : List Stp} {x : PyData} (h : badP net r x) (hx : shp x = true ∨ isDic x = true) : thing10 net r p x := by
  obtain ⟨b1, h1⟩ := neX_ex (L := []) hx shp_nilL
  obtain ⟨b2, h2⟩ := neX_ex (L := p.map stD) hx (shp_listM p)
  exact thing_bad h h1 h2
theorem lay_app : ∀ a b : List PyData, PyData.canLayAll0 (a ++ b) = (PyData.canLayAll0 a && PyData.canLayAll0 b)
  | [], b => by simp [PyData.canLayAll0]
  | x :: a, b => by simp [PyData.canLayAll0, lay_app a b, Bool.and_assoc]
theorem dep_app : ∀ a b : List PyData, PyData.depthAll (a ++ b) ≤ PyData.depthAll a + PyData.depthAll b
  | [], b => by simp [PyData.depthAll]
  | x :: a, b => by
    have := dep_app a b
    simp only [List.cons_append, PyData.depthAll]; omega
theorem shp_app1 (p : List Stp) {d : PyData} (h1 : d.canLay0 = true) (h2 : d.depth ≤ 8) : shp (.list (p.map stD ++ [d])) = true := by
  have e1 := depAll_map (f := stD) p
  have e2 := dep_app (p.map stD) [d]
  have e3 : PyData.depthAll [d] ≤ 8 := by simp [PyData.depthAll]; omega
  unfold shp SeqAt.shaped
  simp [PyData.canLay0, PyData.depth, lay_app, layAll_map (f := stD) p, PyData.canLayAll0, h1]; omega
theorem things {net : List (List Nat)} (hv : NetV net) {r : Rul} {p : List Stp} (hg : goes net r [] p) (B : List Stp) (hB : ∀ st ∈ B, st.inn net.length ∧ letB net (lastB [] p) r st = false) (hB1 : B.length ≤ 1) {o : PyData} (ho : odd16 o) :
    ∀ x ∈ [PyData.list (p.map stD ++ B.map stD), .list (p.map stD ++ [.none]), .tuple (p.map stD), .none, o], thing10 net r p x := by
  have okI : ∀ i : Int, okN (.int i) := fun i => ⟨rfl, fun ds e => by cases e⟩
  intro x hx
  simp only [List.mem_cons, List.not_mem_nil, or_false] at hx
  rcases hx with rfl | rfl | rfl | rfl | rfl
  · match B, hB1 with
    | [], _ =>
      have e : PyData.list (p.map stD ++ ([] : List Stp).map stD) = .list (p.map stD) := by simp
      rw [e]
      exact ⟨!decide (p = []), false, oNe_listN (f := stD) p, (oNe_listM (f := stD) p p).trans (by simp), fun _ h => by cases h⟩
    | [st], _ =>
      obtain ⟨h1, h2⟩ := hB st List.mem_cons_self
      refine thing_any ?_ (.inl ?_)
      · refine lo_wrong hv r (fun d hd => ?_) ?_
        · rcases List.mem_append.mp hd with hd | hd
          · obtain ⟨st, _, rfl⟩ := List.mem_map.mp hd; exact okN_st st
          · rw [List.mem_singleton.mp hd]; exact okN_st st
        · have hw := wrongG_app (net := net) (r := r) [stD st] p [] 0 (goes_inn hv.ok p [] hg) hg
          rw [wrongG_step h1, h2] at hw
          intro h
          have h' : wrongG net r [] (p.map stD ++ [stD st]) 0 = .none := h
          rw [h'] at hw
          simp at hw
      · show shp (.list (p.map stD ++ [st].map stD)) = true
        rw [← List.map_append]; exact shp_listM _
  · exact thing_any (badP_app hv r hg (d := .none) ⟨rfl, fun ds e => by cases e⟩ rfl) (.inl (shp_app1 p rfl (by simp [PyData.depth])))
  · exact thing_any (badP_not hv r rfl rfl) (.inl (shp_tupleM p))
  · exact thing_any (badP_not hv r rfl rfl) (.inl (by decide))
  · have hs : ∀ d, okN d → badP net r (.list [d]) ∨ stepB net.length d = true := fun d hd => by
      cases q : stepB net.length d with
      | true => exact .inr rfl
      | false => exact .inl (badP_app (p := []) hv r trivial hd q)
    simp only [odd16, List.mem_cons, List.not_mem_nil, or_false] at ho
    rcases ho with rfl | rfl | rfl | rfl | rfl | rfl | rfl | rfl | rfl | rfl | rfl | rfl | rfl | rfl | rfl | rfl
    · exact thing_any (badP_not hv r rfl rfl) (.inl (by decide))
    · exact thing_any (badP_not hv r rfl rfl) (.inl (by decide))
    · exact thing_any (badP_not hv r rfl rfl) (.inl (by decide))
    · exact thing_any (badP_not hv r rfl rfl) (.inl (by decide))
    · exact thing_any (badP_not hv r rfl rfl) (.inl (by decide +kernel))
    · exact thing_any (badP_not hv r rfl rfl) (.inl (by decide +kernel))
    · exact thing_any (badP_not hv r rfl rfl) (.inl (by decide +kernel))
    · exact thing_any (badP_not hv r rfl rfl) (.inl (by decide))
    · obtain ⟨b2, h2⟩ := neX_ex (x := .list []) (L := p.map stD) (.inl shp_nilL) (shp_listM p)
      exact ⟨false, b2, rfl, h2, fun h => by cases h⟩
    · exact thing_any (badP_not hv r rfl rfl) (.inl (by decide))
    · exact thing_any (badP_app (p := []) hv r trivial (okI 1) rfl) (.inl (by decide))
    · exact thing_any (badP_not hv r rfl rfl) (.inr rfl)
    · exact thing_any (badP_not hv r rfl rfl) (.inl (by decide))
    · exact thing_any (badP_not hv r rfl rfl) (.inl (by decide))
    · exact thing_any (badP_not hv r rfl rfl) (.inl (by decide))
    · exact thing_any (badP_app (p := []) hv r trivial (d := .tuple []) ⟨rfl, fun ds e => by cases e; simp⟩ rfl) (.inl (by decide))
theorem law_true_10 (ns : List Int) : m_law_v10 [scriptD ns] = .ok (.frz (.bool true)) := by
  refine law_outer (by decide) (by decide) (fun js => ∃ (j1 j2 j3 j4 j5 j6 j7 j8 j9 : Jk) (j10 : Jm) (j11 j12 : Jk) (j13 : Jm) (j14 : Jk), js = [j1.c, j2.c, j3.c, j4.c, j5.c, j6.c, j7.c, j8.c, j9.c, j10.c, j11.c, j12.c, j13.c, j14.c]) ⟨jkE, jkE, jkE, jkE, jkE, jkE, jkE, jkE, jkE, jmE, jkE, jkE, jmE, jkE, rfl⟩ ?_
  rintro k hk js ⟨j1, j2, j3, j4, j5, j6, j7, j8, j9, j10, j11, j12, j13, j14, rfl⟩ K' hnx hct
  obtain ⟨rr, hbox, b, rfl⟩ := ev_box ns k hk
  obtain ⟨x6, hx6, hat6⟩ := pick [.int 6, .int 6, .int 6, .int 10] b 4 rfl (by decide)
  obtain ⟨M, rfl, hM1, hM2⟩ : ∃ M : Int, x6 = .int M ∧ 0 < M ∧ M ≤ 10 := by
    simp only [List.mem_cons, List.not_mem_nil, or_false] at hx6
    rcases hx6 with rfl | rfl | rfl | rfl
    · exact ⟨6, rfl, by decide, by decide⟩
    · exact ⟨6, rfl, by decide, by decide⟩
    · exact ⟨6, rfl, by decide, by decide⟩
    · exact ⟨10, rfl, by decide, by decide⟩
  obtain ⟨rr, d, hnet, ⟨b2, rfl⟩, net, rfl, hok, h1, h2⟩ := ev_net (b / 4) M hM1 hM2
  have hv : NetV net := ⟨hok, h1, by omega⟩
  have h10 := hv.ten
  obtain ⟨r, hru⟩ := ev_lrules b2
  obtain ⟨c, d, hpl, ⟨b3, rfl⟩, p, rfl, hg, hplen⟩ := ev_lplay hv r (b2 / 3) 14 9 (by decide) (by decide) (.inl rfl)
  have hll := ev_llays hv r p hg (by omega)
  have hlo : m__law_told_v5 [.int 0, netD net, .list (p.map stD), ruD r] = .ok (.own false (.list (([] :: laysB [] p).map laD))) := (told10_0 (ev_lays_of hv r p hg (by omega))).trans rfl
  have hlast := lays_last p
  have hlen : (laysB [] p).length = p.length := laysB_len p []
  obtain ⟨m, hmax, hmm, _⟩ := oMax_nat (L := ([] :: laysB [] p).map List.length) (by simp)
  rw [List.map_map] at hmax
  have hso : m__law_told_v5 [.int 1, netD net, .list (p.map stD), ruD r] = .ok (.frz (.int m)) := (told10_1 (ev_stones10 hv r p hg (by omega) hmax)).trans rfl
  have hco : m__law_told_v5 [.int 2, netD net, .list (p.map stD), ruD r] = .ok (.frz (.int (costL p : Nat))) := (told10_2 (ev_cost_of hv r p hg (by omega))).trans rfl
  have hlc := ev_lcost p
  have hsp := show_steps hv (goes_mem p [] hg) (by omega)
  have hsl : showOk (.list (([] :: laysB [] p).map laD)) = true := show_list shL (fun l hl => by
    have hl := lays_all hok p [] (.nil _) hg l hl
    have := hl.len
    exact ⟨fun y hy => Nat.lt_of_lt_of_le (hl.low y hy) (Nat.le_trans h10 (by decide)), by omega⟩) (by simp; omega)
  have hl1 : LayV net.length (lastB [] p) := goes_lay hok p [] (.nil _) hg
  have hLn : ([] :: laysB [] p).length ≤ 15 := by simp; omega
  have hno : noLists (([] :: laysB [] p).map laD) = true := noLists_laD _
  have hall := lays_all hok p [] (.nil _) hg
  generalize [] :: laysB [] p = L at hll hlo hlast hmax hmm hsl hLn hno hall
  have hc6 := compO_ro (i := 6) (v := 10) (ct := tYesC) (ce := cOpN oLen [.nm 10]) (env := [.frz (scriptD ns), .frz (.int k), .own false (.list [.int b3]), .frz (netD net), .frz (ruD r), .own false (.list (p.map stD)), .frz (.list (L.map laD)), .own false (.list (p.map stD)), .own false (.list (L.map laD ++ [.int 0])), j9.c, j10.c, j11.c, j12.c, j13.c, j14.c]) (f := laD) (xs := L) (fun _ => true) (fun l => .int (l.length : Nat))
    (.inl rfl) (by simp) (by simp) (by decide) (fun x hx => by simp [tYesC])
  rw [show L.filter (fun _ => true) = L from List.filter_eq_self.mpr fun _ _ => rfl] at hc6
  have hmL : m ≤ 10 := by
    obtain ⟨l, hl, rfl⟩ := List.mem_map.mp hmm
    exact Nat.le_trans (hall l hl).len h10
  have hsm : showOk (.int (m : Nat)) = true := showOk_of (d := nD m) (shN.okr m (Nat.lt_of_le_of_lt hmL (by decide))) (by simp [PyData.depth, nD]) (by simp [cnt, nD])
  have hcl : costL p ≤ p.length := by unfold costL; exact List.countP_le_length
  have hsc : showOk (.int (costL p : Nat)) = true := showOk_of (d := nD (costL p)) (shN.okr _ (Nat.lt_of_le_of_lt (show costL p ≤ 14 by omega) (by decide))) (by simp [PyData.depth, nD]) (by simp [cnt, nD])
  have hmax' : oMax [.list (L.map fun l => PyData.int (l.length : Nat))] = .val (.frz (.int m)) := hmax
  simp [hbox, ev_take, hat6, hnet, hru, hpl, hll, hlo, hsl, hsp, hno, lim, oNe_strs, show L.length < 1000000 by omega, hc6, hmax', hlc, rgD0]
  refine sat_forT (f := nD) (xs := List.range 3) (fun rest e => ∃ (j11 : Jk), e = [.frz (scriptD ns), .frz (.int k), .own false (.list [.int b3]), .frz (netD net), .frz (ruD r), .own false (.list (p.map stD)), .frz (.list (L.map laD)), .own false (.list (p.map stD)), .own false (.list (L.map laD ++ [.int 0])), .own false (.list [.list (L.map laD), .int m, .int (costL p : Nat)]), j10.c, j11.c, j12.c, j13.c, j14.c] ∧ ∀ w ∈ rest, w < 3) ⟨j11, rfl, by simp⟩ ?_ ?_
  · rintro w rest e ⟨j11, rfl, hr⟩ K2 Lk
    have hw := hr w List.mem_cons_self
    have hr2 := fun y hy => hr y (List.mem_cons_of_mem _ hy)
    rcases (show w = 0 ∨ w = 1 ∨ w = 2 by omega) with rfl | rfl | rfl
    · have a1 : atI [PyData.list (L.map laD), .int m, .int (costL p : Nat)] 0 = some (.list (L.map laD)) := rfl
      simp [hlo, a1, hsl, oNe_strs]
      exact Lk.nx _ ⟨⟨_, (by first | rfl | exact Jk.u _ | exact Jm.m _ | exact Jm.lck _ | simp | assumption)⟩, rfl, hr2⟩
    · have a1 : atI [PyData.list (L.map laD), .int m, .int (costL p : Nat)] 1 = some (.int m) := rfl
      simp [hso, a1, hsm, oNe_strs]
      exact Lk.nx _ ⟨⟨_, (by first | rfl | exact Jk.u _ | exact Jm.m _ | exact Jm.lck _ | simp | assumption)⟩, rfl, hr2⟩
    · have a1 : atI [PyData.list (L.map laD), .int m, .int (costL p : Nat)] 2 = some (.int (costL p : Nat)) := rfl
      simp [hco, a1, hsc, oNe_strs]
      exact Lk.nx _ ⟨⟨_, (by first | rfl | exact Jk.u _ | exact Jm.m _ | exact Jm.lck _ | simp | assumption)⟩, rfl, hr2⟩
  · rintro e ⟨j11, rfl, _⟩
    have hcb := comp1 (v := 13) (ci := iSeq (cLst [.ex (cTup [.ex (cK (.str (Str.ofString "put"))), .ex (cK (.int 0))]), .ex (cTup [.ex (cK (.str (Str.ofString "take"))), .ex (cK (.int 0))])])) (ct := cNotT (toT (cCall m__law_lets [.nm 3, .ex (cOp2 oIx (.nm 6) (.ex (cNeg (.ex (cK (.int 1)))))), .nm 13, .nm 4]))) (ce := cVar 13)
      (env := [.frz (scriptD ns), .frz (.int k), .own false (.list [.int b3]), .frz (netD net), .frz (ruD r), .own false (.list (p.map stD)), .frz (.list (L.map laD)), .own false (.list (p.map stD)), .own false (.list (L.map laD ++ [.int 0])), .own false (.list [.list (L.map laD), .int m, .int (costL p : Nat)]), j10.c, j11.c, j12.c, j13.c, j14.c])
      (f := stD) (xs := [Stp.put 0, Stp.take 0]) (fun st => !letB net (lastB [] p) r st) stD (by simp [stD]) (by simp) (by simp) (fun st hst => by
        have htop : st.top < net.length := by
          simp only [List.mem_cons, List.not_mem_nil, or_false] at hst
          rcases hst with rfl | rfl <;> (show (0 : Nat) < net.length; omega)
        simp [hlast, ev_llets (lastB [] p) st r htop])
    obtain ⟨B, hB⟩ : ∃ B, B = [Stp.put 0, Stp.take 0].filter (fun st => !letB net (lastB [] p) r st) := ⟨_, rfl⟩
    rw [← hB] at hcb
    have hB2 : ∀ st ∈ B, st.inn net.length ∧ letB net (lastB [] p) r st = false := fun st h => by
      rw [hB, List.mem_filter] at h
      obtain ⟨h1', h2'⟩ := h
      refine ⟨?_, by simpa using h2'⟩
      simp only [List.mem_cons, List.not_mem_nil, or_false] at h1'
      rcases h1' with rfl | rfl <;> (show (0 : Nat) < net.length; omega)
    obtain ⟨c, d, ho, ⟨b4, rfl⟩, o, rfl, ho2⟩ := ev_odd b3
    obtain ⟨B1, hct, hB3, hB4⟩ : ∃ B1, cutL B none (some 1) = B1 ∧ (∀ st ∈ B1, st.inn net.length ∧ letB net (lastB [] p) r st = false) ∧ B1.length ≤ 1 := ⟨B.take 1, cutL_take B 1, fun st h => hB2 st (List.mem_of_mem_take h), by rw [List.length_take]; omega⟩
    have hth := things hv hg B1 hB3 hB4 ho2
    have hpl14 : p.length ≤ 14 := by omega
    simp [hcb, ho, lim, hct, show p.length ≤ 999999 by omega, show p.length + B1.length ≤ 1000000 by omega]
    refine sat_for (f := id) (xs := [PyData.list (p.map stD ++ B1.map stD), .list (p.map stD ++ [.none]), .tuple (p.map stD), .none, o]) (fun rest e => ∃ (j11 j14 : Jk), e = [.frz (scriptD ns), .frz (.int k), .own false (.list [.int b4]), .frz (netD net), .frz (ruD r), .own false (.list (p.map stD)), .frz (.list (L.map laD)), .own false (.list (p.map stD)), .own false (.list (L.map laD ++ [.int 0])), .own false (.list [.list (L.map laD), .int m, .int (costL p : Nat)]), j10.c, j11.c, .own false (.list (B.map stD)), j13.c, j14.c] ∧ ∀ x ∈ rest, thing10 net r p x)
      ⟨j11, j14, rfl, hth⟩ ?_ ?_
    · rintro x rest e ⟨j11, j14, rfl, hx⟩ K2 Lk
      obtain ⟨t1, t2, e1, e2, hbad⟩ := hx x List.mem_cons_self
      simp [rgD0]
      refine sat_for (f := nD) (xs := List.range 3) (fun rest e => ∃ (j11 : Jk), e = [.frz (scriptD ns), .frz (.int k), .own false (.list [.int b4]), .frz (netD net), .frz (ruD r), .own false (.list (p.map stD)), .frz (.list (L.map laD)), .own false (.list (p.map stD)), .own false (.list (L.map laD ++ [.int 0])), .own false (.list [.list (L.map laD), .int m, .int (costL p : Nat)]), j10.c, j11.c, .own false (.list (B.map stD)), j13.c, .frz x] ∧ ∀ w ∈ rest, w < 3)
        ⟨j11, rfl, by simp⟩ ?_ ?_
      · rintro w rest2 e ⟨j11, rfl, hw⟩ K3 L3
        have fin := L3.nx _ ⟨⟨.frz (.int (w : Nat)), rfl⟩, rfl, fun y hy => hw y (List.mem_cons_of_mem _ hy)⟩
        cases t1 with
        | false => simp [e1]; exact fin
        | true =>
          cases t2 with
          | false => simp [e1, e2]; exact fin
          | true =>
            have t := told10_bad (hbad rfl rfl) (hw w List.mem_cons_self)
            simp [e1, e2, t, oNe_strs]; exact fin
      · rintro e ⟨j11, rfl, _⟩
        exact Lk.nx _ ⟨j11, ⟨_, (by first | rfl | exact Jk.u _ | exact Jm.m _ | exact Jm.lck _ | simp | assumption)⟩, rfl, fun y hy => hx y (List.mem_cons_of_mem _ hy)⟩
    · rintro e ⟨j11, j14, rfl, _⟩
      exact hnx _ ⟨⟨_, (by first | rfl | exact Jk.u _ | exact Jm.m _ | exact Jm.lck _ | simp | assumption)⟩, ⟨_, (by first | rfl | exact Jk.u _ | exact Jm.m _ | exact Jm.lck _ | simp | assumption)⟩, ⟨_, (by first | rfl | exact Jk.u _ | exact Jm.m _ | exact Jm.lck _ | simp | assumption)⟩, ⟨_, (by first | rfl | exact Jk.u _ | exact Jm.m _ | exact Jm.lck _ | simp | assumption)⟩, ⟨_, (by first | rfl | exact Jk.u _ | exact Jm.m _ | exact Jm.lck _ | simp | assumption)⟩, ⟨_, (by first | rfl | exact Jk.u _ | exact Jm.m _ | exact Jm.lck _ | simp | assumption)⟩, ⟨_, (by first | rfl | exact Jk.u _ | exact Jm.m _ | exact Jm.lck _ | simp | assumption)⟩, ⟨_, (by first | rfl | exact Jk.u _ | exact Jm.m _ | exact Jm.lck _ | simp | assumption)⟩, ⟨_, (by first | rfl | exact Jk.u _ | exact Jm.m _ | exact Jm.lck _ | simp | assumption)⟩, j10, j11, ⟨_, (by first | rfl | exact Jk.u _ | exact Jm.m _ | exact Jm.lck _ | simp | assumption)⟩, j13, j14, rfl⟩
end DL

/-! POX: repr of drawn odd things, wherever they stand. -/
namespace DL
open PySem L2
@[simp] theorem ev_revA (o : Opd) (env : Cs) : cRevA o env = (o.ev env).bind fun l env1 => match l.get env1 with
  | some (.list ds) => .ok (.own false (.list ds.reverse)) env1
  | some (.tuple ds) => .ok (.frz (.tuple ds.reverse)) env1
  | _ => .no := rfl
@[simp] theorem oReprX_val (d : PyData) : oReprX [d] = if showX d then .val (.frz (.str d.shown)) else .no := rfl
def dicA : PyData → Bool
  | .dict [(.str x, .int i)] => decide (x = Str.ofString "a") && decide (i = 1)
  | _ => false
theorem dicA_eq {d : PyData} (h : dicA d = true) : d = dispI [(Str.ofString "a", 1)] := by
  unfold dicA at h
  split at h
  · rw [Bool.and_eq_true, decide_eq_true_eq, decide_eq_true_eq] at h
    rw [h.1, h.2]; rfl
  · cases h
mutual
def okX : PyData → Bool
  | .none => true
  | .bool _ => true
  | .int i => decide (i.natAbs.log2 < 190)
  | .str x => PyData.strOk x
  | .list xs => okXs xs
  | .tuple xs => okXs xs
  | .dict kvs => dicA (.dict kvs)
def okXs : List PyData → Bool
  | [] => true
  | x :: xs => okX x && okXs xs
end
mutual
theorem okX_lay : ∀ d, okX d = true → canX d = true ∧ d.showable = true
  | .none, _ => ⟨rfl, rfl⟩
  | .bool _, _ => ⟨rfl, rfl⟩
  | .int i, h => ⟨rfl, by simp only [okX, decide_eq_true_eq] at h; simp only [PyData.showable, decide_eq_true_eq]; omega⟩
  | .str x, h => ⟨rfl, rfl⟩
  | .list xs, h => by have := okXs_lay xs (by simpa [okX] using h); simpa [canX, PyData.showable] using this
  | .tuple xs, h => by have := okXs_lay xs (by simpa [okX] using h); simpa [canX, PyData.showable] using this
  | .dict kvs, h => by rw [dicA_eq (d := .dict kvs) (by simpa [okX] using h)]; exact ⟨rfl, by decide +kernel⟩
theorem okXs_lay : ∀ xs, okXs xs = true → canXs xs = true ∧ PyData.showableAll xs = true
  | [], _ => ⟨rfl, rfl⟩
  | x :: xs, h => by
    simp only [okXs, Bool.and_eq_true] at h
    have h1 := okX_lay x h.1
    have h2 := okXs_lay xs h.2
    simp [canXs, PyData.showableAll, h1, h2]
end
mutual
theorem okX_len : ∀ d, okX d = true → d.shown.length + 3 ≤ 210 * cnt d
  | .none, _ => by decide +kernel
  | .bool b, _ => by cases b <;> decide +kernel
  | .int i, h => okR_len (.int i) h
  | .str x, h => okR_len (.str x) h
  | .list xs, h => by
    have h1 := okXs_len xs (by simpa [okX] using h)
    have h2 := listText_len_le (PyData.shownAll xs)
    show (listText (PyData.shownAll xs)).length + 3 ≤ 210 * (cnts xs + 1)
    omega
  | .tuple xs, h => by
    have h1 := okXs_len xs (by simpa [okX] using h)
    have h2 := tupleText_len_le (PyData.shownAll xs)
    show (tupleText (PyData.shownAll xs)).length + 3 ≤ 210 * (cnts xs + 1)
    omega
  | .dict kvs, h => by rw [dicA_eq (d := .dict kvs) (by simpa [okX] using h)]; decide +kernel
theorem okXs_len : ∀ xs, okXs xs = true → ((PyData.shownAll xs).map (·.length)).sum + 2 * (PyData.shownAll xs).length ≤ 210 * cnts xs
  | [], _ => by simp [PyData.shownAll, cnts]
  | x :: xs, h => by
    simp only [okXs, Bool.and_eq_true] at h
    have h1 := okX_len x h.1
    have h2 := okXs_len xs h.2
    simp only [PyData.shownAll, List.map_cons, List.sum_cons, List.length_cons, cnts]
    omega
end
theorem showX_okX {d : PyData} (h : okX d = true) (h2 : d.depth ≤ 40) (h3 : cnt d ≤ 4700) : showX d = true := by
  have h4 := okX_lay d h
  have h5 := okX_len d h
  unfold showX lim
  rw [Bool.or_eq_true]
  right
  simp only [Bool.and_eq_true, decide_eq_true_eq]
  exact ⟨⟨⟨h4.1, h4.2⟩, h2⟩, by omega⟩
/-- small things: so deep, so wide -/
structure SmX (k w : Nat) (d : PyData) : Prop where
  ok : okX d = true
  dep : d.depth ≤ k
  cnt : cnt d ≤ w
theorem smXs {k w : Nat} : ∀ L : List PyData, (∀ d ∈ L, SmX k w d) → okXs L = true ∧ PyData.depthAll L ≤ k ∧ cnts L ≤ w * L.length
  | [], _ => ⟨rfl, by simp [PyData.depthAll], by simp [cnts]⟩
  | d :: L, h => by
    obtain ⟨a1, a2, a3⟩ := h d List.mem_cons_self
    obtain ⟨b1, b2, b3⟩ := smXs L fun x hx => h x (List.mem_cons_of_mem _ hx)
    refine ⟨by simp [okXs, a1, b1], by simp only [PyData.depthAll]; omega, ?_⟩
    simp only [DL.cnts, List.length_cons, Nat.mul_add, Nat.mul_one]; omega
theorem SmX.tup {k w : Nat} {L : List PyData} {n : Nat} (h : ∀ d ∈ L, SmX k w d) (hn : w * L.length + 1 ≤ n) : SmX (k + 1) n (.tuple L) := by
  obtain ⟨a1, a2, a3⟩ := smXs L h
  exact ⟨by simpa [okX] using a1, by simp only [PyData.depth]; omega, by simp only [DL.cnt]; omega⟩
theorem SmX.lst {k w : Nat} {L : List PyData} {n : Nat} (h : ∀ d ∈ L, SmX k w d) (hn : w * L.length + 1 ≤ n) : SmX (k + 1) n (.list L) := by
  obtain ⟨a1, a2, a3⟩ := smXs L h
  exact ⟨by simpa [okX] using a1, by simp only [PyData.depth]; omega, by simp only [DL.cnt]; omega⟩
theorem SmX.show {k w : Nat} {d : PyData} (h : SmX k w d) (hk : k ≤ 40) (hw : w ≤ 4700) : showX d = true := showX_okX h.ok (Nat.le_trans h.dep hk) (Nat.le_trans h.cnt hw)
theorem SmX.more {k w k' w' : Nat} {d : PyData} (h : SmX k w d) (hk : k ≤ k') (hw : w ≤ w') : SmX k' w' d := ⟨h.ok, Nat.le_trans h.dep hk, Nat.le_trans h.cnt hw⟩
theorem SmX.nat {n : Nat} (h : n < 2 ^ 64) (k w : Nat) (hw : 1 ≤ w) : SmX k w (nD n) := ⟨by show decide ((n : Int).natAbs.log2 < 190) = true; rw [Int.natAbs_natCast]; exact decide_eq_true (log2_lt h), by simp [nD, PyData.depth], by simp [nD, DL.cnt]; omega⟩
theorem odd16_sm {x : PyData} (h : odd16 x) : SmX 2 12 x := by
  simp only [odd16, List.mem_cons, List.not_mem_nil, or_false] at h
  rcases h with rfl | rfl | rfl | rfl | rfl | rfl | rfl | rfl | rfl | rfl | rfl | rfl | rfl | rfl | rfl | rfl <;> exact ⟨by decide +kernel, by decide +kernel, by decide +kernel⟩
theorem odd16_scr {x : PyData} (h : odd16 x) : scrD x = false := by
  simp only [odd16, List.mem_cons, List.not_mem_nil, or_false] at h
  rcases h with rfl | rfl | rfl | rfl | rfl | rfl | rfl | rfl | rfl | rfl | rfl | rfl | rfl | rfl | rfl | rfl <;> rfl
end DL

/-! PK01: law 01. -/
namespace DL
open PySem L2
def c__law_truth : CS := (cRet (cAnd (cIsi "bool" (.nm 0)) (cOp2 oEq (.nm 0) (.nm 1))))
def m__law_truth : Fn := runDef 2 c__law_truth
def c__law_is_net : CS := (cSeq (cIfS (cOrT (cNotT (toT (cIsi "tuple" (.nm 0)))) (cNotT (toT (cChain oLe oLe (.ex (cK (.int 1))) (.ex (cOpN oLen [(.nm 0)])) (.ex (cK (.int 10))))))) (cRet (cK (.bool false))) cNext)
    (cSeq (cFor (.one 1) (iArgs rg1 [(.ex (cOpN oLen [(.nm 0)]))]) (cSeq (cSet 2 (cOp2 oIx (.nm 0) (.nm 1)))
    (cSeq (cIfS (cOrT (cNotT (toT (cIsi "tuple" (.nm 2)))) (cNotT (toT (cOpN oAll [(.ex (cCompO 2 (.one 3) tYesC (cCall m__law_whole [(.nm 3)]) [3]))])))) (cRet (cK (.bool false))) cNext)
    (cIfS (cOrT (toT (cOp2 oNe (.ex (cOp1 oSortSet (.nm 2))) (.ex (cOpN oList [(.nm 2)])))) (toT (cOp2 oNe (.ex (cCompO 2 (.one 3) (cNotT (toT (cChain oLe oLt (.ex (cK (.int 0))) (.nm 3) (.nm 1)))) (cVar 3) [3])) (.ex (cLst []))))) (cRet (cK (.bool false))) cNext))))
    (cRet (cK (.bool true)))))
def m__law_is_net : Fn := runDef 4 c__law_is_net
def c__law_bent : CS := (cSeq (cSet 3 (cCallI m__law_take 0 [(.ex (cOpN oLen [(.nm 1)]))]))
    (cSeq (cSet 4 (cOp2 oIx (.nm 1) (.nm 3)))
    (cSeq (cSet 5 (cLst [(.ex (cOpN oList [(.nm 4)])), (.ex (cRevA (.nm 4))), (.ex (cOp2 oAdd (.nm 4) (.ex (cSl (.nm 4) (.some (.ex (cNeg (.ex (cK (.int 1)))))) .none)))), (.ex (cOp2 oAdd (.nm 4) (.ex (cTup [(.ex (cVar 3))])))), (.ex (cOp2 oAdd (.nm 4) (.ex (cTup [(.ex (cOp2 oAdd (.ex (cOpN oLen [(.nm 1)])) (.ex (cK (.int 3)))))])))), (.ex (cOp2 oAdd (.ex (cTup [(.ex (cNeg (.ex (cK (.int 1)))))])) (.nm 4)))]))
    (cSeq (cSet 5 (cOp2 oAdd (.nm 5) (.ex (cLst [(.ex (cOp2 oAdd (.ex (cTup [(.ex (cK (.bool false)))])) (.ex (cSl (.nm 4) (.some (.ex (cK (.int 1)))) .none)))), (.ex (cVar 2)), (.ex (cSl (.nm 4) (.some (.ex (cK (.int 1)))) .none)), (.ex (cOp2 oAdd (.ex (cTup [(.ex (cVar 2))])) (.nm 4)))]))))
    (cRet (cOp2 oAdd (.ex (cOp2 oAdd (.ex (cSl (.nm 1) .none (.some (.nm 3)))) (.ex (cTup [(.ex (cOp2 oIx (.nm 5) (.ex (cCallI m__law_take 0 [(.ex (cK (.int 10)))]))))])))) (.ex (cSl (.nm 1) (.some (.ex (cOp2 oAdd (.nm 3) (.ex (cK (.int 1)))))) .none))))))))
def m__law_bent : Fm := runDefI 6 c__law_bent
def c_law : CS := (cSeq (cFor (.one 1) (iArgs rg1 [(.ex (cOpN oMax2 [(.ex (cK (.int 1))), (.ex (cOpN oMin2 [(.ex (cOpN oLen [(.nm 0)])), (.ex (cK (.int 6)))]))]))]) (cSeq (cSet 2 (cCall m__law_box [(.nm 0), (.nm 1)]))
    (cSeq (cSet 3 (cCallI m__law_net 2 [(.ex (cOp2 oIx (.ex (cLst [(.ex (cK (.int 6))), (.ex (cK (.int 6))), (.ex (cK (.int 6))), (.ex (cK (.int 10)))])) (.ex (cCallI m__law_take 2 [(.ex (cK (.int 4)))]))))]))
    (cSeq (cSet 4 (cCallI m__law_odd 2 []))
    (cSeq (cSet 5 (cOp2 oAdd (.nm 3) (.ex (cOp2 oMulU (.ex (cTup [(.ex (cTup []))])) (.ex (cOp2 oSub (.ex (cK (.int 10))) (.ex (cOpN oLen [(.nm 3)]))))))))
    (cSeq (cSet 6 (cLst [(.ex (cVar 3)), (.ex (cCallI m__law_bent 2 [(.ex (cVar 3)), (.ex (cVar 4))])), (.ex (cCallI m__law_bent 2 [(.ex (cVar 3)), (.ex (cVar 4))])), (.ex (cOpN oList [(.nm 3)])), (.ex (cTup [])), (.ex (cVar 4)), (.ex (cTup [(.ex (cVar 4))])), (.ex (cTup [(.ex (cTup []))])), (.ex (cVar 5))]))
    (cFor (.one 7) (iSeq (cOp2 oAdd (.nm 6) (.ex (cLst [(.ex (cOp2 oAdd (.nm 5) (.ex (cTup [(.ex (cTup []))])))), (.ex (cOp2 oAdd (.nm 3) (.ex (cTup [(.ex (cRg1 (fun ds => .val (.frz (.tuple ds))) (.ex (cOpN oLen [(.nm 3)]))))]))))])))) (cSeq (cSet 8 (cOpN oReprX [(.nm 7)]))
    (cIfS (cOrT (cNotT (toT (cCall m__law_truth [(.ex (cCall m_is_net [(.nm 7)])), (.ex (cCall m__law_is_net [(.nm 7)]))]))) (toT (cOp2 oNe (.ex (cOpN oReprX [(.nm 7)])) (.nm 8)))) (cRet (cK (.bool false))) cNext)))))))))
    (cRet (cK (.bool true))))
def m_law : Fn := runDef 9 c_law
/-- what may stand in a thing that is handed in -/
structure El01 (d : PyData) : Prop where
  ok : okN d
  sm : SmX 3 250 d
  len : ∀ ds, d = .tuple ds → ds.length ≤ 40
/-- a thing that is handed in -/
structure Th01 (d : PyData) : Prop where
  scr : scrD d = false
  els : ∀ ds, d = .tuple ds → ∀ x ∈ ds, El01 x
  shw : showX d = true
theorem th_tup {ds : List PyData} (h : ∀ x ∈ ds, El01 x) (hl : ds.length ≤ 12) : Th01 (.tuple ds) :=
  ⟨rfl, fun _ e => by cases e; exact h, (SmX.tup (n := 4700) (fun d hd => (h d hd).sm) (by omega)).show (by decide) (by decide)⟩
theorem el_tup {ds : List PyData} (h : ∀ x ∈ ds, SmX 2 12 x ∧ scrD x = false) (hl : ds.length ≤ 20) : El01 (.tuple ds) :=
  ⟨⟨rfl, fun _ e x hx => by cases e; exact (h x hx).2⟩, SmX.tup (n := 250) (fun d hd => (h d hd).1) (by omega), fun _ e => by cases e; omega⟩
theorem el_lst {ds : List PyData} (h : ∀ x ∈ ds, SmX 2 12 x ∧ scrD x = false) (hl : ds.length ≤ 20) : El01 (.list ds) :=
  ⟨⟨rfl, fun _ e => by cases e⟩, SmX.lst (n := 250) (fun d hd => (h d hd).1) (by omega), fun _ e => by cases e⟩
theorem el_odd {x : PyData} (h : odd16 x) : El01 x := by
  refine ⟨?_, (odd16_sm h).more (by decide) (by decide), ?_⟩
  · refine ⟨odd16_scr h, ?_⟩
    simp only [odd16, List.mem_cons, List.not_mem_nil, or_false] at h
    rcases h with rfl | rfl | rfl | rfl | rfl | rfl | rfl | rfl | rfl | rfl | rfl | rfl | rfl | rfl | rfl | rfl <;> intro ds e <;> cases e <;> simp [scrD]
  · simp only [odd16, List.mem_cons, List.not_mem_nil, or_false] at h
    rcases h with rfl | rfl | rfl | rfl | rfl | rfl | rfl | rfl | rfl | rfl | rfl | rfl | rfl | rfl | rfl | rfl <;> intro ds e <;> cases e <;> simp
def iZ (i : Int) : PyData := .int i
instance : EncOk iZ where
  eqv a b := by simp [iZ, PyData.eqv]; rw [Bool.eq_iff_iff]; simp
  lay a := rfl
  dpt a := by simp [iZ, PyData.depth]
/-! ### the law's own look -/
theorem rising_int : ∀ (l : List Int) (a b : Int), risingD (l.map iZ) a b = true ↔ (∀ i ∈ l, a < i) ∧ l.Pairwise (· < ·) ∧ ∀ i ∈ l, i < b
  | [], _, _ => by simp [risingD]
  | x :: l, a, b => by
    show (decide (a < x) && decide (x < b) && risingD (l.map iZ) x b) = true ↔ _
    simp only [Bool.and_eq_true, decide_eq_true_eq, rising_int l x b, List.mem_cons, List.pairwise_cons]
    constructor
    · rintro ⟨⟨h1, h2⟩, h3, h4, h5⟩
      exact ⟨fun i hi => by rcases hi with rfl | hi; exact h1; exact Int.lt_trans h1 (h3 i hi), ⟨h3, h4⟩, fun i hi => by rcases hi with rfl | hi; exact h2; exact h5 i hi⟩
    · rintro ⟨h1, ⟨h3, h4⟩, h5⟩
      exact ⟨⟨h1 x (.inl rfl), h5 x (.inl rfl)⟩, h3, h4, fun i hi => h5 i (.inr hi)⟩
theorem ints_all : ∀ ds : List PyData, ds.all wholeD = true → ∃ l : List Int, ds = l.map iZ
  | [], _ => ⟨[], rfl⟩
  | d :: ds, h => by
    rw [List.all_cons, Bool.and_eq_true] at h
    obtain ⟨l, e⟩ := ints_all ds h.2
    cases d with
    | int i => exact ⟨i :: l, by rw [e]; rfl⟩
    | _ => cases h.1
theorem rising_whole : ∀ (ds : List PyData) (a b : Int), risingD ds a b = true → ds.all wholeD = true
  | [], _, _, _ => rfl
  | d :: ds, a, b, h => by
    cases d with
    | int i =>
      simp only [risingD, Bool.and_eq_true] at h
      rw [List.all_cons, rising_whole ds i b h.2]; rfl
    | _ => cases h
theorem intsOf_int : ∀ l : List Int, intsOf (l.map iZ) = some l
  | [] => rfl
  | i :: l => by
    show (intsOf (l.map iZ)).map _ = _
    rw [intsOf_int l]; rfl
theorem ev_lisnet (x : PyData) (hx : scrD x = false) (hs : ∀ ds, x = .tuple ds → ∀ d ∈ ds, El01 d) : m__law_is_net [x] = .ok (.frz (.bool (netB x))) := by
  apply run_of; intro K kk
  cases x with
  | dict k => simp [c__law_is_net, isi_dict "tuple" k hx]; exact kk.rt _ _ rfl
  | tuple ds =>
    by_cases hl : 1 ≤ ds.length ∧ ds.length ≤ 10
    · obtain ⟨h1, h2⟩ := hl
      have hs := hs ds rfl
      have hnb : netB (.tuple ds) = (ds.zipIdx 0).all fun p => needsB p.1 p.2 := by unfold netB; simp [h1, h2]
      simp [c__law_is_net, show (1 : Int) ≤ (ds.length : Int) by omega, show (ds.length : Int) ≤ 10 by omega, show (ds.length : Int) ≤ 1000000 by omega, rgD0, List.range_eq_range']
      refine sat_forT (f := nD) (xs := List.range' 0 ds.length) (fun rest e => ∃ (A C : List PyData) (j1 j2 : Jk) (j3 : Jm), e = [.frz (.tuple ds), j1.c, j2.c, j3.c] ∧ ds = A ++ C ∧ rest = List.range' A.length C.length ∧ ((C.zipIdx A.length).all fun p => needsB p.1 p.2) = netB (.tuple ds)) ⟨[], ds, jkE, jkE, jmE, rfl, rfl, rfl, hnb.symm⟩ ?_ ?_
      · rintro i rest e ⟨A, C, j1, j2, j3, rfl, hA, hr, hg⟩ K' L
        cases C with
        | nil => cases hr
        | cons d C =>
          rw [List.length_cons, List.range'_succ] at hr
          injection hr with h1 h2
          subst h1
          have hd := hs d (by rw [hA]; simp)
          have hat : ds[A.length]? = some d := by rw [hA, List.getElem?_append_right (Nat.le_refl _), Nat.sub_self]; rfl
          rw [List.zipIdx_cons, List.all_cons] at hg
          have no : needsB d A.length = false → K'.rt (.frz (.bool false)) [.frz (.tuple ds), .frz (.int A.length), .frz d, j3.c] := fun h => L.rt _ _ (kk.rt _ _ (by rw [← hg, h]; rfl))
          cases d with
          | dict k => simp [atI_nat, hat, isi_dict "tuple" k hd.ok.1]; exact no rfl
          | tuple ns =>
            have hns := hd.ok.2 ns rfl
            have hnl := hd.len ns rfl
            have hall : oAll [.list (ns.map fun d => .bool (wholeD d))] = .val (.frz (.bool (ns.all wholeD))) := oAll_map _ _
            have hc : cCompO 2 (.one 3) tYesC (cCall m__law_whole [.nm 3]) [3] [.frz (.tuple ds), .frz (.int A.length), .frz (.tuple ns), j3.c] = .ok (.own false (.list (ns.map fun d => .bool (wholeD d)))) [.frz (.tuple ds), .frz (.int A.length), .frz (.tuple ns), j3.c] := by
              have hc := compO_ro (i := 2) (v := 3) (ct := tYesC) (ce := cCall m__law_whole [.nm 3]) (env := [.frz (.tuple ds), .frz (.int A.length), .frz (.tuple ns), j3.c]) (f := id) (xs := ns) (fun _ => true) (fun d => .bool (wholeD d))
                (.inr (.inl (by rw [List.map_id]; rfl))) (by simp) (by simp) (by decide) (fun d h => by simp [tYesC, ev_lwhole d (hns d h)])
              rw [hc]; simp
            generalize (ns.map fun d => PyData.bool (wholeD d)) = L2 at hc hall
            cases hw : ns.all wholeD with
            | false =>
              rw [hw] at hall
              simp [atI_nat, hat, hc, hall]
              refine no ?_
              cases hq : needsB (.tuple ns) A.length with
              | false => rfl
              | true => rw [rising_whole ns _ _ hq] at hw; cases hw
            | true =>
              rw [hw] at hall
              obtain ⟨l, rfl⟩ := ints_all ns hw
              have hset : oSortSet (.tuple (l.map iZ)) = .val (.own false (.list ((setI l).map iZ))) := by
                have hul : (uniqI l).length ≤ l.length := List.Nodup.length_le_of_subset (nodup_uniqI l) fun k hk => mem_uniqI.mp hk
                unfold oSortSet; simp only [intsOf_int]; rw [if_pos ⟨by simp at hnl; omega, by simp at hnl; omega⟩]; rfl
              have hne : oNe (.list ((setI l).map iZ)) (.list (l.map iZ)) = .val (.frz (.bool (!decide (setI l = l)))) := oNe_listM (f := iZ) _ _
              have hco := compO_ro (i := 2) (v := 3) (ct := cNotT (toT (cChain oLe oLt (.ex (cK (.int 0))) (.nm 3) (.nm 1)))) (ce := cVar 3) (env := [.frz (.tuple ds), .frz (.int A.length), .frz (.tuple (l.map iZ)), j3.c]) (f := iZ) (xs := l) (fun (i : Int) => !(decide (0 ≤ i) && decide (i < (A.length : Int)))) iZ
                (.inr (.inl rfl)) (by simp) (by simp) (by decide) (fun i h => by simp [iZ])
              have hne2 : oNe (.list ((l.filter fun (i : Int) => !(decide (0 ≤ i) && decide (i < (A.length : Int)))).map iZ)) (.list []) = .val (.frz (.bool (!decide ((l.filter fun (i : Int) => !(decide (0 ≤ i) && decide (i < (A.length : Int)))) = [])))) := oNe_listM (f := iZ) _ []
              have hb : needsB (.tuple (l.map iZ)) A.length = (decide (setI l = l) && decide ((l.filter fun (i : Int) => !(decide (0 ≤ i) && decide (i < (A.length : Int)))) = [])) := by
                rw [Bool.eq_iff_iff, Bool.and_eq_true, decide_eq_true_eq, decide_eq_true_eq]
                show risingD (l.map iZ) (-1) A.length = true ↔ _
                rw [rising_int, List.filter_eq_nil_iff]
                constructor
                · rintro ⟨a1, a2, a3⟩
                  refine ⟨ltI_unique (setI_lt l) a2 fun k => setI_mem, fun i hi => ?_⟩
                  have := a1 i hi; have := a3 i hi
                  simp; omega
                · rintro ⟨a1, a2⟩
                  refine ⟨fun i hi => ?_, by rw [← a1]; exact setI_lt l, fun i hi => ?_⟩
                  · have := a2 i hi; simp at this; omega
                  · have := a2 i hi; simp at this; omega
              generalize (l.filter fun (i : Int) => !(decide (0 ≤ i) && decide (i < (A.length : Int)))) = F at hco hne2 hb
              have hli : oList [.tuple (l.map iZ)] = .val (.own false (.list (l.map iZ))) := rfl
              by_cases hq : setI l = l
              · by_cases hq2 : F = []
                · simp [hq, hq2] at hne hne2 hb hset
                  simp [atI_nat, hat, hc, hall, hset, hli, hne, hco, hne2, hq2]
                  exact L.nx _ ⟨A ++ [.tuple (l.map iZ)], C, ⟨.frz (.int A.length), rfl⟩, ⟨.frz (.tuple (l.map iZ)), rfl⟩, j3, rfl, by rw [hA]; simp, by rw [h2]; simp, by rw [hb, Bool.true_and] at hg; simpa using hg⟩
                · simp [hq, hq2] at hne hne2 hb hset
                  simp [atI_nat, hat, hc, hall, hset, hli, hne, hco, hne2]
                  exact ⟨fun _ => no hb, fun h => (hq2 h).elim⟩
              · simp [hq] at hne hb
                simp [atI_nat, hat, hc, hall, hset, hli, hne, hq]
                exact no hb
          | _ => simp [atI_nat, hat]; exact no rfl
      · rintro e ⟨A, C, j1, j2, j3, rfl, hA, hr, hg⟩
        have hC : C = [] := by cases C with | nil => rfl | cons y C => cases hr
        subst hC
        simp
        exact kk.rt _ _ (by rw [← hg]; rfl)
    · have hb : netB (.tuple ds) = false := by
        unfold netB; simp; omega
      rw [hb] at kk
      by_cases h1 : 1 ≤ ds.length
      · have h2 : ¬ (ds.length : Int) ≤ 10 := by omega
        simp [c__law_is_net, show (1 : Int) ≤ (ds.length : Int) by omega, h2]
        exact kk.rt (.frz (.bool false)) _ rfl
      · simp [c__law_is_net, show ¬ (1 : Int) ≤ (ds.length : Int) by omega]
        exact kk.rt (.frz (.bool false)) _ rfl
  | _ => simp [c__law_is_net]; exact kk.rt _ _ rfl
theorem ev_truth (a : Bool) : m__law_truth [.bool a, .bool a] = .ok (.frz (.bool true)) := by
  apply run_of; intro K kk
  cases a <;> simp [c__law_truth] <;> exact kk.rt _ _ rfl
theorem ev_lbent {net : List (List Nat)} (hv : NetV net) {o : PyData} (ho : odd16 o) (b : Int) :
    ∃ c d, m__law_bent (.list [.int b]) [netD net, o] = .ok c d ∧ (∃ b' : Int, d = .list [.int b']) ∧ ∃ ds, c = .frz (.tuple ds) ∧ (∀ x ∈ ds, El01 x) ∧ ds.length ≤ 12 := by
  have h10 := hv.ten
  have h1 := hv.one
  obtain ⟨s, hs, hsn⟩ : ∃ s : Nat, b % (net.length : Int) = s ∧ s < net.length := ⟨(b % (net.length : Int)).toNat, by
    have := Int.emod_nonneg b (show (net.length : Int) ≠ 0 by omega); omega, by
    have := Int.emod_lt_of_pos b (show 0 < (net.length : Int) by omega); omega⟩
  have t1 := ev_take b (net.length : Int) (by omega) (by omega)
  rw [hs] at t1
  have t2 := ev_take (b / (net.length : Int)) 10 (by omega) (by omega)
  have hnl := nds_len hv.ok s
  have hlow : ∀ x ∈ nds net s, x < 10 := fun x hx => by have := nds_lt hv.ok hx; omega
  have hat := nds_at hsn
  have hel : ∀ x ∈ (nds net s).map nD, SmX 2 12 x ∧ scrD x = false := fun x hx => by
    obtain ⟨y, hy, rfl⟩ := List.mem_map.mp hx
    exact ⟨SmX.nat (by have := hlow y hy; omega) 2 12 (by decide), rfl⟩
  have hel0 : El01 (laD (nds net s)) := el_tup hel (by simp; omega)
  have hLl : ((nds net s).map nD).length ≤ 10 := by simp; omega
  have hla : laD (nds net s) = .tuple ((nds net s).map nD) := rfl
  generalize (nds net s).map nD = L at hel hLl hla
  have hnat : ∀ n : Nat, n < 100 → SmX 2 12 (.int (n : Int)) ∧ scrD (.int (n : Int)) = false := fun n hn => ⟨SmX.nat (by omega) 2 12 (by decide), rfl⟩
  have hneg : SmX 2 12 (.int (-1)) ∧ scrD (.int (-1)) = false := ⟨⟨by decide +kernel, by decide +kernel, by decide +kernel⟩, rfl⟩
  have hfal : SmX 2 12 (.bool false) ∧ scrD (.bool false) = false := ⟨⟨by decide +kernel, by decide +kernel, by decide +kernel⟩, rfl⟩
  have hodd : SmX 2 12 o ∧ scrD o = false := ⟨odd16_sm ho, odd16_scr ho⟩
  have cs : ∀ lo hi, ∀ x ∈ cutD L lo hi, x ∈ L := fun lo hi x h => List.mem_of_mem_drop (List.mem_of_mem_take h)
  have cl : ∀ lo hi, (cutD L lo hi).length ≤ L.length := fun lo hi => by unfold cutD; simp; omega
  have cs1 := cs (some (-1)) none
  have cs2 := cs (some 1) none
  have cl1 := cl (some (-1)) none
  have cl2 := cl (some 1) none
  have ns : ∀ lo hi, (∀ x ∈ cutD (net.map laD) lo hi, El01 x) ∧ (cutD (net.map laD) lo hi).length ≤ net.length := fun lo hi => ⟨fun x h => by
    obtain ⟨y, hy, rfl⟩ := List.mem_map.mp (List.mem_of_mem_drop (List.mem_of_mem_take h))
    obtain ⟨i, hi, e⟩ := List.getElem_of_mem hy
    have e2 : nds net i = y := by unfold nds; rw [List.getElem?_eq_getElem hi, e]; rfl
    have hl2 := nds_len hv.ok i
    have hlow2 : ∀ z ∈ nds net i, z < 10 := fun z hz => by have := nds_lt hv.ok hz; omega
    rw [e2] at hl2 hlow2
    exact el_tup (fun z hz => by
      obtain ⟨w, hw, rfl⟩ := List.mem_map.mp hz
      exact ⟨SmX.nat (by have := hlow2 w hw; omega) 2 12 (by decide), rfl⟩) (by simp; omega), by unfold cutD; simp; omega⟩
  have n1 := ns none (some (s : Int))
  have n2 := ns (some ((s : Int) + 1)) none
  have n2l : (cutD (net.map laD) (some ((s : Int) + 1)) none).length + (cutD (net.map laD) none (some (s : Int))).length + 1 ≤ 12 := by
    rw [cutD_map, cutD_map, show ((s : Int) + 1) = ((s + 1 : Nat) : Int) by omega, cutL_drop, cutL_take]; simp; omega
  have hnt : netD net = .tuple (net.map laD) := rfl
  have hix : oIx (.tuple (net.map laD)) (.int s) = .val (.frz (.tuple L)) := by
    show (match atI (net.map laD) (s : Int) with | some d => OR.val (.frz d) | none => .no) = _
    rw [atI_nat, List.getElem?_map, hat]; exact congrArg (fun d => OR.val (.frz d)) hla
  have hlen : oLen [.tuple (net.map laD)] = .val (.frz (.int net.length)) := oLen_net net
  have hnl10 : (net.map laD).length = net.length := List.length_map _
  rw [hnt]
  generalize net.map laD = ND at ns n1 n2 n2l hix hlen hnl10
  generalize hA1 : cutD L (some (-1)) none = A1 at cs1 cl1
  generalize hA2 : cutD L (some 1) none = A2 at cs2 cl2
  generalize hN1 : cutD ND none (some (s : Int)) = N1 at n1 n2l
  generalize hN2 : cutD ND (some ((s : Int) + 1)) none = N2 at n2 n2l
  apply runI_ex; intro K k
  obtain ⟨x, hx, hat2⟩ := pick [.list L, .tuple L.reverse, .tuple (L ++ A1), .tuple (L ++ [.int (s : Nat)]), .tuple (L ++ [.int ((net.length : Int) + 3)]), .tuple (.int (-1) :: L), .tuple (.bool false :: A2), o, .tuple A2, .tuple (o :: L)] (b / (net.length : Int)) 10 rfl (by decide)
  have hx2 : El01 x := by
    have one : ∀ {a : PyData}, (SmX 2 12 a ∧ scrD a = false) → ∀ y ∈ [a], SmX 2 12 y ∧ scrD y = false := fun h y hy => by rw [List.mem_singleton.mp hy]; exact h
    have app : ∀ {A B : List PyData}, (∀ d ∈ A, SmX 2 12 d ∧ scrD d = false) → (∀ d ∈ B, SmX 2 12 d ∧ scrD d = false) → ∀ d ∈ A ++ B, SmX 2 12 d ∧ scrD d = false := fun hA hB d hd => (List.mem_append.mp hd).elim (hA d) (hB d)
    have con : ∀ {a : PyData} {B : List PyData}, (SmX 2 12 a ∧ scrD a = false) → (∀ d ∈ B, SmX 2 12 d ∧ scrD d = false) → ∀ y ∈ a :: B, SmX 2 12 y ∧ scrD y = false := fun h hB y hy => by
      rcases List.mem_cons.mp hy with rfl | hy
      · exact h
      · exact hB y hy
    have hA1 : ∀ d ∈ A1, SmX 2 12 d ∧ scrD d = false := fun d hd => hel d (cs1 d hd)
    have hA2 : ∀ d ∈ A2, SmX 2 12 d ∧ scrD d = false := fun d hd => hel d (cs2 d hd)
    have hn3 : SmX 2 12 (.int ((net.length : Int) + 3)) ∧ scrD (.int ((net.length : Int) + 3)) = false := hnat (net.length + 3) (by omega)
    have hsn2 := hnat s (by omega)
    simp only [List.mem_cons, List.not_mem_nil, or_false] at hx
    rcases hx with rfl | rfl | rfl | rfl | rfl | rfl | rfl | rfl | rfl | rfl
    · exact el_lst hel (by omega)
    · exact el_tup (fun d hd => hel d (List.mem_reverse.mp hd)) (by simp; omega)
    · exact el_tup (app hel hA1) (by simp; omega)
    · exact el_tup (app hel (one hsn2)) (by simp; omega)
    · exact el_tup (app hel (one hn3)) (by simp; omega)
    · exact el_tup (con hneg hel) (by simp; omega)
    · exact el_tup (con hfal hA2) (by simp; omega)
    · exact el_odd ho
    · exact el_tup hA2 (by omega)
    · exact el_tup (con hodd hel) (by simp; omega)
  have hli : oList [.tuple L] = .val (.own false (.list L)) := rfl
  simp [c__law_bent, t1, hlen, hix, hnl10, hA1, hA2, hN1, hN2, hli, show L.length + A1.length ≤ lim by unfold lim; omega, show L.length + 1 ≤ lim by unfold lim; omega, show 1 + L.length ≤ lim by unfold lim; omega, show 1 + A2.length ≤ lim by unfold lim; omega, show (10 ≤ lim) by decide, t2, hat2, show N1.length + 1 ≤ lim by unfold lim; omega, show N1.length + 1 + N2.length ≤ lim by unfold lim; omega]
  refine k.rt _ _ _ rfl ⟨⟨_, rfl⟩, _, rfl, ?_, by simp; omega⟩
  intro y hy
  simp only [List.mem_append, List.mem_cons, List.not_mem_nil, or_false] at hy
  rcases hy with hy | rfl | hy
  · exact n1.1 y hy
  · exact hx2
  · exact n2.1 y hy
theorem law_true_01 (ns : List Int) : m_law [scriptD ns] = .ok (.frz (.bool true)) := by
  refine law_outer (by decide) (by decide) (fun js => ∃ (j1 j2 j3 j4 j5 j6 j7 j8 : Jk), js = [j1.c, j2.c, j3.c, j4.c, j5.c, j6.c, j7.c, j8.c]) ⟨jkE, jkE, jkE, jkE, jkE, jkE, jkE, jkE, rfl⟩ ?_
  rintro k hk js ⟨j1, j2, j3, j4, j5, j6, j7, j8, rfl⟩ K' hnx hct
  obtain ⟨rr, hbox, b, rfl⟩ := ev_box ns k hk
  have t1 := ev_take b 4 (by omega) (by omega)
  obtain ⟨mo, hmo, hm0, hm10⟩ : ∃ mo : Int, atI [PyData.int 6, .int 6, .int 6, .int 10] (b % 4) = some (.int mo) ∧ 0 < mo ∧ mo ≤ 10 := by
    obtain ⟨x, hx, hat⟩ := pick [PyData.int 6, .int 6, .int 6, .int 10] b 4 rfl (by decide)
    simp only [List.mem_cons, List.not_mem_nil, or_false] at hx
    rcases hx with rfl | rfl | rfl | rfl
    · exact ⟨6, hat, by omega, by omega⟩
    · exact ⟨6, hat, by omega, by omega⟩
    · exact ⟨6, hat, by omega, by omega⟩
    · exact ⟨10, hat, by omega, by omega⟩
  obtain ⟨rr, d, hnet, ⟨b2, rfl⟩, net, rfl, hok, h1, h2⟩ := ev_net (b / 4) mo hm0 hm10
  have hv : NetV net := ⟨hok, h1, by omega⟩
  have h10 := hv.ten
  obtain ⟨c, d, hod, ⟨b3, rfl⟩, o, rfl, ho⟩ := ev_odd b2
  obtain ⟨c, d, hb1, ⟨b4, rfl⟩, B1, rfl, hB1, hB1l⟩ := ev_lbent hv ho b3
  obtain ⟨c, d, hb2, ⟨b5, rfl⟩, B2, rfl, hB2, hB2l⟩ := ev_lbent hv ho b4
  have e0 : El01 (.tuple []) := el_tup (fun x hx => by cases hx) (by simp)
  have hN : ∀ x ∈ net.map laD, El01 x := fun x hx => by
    obtain ⟨y, hy, rfl⟩ := List.mem_map.mp hx
    obtain ⟨i, hi, e⟩ := List.getElem_of_mem hy
    have e2 : nds net i = y := by unfold nds; rw [List.getElem?_eq_getElem hi, e]; rfl
    have hl2 := nds_len hv.ok i
    have hlow2 : ∀ z ∈ nds net i, z < 10 := fun z hz => by have := nds_lt hv.ok hz; omega
    rw [e2] at hl2 hlow2
    exact el_tup (fun z hz => by
      obtain ⟨w, hw, rfl⟩ := List.mem_map.mp hz
      exact ⟨SmX.nat (by have := hlow2 w hw; omega) 2 12 (by decide), rfl⟩) (by simp; omega)
  have hR : El01 (.tuple ((List.range net.length).map nD)) := el_tup (fun z hz => by
      obtain ⟨w, hw, rfl⟩ := List.mem_map.mp hz
      have := List.mem_range.mp hw
      exact ⟨SmX.nat (by omega) 2 12 (by decide), rfl⟩) (by simp; omega)
  have hmul : oMulU (.tuple [.tuple []]) (.int (10 - (net.length : Int))) = .val (.frz (.tuple (List.replicate (10 - net.length) (.tuple [])))) := by
    obtain ⟨m, hm⟩ : ∃ m : Nat, 10 - net.length = m := ⟨_, rfl⟩
    rw [show (10 - (net.length : Int)) = (m : Int) by omega, hm]
    have hm9 : m ≤ 9 := by omega
    clear hm
    match m, hm9 with
    | 0, _ => rfl
    | 1, _ => rfl
    | 2, _ => rfl
    | 3, _ => rfl
    | 4, _ => rfl
    | 5, _ => rfl
    | 6, _ => rfl
    | 7, _ => rfl
    | 8, _ => rfl
    | 9, _ => rfl
  have hlen : oLen [.tuple (net.map laD)] = .val (.frz (.int net.length)) := oLen_net net
  have hnl10 : (net.map laD).length = net.length := List.length_map _
  have hnt : netD net = .tuple (net.map laD) := rfl
  have hMl : ((net.map laD) ++ List.replicate (10 - net.length) (PyData.tuple [])).length = 10 := by simp; omega
  have hM : ∀ x ∈ (net.map laD) ++ List.replicate (10 - net.length) (PyData.tuple []), El01 x := fun x hx => by
    rcases List.mem_append.mp hx with hx | hx
    · exact hN x hx
    · rw [(List.mem_replicate.mp hx).2]; exact e0
  have htu : ∀ ds : List PyData, Th01 (.tuple ds) → Th01 (.tuple ds) := fun _ h => h
  have hoth : Th01 o := by
    refine ⟨odd16_scr ho, ?_, (odd16_sm ho).show (by decide) (by decide)⟩
    have el1 : ∀ ds : List PyData, (ds.all fun d => okX d && decide (d.depth ≤ 2) && decide (cnt d ≤ 12) && !scrD d) = true → ds.length ≤ 20 → El01 (.tuple ds) := fun ds h hl => el_tup (fun x hx => by
      have := List.all_eq_true.mp h x hx
      simp only [Bool.and_eq_true, decide_eq_true_eq, Bool.not_eq_true'] at this
      exact ⟨⟨this.1.1.1, this.1.1.2, this.1.2⟩, this.2⟩) hl
    have e1 : ∀ d : PyData, d = .tuple [] ∨ d = .tuple [.int 0] ∨ d = .tuple [.int 1] → El01 d := by
      rintro d (rfl | rfl | rfl)
      · exact el1 _ (by decide +kernel) (by simp)
      · exact el1 _ (by decide +kernel) (by simp)
      · exact el1 _ (by decide +kernel) (by simp)
    have ei : El01 (.int 1) := ⟨⟨rfl, fun _ e => by cases e⟩, ⟨by decide +kernel, by decide +kernel, by decide +kernel⟩, fun _ e => by cases e⟩
    simp only [odd16, List.mem_cons, List.not_mem_nil, or_false] at ho
    rcases ho with rfl | rfl | rfl | rfl | rfl | rfl | rfl | rfl | rfl | rfl | rfl | rfl | rfl | rfl | rfl | rfl <;> intro ds e <;> cases e <;> intro x hx
    · cases hx
    · rw [List.mem_singleton.mp hx]; exact ei
    · simp only [List.mem_cons, List.not_mem_nil, or_false] at hx
      rcases hx with rfl | rfl
      · exact e1 _ (.inl rfl)
      · exact e1 _ (.inr (.inl rfl))
    · rw [List.mem_singleton.mp hx]; exact e1 _ (.inr (.inr rfl))
  rw [hnt] at hnet hb1 hb2
  have hrep : List.replicate (10 - net.length) (PyData.tuple []) = List.replicate (10 - net.length) (.tuple []) := rfl
  generalize List.replicate (10 - net.length) (PyData.tuple []) = RP at hmul hMl hM
  generalize net.map laD = ND at hnet hb1 hb2 hN hlen hnl10 hMl hM
  have hND : ND.length + RP.length = 10 := by rw [← hMl, List.length_append]
  have hli : oList [.tuple ND] = .val (.own false (.list ND)) := rfl
  simp [hbox, t1, hmo, hnet, hod, hb1, hb2, hlen, hmul, hnl10, hli, rgD0, show net.length + RP.length ≤ lim by unfold lim; omega, show net.length + RP.length + 1 ≤ lim by unfold lim; omega, show net.length + 1 ≤ lim by unfold lim; omega, show 11 ≤ lim by decide, show ((net.length : Int) ≤ 1000000) by omega]
  have hrg : rgL 0 (net.length : Int) = (List.range net.length).map nD := rgD0 net.length
  rw [hrg]
  have th1 : ∀ {a : PyData}, El01 a → Th01 (.tuple [a]) := fun h => th_tup (fun x hx => by rw [List.mem_singleton.mp hx]; exact h) (by simp)
  have app : ∀ {A B : List PyData}, (∀ d ∈ A, El01 d) → (∀ d ∈ B, El01 d) → ∀ d ∈ A ++ B, El01 d := fun hA hB d hd => (List.mem_append.mp hd).elim (hA d) (hB d)
  have one : ∀ {a : PyData}, El01 a → ∀ y ∈ [a], El01 y := fun h y hy => by rw [List.mem_singleton.mp hy]; exact h
  have hlN : Th01 (.list ND) := ⟨rfl, (fun _ e => by cases e), (SmX.lst (n := 4700) (fun d hd => (hN d hd).sm) (by omega)).show (by decide) (by decide)⟩
  have hall : ∀ t ∈ [PyData.tuple ND, PyData.tuple B1, PyData.tuple B2, PyData.list ND, PyData.tuple [], o, PyData.tuple [o], PyData.tuple [PyData.tuple []], PyData.tuple (ND ++ RP), PyData.tuple (ND ++ (RP ++ [PyData.tuple []])), PyData.tuple (ND ++ [PyData.tuple ((List.range net.length).map nD)])], Th01 t := by
    simp only [List.mem_cons, List.not_mem_nil, or_false]
    rintro t (rfl | rfl | rfl | rfl | rfl | rfl | rfl | rfl | rfl | rfl | rfl)
    · exact th_tup hN (by omega)
    · exact th_tup hB1 hB1l
    · exact th_tup hB2 hB2l
    · exact hlN
    · exact th_tup (fun x hx => by cases hx) (by simp)
    · exact hoth
    · exact th1 (el_odd ho)
    · exact th1 e0
    · exact th_tup hM (by omega)
    · rw [← List.append_assoc]; exact th_tup (app hM (one e0)) (by simp; omega)
    · exact th_tup (app hN (one hR)) (by simp; omega)
  rw [← List.map_id [PyData.tuple ND, PyData.tuple B1, PyData.tuple B2, PyData.list ND, PyData.tuple [], o, PyData.tuple [o], PyData.tuple [PyData.tuple []], PyData.tuple (ND ++ RP), PyData.tuple (ND ++ (RP ++ [PyData.tuple []])), PyData.tuple (ND ++ [PyData.tuple ((List.range net.length).map nD)])]]
  generalize hTS : [PyData.tuple ND, PyData.tuple B1, PyData.tuple B2, PyData.list ND, PyData.tuple [], o, PyData.tuple [o], PyData.tuple [PyData.tuple []], PyData.tuple (ND ++ RP), PyData.tuple (ND ++ (RP ++ [PyData.tuple []])), PyData.tuple (ND ++ [PyData.tuple ((List.range net.length).map nD)])] = TS at hall ⊢
  generalize [PyData.tuple ND, PyData.tuple B1, PyData.tuple B2, PyData.list ND, PyData.tuple [], o, PyData.tuple [o], PyData.tuple [PyData.tuple []], PyData.tuple (ND ++ RP)] = T6
  generalize ND ++ RP = MR at hM ⊢
  refine sat_for (f := id) (xs := TS) (fun rest e => ∃ (j7 j8 : Jk), e = [.frz (scriptD ns), .frz (.int k), .own false (.list [.int b5]), .frz (.tuple ND), .frz o, .frz (.tuple MR), .own false (.list T6), j7.c, j8.c] ∧ ∀ t ∈ rest, Th01 t) ⟨j7, j8, rfl, hall⟩ ?_ ?_
  · rintro t rest e ⟨j7, j8, rfl, hr⟩ K2 L
    have ht := hr t List.mem_cons_self
    have fin := L.nx _ ⟨⟨.frz t, rfl⟩, ⟨.frz (.str t.shown), rfl⟩, rfl, fun y hy => hr y (List.mem_cons_of_mem _ hy)⟩
    have g1 := ev_isnet t ht.scr (fun ds e d hd => (ht.els ds e d hd).ok)
    have g2 := ev_lisnet t ht.scr ht.els
    have g3 := ht.shw
    have g4 := ev_truth (netB t)
    generalize m_is_net = f1 at g1 ⊢
    generalize m__law_is_net = f2 at g2 ⊢
    generalize m__law_truth = f3 at g4 ⊢
    simp [g1, g2, g3, g4, oNe_strs]
    exact fin
  · rintro e ⟨j7, j8, rfl, _⟩
    exact hnx _ ⟨⟨_, (by first | rfl | exact Jk.u _ | exact Jm.m _ | exact Jm.lck _ | simp | assumption)⟩, ⟨_, (by first | rfl | exact Jk.u _ | exact Jm.m _ | exact Jm.lck _ | simp | assumption)⟩, ⟨_, (by first | rfl | exact Jk.u _ | exact Jm.m _ | exact Jm.lck _ | simp | assumption)⟩, ⟨_, (by first | rfl | exact Jk.u _ | exact Jm.m _ | exact Jm.lck _ | simp | assumption)⟩, ⟨_, (by first | rfl | exact Jk.u _ | exact Jm.m _ | exact Jm.lck _ | simp | assumption)⟩, ⟨_, (by first | rfl | exact Jk.u _ | exact Jm.m _ | exact Jm.lck _ | simp | assumption)⟩, j7, j8, rfl⟩
end DL

namespace K01
open PySem PySem.Spec PyProof.Rows L2 DL
/-! ### the text by places -/
def topS (i : Nat) : Stmt := PySem.Challenge.pw_needstones_k01_nets_known.main.body.getD i (.Pass ⟨0, 0, 0, 0⟩)
abbrev s_is_whole : Stmt := topS 2
abbrev N_is_whole : List Str := ["thing"]
theorem sc_is_whole : FnScope N_is_whole ["thing"] (defScope s_is_whole) := ⟨rfl, rfl, rfl, by decide +kernel, rfl, by decide +kernel, by decide +kernel⟩
abbrev s_is_rising : Stmt := topS 3
abbrev N_is_rising : List Str := ["things", "behind", "last", "thing"]
theorem sc_is_rising : FnScope N_is_rising ["things", "behind"] (defScope s_is_rising) := ⟨rfl, rfl, rfl, by decide +kernel, rfl, by decide +kernel, by decide +kernel⟩
abbrev s_is_net : Stmt := topS 4
abbrev N_is_net : List Str := ["thing", "spot", "needs"]
theorem sc_is_net : FnScope N_is_net ["thing"] (defScope s_is_net) := ⟨rfl, rfl, rfl, by decide +kernel, rfl, by decide +kernel, by decide +kernel⟩
abbrev s__law_cell : Stmt := topS 6
abbrev N__law_cell : List Str := ["script", "k"]
theorem sc__law_cell : FnScope N__law_cell ["script", "k"] (defScope s__law_cell) := ⟨rfl, rfl, rfl, by decide +kernel, rfl, by decide +kernel, by decide +kernel⟩
abbrev s__law_mix : Stmt := topS 7
abbrev N__law_mix : List Str := ["cell", "k", "some", "stir"]
theorem sc__law_mix : FnScope N__law_mix ["cell", "k"] (defScope s__law_mix) := ⟨rfl, rfl, rfl, by decide +kernel, rfl, by decide +kernel, by decide +kernel⟩
abbrev s__law_box : Stmt := topS 8
abbrev N__law_box : List Str := ["script", "k", "cell", "number", "j"]
theorem sc__law_box : FnScope N__law_box ["script", "k"] (defScope s__law_box) := ⟨rfl, rfl, rfl, by decide +kernel, rfl, by decide +kernel, by decide +kernel⟩
abbrev s__law_take : Stmt := topS 9
abbrev N__law_take : List Str := ["box", "many", "left", "digit"]
theorem sc__law_take : FnScope N__law_take ["box", "many"] (defScope s__law_take) := ⟨rfl, rfl, rfl, by decide +kernel, rfl, by decide +kernel, by decide +kernel⟩
abbrev s__law_whole : Stmt := topS 10
abbrev N__law_whole : List Str := ["thing"]
theorem sc__law_whole : FnScope N__law_whole ["thing"] (defScope s__law_whole) := ⟨rfl, rfl, rfl, by decide +kernel, rfl, by decide +kernel, by decide +kernel⟩
abbrev s__law_truth : Stmt := topS 11
abbrev N__law_truth : List Str := ["found", "due"]
theorem sc__law_truth : FnScope N__law_truth ["found", "due"] (defScope s__law_truth) := ⟨rfl, rfl, rfl, by decide +kernel, rfl, by decide +kernel, by decide +kernel⟩
abbrev s__law_odd : Stmt := topS 12
abbrev N__law_odd : List Str := ["box", "some"]
theorem sc__law_odd : FnScope N__law_odd ["box"] (defScope s__law_odd) := ⟨rfl, rfl, rfl, by decide +kernel, rfl, by decide +kernel, by decide +kernel⟩
abbrev s__law_net : Stmt := topS 13
abbrev N__law_net : List Str := ["box", "most", "net", "spot", "needs", "one"]
theorem sc__law_net : FnScope N__law_net ["box", "most"] (defScope s__law_net) := ⟨rfl, rfl, rfl, by decide +kernel, rfl, by decide +kernel, by decide +kernel⟩
abbrev s__law_is_net : Stmt := topS 14
abbrev N__law_is_net : List Str := ["thing", "spot", "needs", "one"]
theorem sc__law_is_net : FnScope N__law_is_net ["thing"] (defScope s__law_is_net) := ⟨rfl, rfl, rfl, by decide +kernel, rfl, by decide +kernel, by decide +kernel⟩
abbrev s__law_bent : Stmt := topS 15
abbrev N__law_bent : List Str := ["box", "net", "odd", "spot", "needs", "some"]
theorem sc__law_bent : FnScope N__law_bent ["box", "net", "odd"] (defScope s__law_bent) := ⟨rfl, rfl, rfl, by decide +kernel, rfl, by decide +kernel, by decide +kernel⟩
abbrev s_law : Stmt := topS 16
abbrev N_law : List Str := ["script", "k", "box", "net", "odd", "more", "things", "thing", "kept"]
theorem sc_law : FnScope N_law ["script"] (defScope s_law) := ⟨rfl, rfl, rfl, by decide +kernel, rfl, by decide +kernel, by decide +kernel⟩
/-! ### what each def means -/
/-! ### what the top has written -/
structure Adr where
  a_is_whole : Addr
  fd_is_whole : FuncData
  a_is_rising : Addr
  fd_is_rising : FuncData
  a_is_net : Addr
  fd_is_net : FuncData
  a__law_cell : Addr
  fd__law_cell : FuncData
  a__law_mix : Addr
  fd__law_mix : FuncData
  a__law_box : Addr
  fd__law_box : FuncData
  a__law_take : Addr
  fd__law_take : FuncData
  a__law_whole : Addr
  fd__law_whole : FuncData
  a__law_truth : Addr
  fd__law_truth : FuncData
  a__law_odd : Addr
  fd__law_odd : FuncData
  a__law_net : Addr
  fd__law_net : FuncData
  a__law_is_net : Addr
  fd__law_is_net : FuncData
  a__law_bent : Addr
  fd__law_bent : FuncData
  a_law : Addr
  fd_law : FuncData
abbrev rzL (D : Adr) : List (Str × Addr) := []
abbrev askL (D : Adr) : List (Str × Addr) := []
structure Txt (w : World) (K : PySem.W.Frag) (mg : Str → Option Value) (D : Adr) : Prop where
  F_is_whole : Fun K "is_whole" "is_whole" s_is_whole D.a_is_whole D.fd_is_whole
  g_is_whole : mg "is_whole" = some (.ref D.a_is_whole)
  b_is_whole : Binds K D.fd_is_whole ["thing"] []
  F_is_rising : Fun K "is_rising" "is_rising" s_is_rising D.a_is_rising D.fd_is_rising
  g_is_rising : mg "is_rising" = some (.ref D.a_is_rising)
  b_is_rising : Binds K D.fd_is_rising ["things", "behind"] []
  F_is_net : Fun K "is_net" "is_net" s_is_net D.a_is_net D.fd_is_net
  g_is_net : mg "is_net" = some (.ref D.a_is_net)
  b_is_net : Binds K D.fd_is_net ["thing"] []
  F__law_cell : Fun K "_law_cell" "_law_cell" s__law_cell D.a__law_cell D.fd__law_cell
  g__law_cell : mg "_law_cell" = some (.ref D.a__law_cell)
  b__law_cell : Binds K D.fd__law_cell ["script", "k"] []
  F__law_mix : Fun K "_law_mix" "_law_mix" s__law_mix D.a__law_mix D.fd__law_mix
  g__law_mix : mg "_law_mix" = some (.ref D.a__law_mix)
  b__law_mix : Binds K D.fd__law_mix ["cell", "k"] []
  F__law_box : Fun K "_law_box" "_law_box" s__law_box D.a__law_box D.fd__law_box
  g__law_box : mg "_law_box" = some (.ref D.a__law_box)
  b__law_box : Binds K D.fd__law_box ["script", "k"] []
  F__law_take : Fun K "_law_take" "_law_take" s__law_take D.a__law_take D.fd__law_take
  g__law_take : mg "_law_take" = some (.ref D.a__law_take)
  b__law_take : Binds K D.fd__law_take ["box", "many"] []
  F__law_whole : Fun K "_law_whole" "_law_whole" s__law_whole D.a__law_whole D.fd__law_whole
  g__law_whole : mg "_law_whole" = some (.ref D.a__law_whole)
  b__law_whole : Binds K D.fd__law_whole ["thing"] []
  F__law_truth : Fun K "_law_truth" "_law_truth" s__law_truth D.a__law_truth D.fd__law_truth
  g__law_truth : mg "_law_truth" = some (.ref D.a__law_truth)
  b__law_truth : Binds K D.fd__law_truth ["found", "due"] []
  F__law_odd : Fun K "_law_odd" "_law_odd" s__law_odd D.a__law_odd D.fd__law_odd
  g__law_odd : mg "_law_odd" = some (.ref D.a__law_odd)
  b__law_odd : Binds K D.fd__law_odd ["box"] []
  F__law_net : Fun K "_law_net" "_law_net" s__law_net D.a__law_net D.fd__law_net
  g__law_net : mg "_law_net" = some (.ref D.a__law_net)
  b__law_net : Binds K D.fd__law_net ["box", "most"] []
  F__law_is_net : Fun K "_law_is_net" "_law_is_net" s__law_is_net D.a__law_is_net D.fd__law_is_net
  g__law_is_net : mg "_law_is_net" = some (.ref D.a__law_is_net)
  b__law_is_net : Binds K D.fd__law_is_net ["thing"] []
  F__law_bent : Fun K "_law_bent" "_law_bent" s__law_bent D.a__law_bent D.fd__law_bent
  g__law_bent : mg "_law_bent" = some (.ref D.a__law_bent)
  b__law_bent : Binds K D.fd__law_bent ["box", "net", "odd"] []
  F_law : Fun K "law" "law" s_law D.a_law D.fd_law
  g_law : mg "law" = some (.ref D.a_law)
  b_law : Binds K D.fd_law ["script"] []
  n_abs : mg "abs" = none
  n_all : mg "all" = none
  n_bool : mg "bool" = none
  n_divmod : mg "divmod" = none
  n_enumerate : mg "enumerate" = none
  n_int : mg "int" = none
  n_isinstance : mg "isinstance" = none
  n_len : mg "len" = none
  n_list : mg "list" = none
  n_max : mg "max" = none
  n_min : mg "min" = none
  n_range : mg "range" = none
  n_repr : mg "repr" = none
  n_set : mg "set" = none
  n_sorted : mg "sorted" = none
  n_tuple : mg "tuple" = none
  k_MOST_SPOTS : ∃ t, mg "MOST_SPOTS" = some (.int 10 t)

section
variable {P : Program} {w : World} {K : PySem.W.Frag} {mg : Str → Option Value} {base : Heap} {D : Adr}
theorem ok_is_whole (T : Txt w K mg D) : FnOk P w K mg base (L2N.CX P w) 1 D.a_is_whole D.fd_is_whole ["thing"] (spB K (xpC (rzL D)) 1 m_is_whole) :=
  fn_B T.F_is_whole sc_is_whole rfl (by decide) fun cdv A outer s H E hr =>
    (dss_one (ds_ret (de_and (de_isi kitT_int (by rfl) T.n_isinstance (by rfl) T.n_int bt_int (do_nm (pv 0))) (de_and1 (de_not (de_isi kitT_bool (by rfl) T.n_isinstance (by rfl) T.n_bool bt_bool (do_nm (pv 0))))))))
theorem ok_is_rising (T : Txt w K mg D) : FnOk P w K mg base (L2N.CX P w) 2 D.a_is_rising D.fd_is_rising ["things", "behind"] (spB K (xpC (rzL D)) 2 m_is_rising) :=
  fn_B T.F_is_rising sc_is_rising rfl (by decide) fun cdv A outer s H E hr =>
    (dss_cons (ds_set (i := 2) sc_is_rising.nd rfl (.inl rfl) (de_neg (DE.opd de_int)))
    (dss_cons (ds_forO (passes_of rfl) rfl (pv 0) (dg_name (i := 3) sc_is_rising.nd rfl (.inl rfl)) (dss_cons (ds_if (DW.dt (dw_or (dt_not (dt_val (de_call (L2N.takes_of rfl rfl rfl rfl) (ok_is_whole T) (hr.mono (by decide)) (by rfl) T.g_is_whole T.F_is_whole.kp T.b_is_whole (da_cons (do_nm (pv 3)) da_nil)))) (dw_or1 (dt_not (dt_chain op_lt op_lt ok_cmp ok_cmp (do_nm (pv 2)) (do_nm (pv 3)) (do_nm (pv 1))))))) (dss_one (ds_ret de_bool)) dss_nil)
    (dss_one (ds_set (i := 2) sc_is_rising.nd rfl (.inl rfl) (de_var (pv 3))))))
    (dss_one (ds_ret de_bool))))
theorem ok_is_net (T : Txt w K mg D) : FnOk P w K mg base (L2N.CX P w) 3 D.a_is_net D.fd_is_net ["thing"] (spB K (xpC (rzL D)) 1 m_is_net) :=
  fn_B T.F_is_net sc_is_net rfl (by decide) fun cdv A outer s H E hr =>
    (dss_cons (ds_if (DW.dt (dw_or (dt_not (dt_val (de_isi kitT_tuple (by rfl) T.n_isinstance (by rfl) T.n_tuple bt_tuple (do_nm (pv 0))))) (dw_or1 (dt_not (dt_chain op_le op_le ok_cmp ok_cmp (DE.opd de_int) (DE.opd (de_callB call_len ok_len (by rfl) T.n_len bt_len (da_cons (do_nm (pv 0)) da_nil))) (DE.opd (de_glI (by rfl) T.k_MOST_SPOTS))))))) (dss_one (ds_ret de_bool)) dss_nil)
    (dss_cons (ds_for (passes_of rfl) rfl (di_enum (by rfl) T.n_enumerate (de_var (pv 0))) (dg_tup rfl (DGs.cons (pg_name (i := 1) sc_is_net.nd rfl (.inl rfl)) (DGs.cons (pg_name (i := 2) sc_is_net.nd rfl (.inl rfl)) DGs.nil rfl) rfl)) (dss_one (ds_if (DW.dt (dw_or (dt_not (dt_val (de_isi kitT_tuple (by rfl) T.n_isinstance (by rfl) T.n_tuple bt_tuple (do_nm (pv 2))))) (dw_or1 (dt_not (dt_val (de_call (L2N.takes_of rfl rfl rfl rfl) (ok_is_rising T) (hr.mono (by decide)) (by rfl) T.g_is_rising T.F_is_rising.kp T.b_is_rising (da_cons (do_nm (pv 2)) (da_cons (do_nm (pv 1)) da_nil)))))))) (dss_one (ds_ret de_bool)) dss_nil)))
    (dss_one (ds_ret de_bool))))
theorem ok__law_cell (T : Txt w K mg D) : FnOk P w K mg base (L2N.CX P w) 1 D.a__law_cell D.fd__law_cell ["script", "k"] (spB K (xpC (rzL D)) 2 m__law_cell) :=
  fn_B T.F__law_cell sc__law_cell rfl (by decide) fun cdv A outer s H E hr =>
    (dss_cons (ds_if (dt_cmp op_lt ok_cmp (nomark _) (do_nm (pv 1)) (DE.opd (de_callB call_len ok_len (by rfl) T.n_len bt_len (da_cons (do_nm (pv 0)) da_nil)))) (dss_one (ds_ret (de_ix ix_seq ok_ix (fun _ _ => rfl) (do_nm (pv 0)) (do_nm (pv 1))))) dss_nil)
    (dss_one (ds_ret de_int)))
theorem ok__law_mix (T : Txt w K mg D) : FnOk P w K mg base (L2N.CX P w) 1 D.a__law_mix D.fd__law_mix ["cell", "k"] (spB K (xpC (rzL D)) 2 m__law_mix) :=
  fn_B T.F__law_mix sc__law_mix rfl (by decide) fun cdv A outer s H E hr =>
    (dss_cons (ds_set (i := 2) sc__law_mix.nd rfl (.inl rfl) (de_lst (da_cons (DE.opd de_int) (da_cons (DE.opd de_int) (da_cons (DE.opd de_int) (da_cons (DE.opd de_int) (da_cons (DE.opd de_int) (da_cons (DE.opd de_int) (da_cons (DE.opd de_int) (da_cons (DE.opd de_int) (da_cons (DE.opd de_int) (da_cons (DE.opd de_int) (da_cons (DE.opd de_int) (da_cons (DE.opd de_int) (da_cons (DE.opd de_int) da_nil)))))))))))))))
    (dss_cons (ds_set (i := 3) sc__law_mix.nd rfl (.inl rfl) (de_bin or_add ok_add (DE.opd (de_bin or_add ok_add (DE.opd (de_bin op_mul ok_mul (DE.opd (de_bin or_add ok_add (DE.opd (de_bin op_modN ok_mod (do_nm (pv 0)) (DE.opd de_int))) (DE.opd de_int))) (DE.opd (de_ix ix_seq ok_ix (fun _ _ => rfl) (do_nm (pv 2)) (DE.opd (de_bin op_modN ok_mod (do_nm (pv 1)) (DE.opd de_int))))))) (DE.opd (de_bin op_mul ok_mul (DE.opd de_int) (do_nm (pv 1)))))) (DE.opd (de_bin op_mul ok_mul (DE.opd de_int) (DE.opd (de_bin op_fdiv ok_fdiv (do_nm (pv 1)) (DE.opd de_int)))))))
    (dss_cons (ds_set (i := 3) sc__law_mix.nd rfl (.inl rfl) (de_bin op_modN ok_mod (do_nm (pv 3)) (DE.opd de_int)))
    (dss_one (ds_ret (de_bin op_fdiv ok_fdiv (DE.opd (de_bin op_modN ok_mod (DE.opd (de_bin or_add ok_add (DE.opd (de_bin op_mul ok_mul (do_nm (pv 3)) (do_nm (pv 3)))) (DE.opd (de_bin op_mul ok_mul (DE.opd de_int) (do_nm (pv 1)))))) (DE.opd de_int))) (DE.opd de_int)))))))
theorem ok__law_box (T : Txt w K mg D) : FnOk P w K mg base (L2N.CX P w) 2 D.a__law_box D.fd__law_box ["script", "k"] (spB K (xpC (rzL D)) 2 m__law_box) :=
  fn_B T.F__law_box sc__law_box rfl (by decide) fun cdv A outer s H E hr =>
    (dss_cons (ds_set (i := 2) sc__law_box.nd rfl (.inl rfl) (de_call (L2N.takes_of rfl rfl rfl rfl) (ok__law_cell T) (hr.mono (by decide)) (by rfl) T.g__law_cell T.F__law_cell.kp T.b__law_cell (da_cons (do_nm (pv 0)) (da_cons (do_nm (pv 1)) da_nil))))
    (dss_cons (ds_if (dt_cmp (or_eq (hu64 hr)) ok_eq (nomark _) (DE.opd (de_bin op_modN ok_mod (do_nm (pv 2)) (DE.opd de_int))) (DE.opd de_int)) (dss_one (ds_ret (de_lst (da_cons (DE.opd (de_bin op_fdiv ok_fdiv (DE.opd (de_callB call_abs ok_abs (by rfl) T.n_abs bt_abs (da_cons (do_nm (pv 2)) da_nil))) (DE.opd de_int))) da_nil)))) dss_nil)
    (dss_cons (ds_set (i := 3) sc__law_box.nd rfl (.inl rfl) de_int)
    (dss_cons (ds_for (passes_of rfl) rfl (di_range1 (by rfl) T.n_range (da_cons (DE.opd de_int) da_nil)) (dg_name (i := 4) sc__law_box.nd rfl (.inl rfl)) (dss_one (ds_set (i := 3) sc__law_box.nd rfl (.inl rfl) (de_bin or_add ok_add (DE.opd (de_bin op_mul ok_mul (do_nm (pv 3)) (DE.opd de_int))) (DE.opd (de_call (L2N.takes_of rfl rfl rfl rfl) (ok__law_mix T) (hr.mono (by decide)) (by rfl) T.g__law_mix T.F__law_mix.kp T.b__law_mix (da_cons (do_nm (pv 2)) (da_cons (do_nm (pv 4)) da_nil))))))))
    (dss_one (ds_ret (de_lst (da_cons (DE.opd (de_var (pv 3))) da_nil))))))))
theorem ok__law_take (T : Txt w K mg D) : FnOk P w K mg base (L2N.CX P w) 1 D.a__law_take D.fd__law_take ["box", "many"] (spI K 2 m__law_take) :=
  fn_I (xp := xpC (rzL D)) T.F__law_take sc__law_take rfl (by decide) fun cdv A outer s H E hr =>
    (dss_cons (ds_unp (de_callB call_divmod ok_divmod (by rfl) T.n_divmod bt_divmod (da_cons (DE.opd (de_ix ix_seq ok_ix (fun _ _ => rfl) (do_nm (pv 0)) (DE.opd de_int))) (da_cons (do_nm (pv 1)) da_nil))) (dg_tup rfl (DGs.cons (pg_name (i := 2) sc__law_take.nd rfl (.inl rfl)) (DGs.cons (pg_name (i := 3) sc__law_take.nd rfl (.inl rfl)) DGs.nil rfl) rfl)))
    (dss_cons (ds_setItem set_list ok_setL (de_var (pv 2)) (pv 0) (DE.opd de_int))
    (dss_one (ds_ret (de_move (pv 3))))))
theorem ok__law_whole (T : Txt w K mg D) : FnOk P w K mg base (L2N.CX P w) 1 D.a__law_whole D.fd__law_whole ["thing"] (spB K (xpC (rzL D)) 1 m__law_whole) :=
  fn_B T.F__law_whole sc__law_whole rfl (by decide) fun cdv A outer s H E hr =>
    (dss_one (ds_ret (de_and (de_isi kitT_int (by rfl) T.n_isinstance (by rfl) T.n_int bt_int (do_nm (pv 0))) (de_and1 (de_not (de_isi kitT_bool (by rfl) T.n_isinstance (by rfl) T.n_bool bt_bool (do_nm (pv 0))))))))
theorem ok__law_truth (T : Txt w K mg D) : FnOk P w K mg base (L2N.CX P w) 1 D.a__law_truth D.fd__law_truth ["found", "due"] (spB K (xpC (rzL D)) 2 m__law_truth) :=
  fn_B T.F__law_truth sc__law_truth rfl (by decide) fun cdv A outer s H E hr =>
    (dss_one (ds_ret (de_and (de_isi kitT_bool (by rfl) T.n_isinstance (by rfl) T.n_bool bt_bool (do_nm (pv 0))) (de_and1 (de_cmp (or_eq (hu64 hr)) ok_eq (nomark _) (do_nm (pv 0)) (do_nm (pv 1)))))))
theorem ok__law_odd (T : Txt w K mg D) : FnOk P w K mg base (L2N.CX P w) 2 D.a__law_odd D.fd__law_odd ["box"] (spI K 1 m__law_odd) :=
  fn_I (xp := xpC (rzL D)) T.F__law_odd sc__law_odd rfl (by decide) fun cdv A outer s H E hr =>
    (dss_cons (ds_set (i := 1) sc__law_odd.nd rfl (.inl rfl) (de_lst (da_cons (DE.opd de_none) (da_cons (DE.opd de_bool) (da_cons (DE.opd de_bool) (da_cons (DE.opd (de_neg (DE.opd de_int))) (da_cons (DE.opd de_str) (da_cons (DE.opd de_str) (da_cons (DE.opd de_str) (da_cons (DE.opd (de_tup da_nil)) (da_cons (DE.opd (de_lst da_nil)) (da_cons (DE.opd (de_tup (da_cons (DE.opd de_int) da_nil))) (da_cons (DE.opd (de_lst (da_cons (DE.opd de_int) da_nil))) (da_cons (DE.opd (de_dispI (.cons .nil) (by decide +kernel) (by decide) (by decide))) (da_cons (DE.opd (de_tup (da_cons (DE.opd (de_tup da_nil)) (da_cons (DE.opd (de_tup (da_cons (DE.opd de_int) da_nil))) da_nil)))) (da_cons (DE.opd (de_bin op_pow ok_pow (DE.opd de_int) (DE.opd de_int))) (da_cons (DE.opd (de_tup (da_cons (DE.opd (de_tup (da_cons (DE.opd de_int) da_nil))) da_nil))) (da_cons (DE.opd (de_lst (da_cons (DE.opd (de_tup da_nil)) da_nil))) da_nil))))))))))))))))))
    (dss_one (ds_ret (de_ix ix_seq ok_ix (fun _ _ => rfl) (do_nm (pv 1)) (DE.opd (de_callI (L2N.takes_of rfl rfl rfl rfl) (ok__law_take T) (hr.mono (by decide)) (by rfl) T.g__law_take T.F__law_take.kp T.b__law_take (pv 0) (da_cons (DE.opd de_int) da_nil)))))))
theorem ok__law_net (T : Txt w K mg D) : FnOk P w K mg base (L2N.CX P w) 2 D.a__law_net D.fd__law_net ["box", "most"] (spI K 2 m__law_net) :=
  fn_I (xp := xpC (rzL D)) T.F__law_net sc__law_net rfl (by decide) fun cdv A outer s H E hr =>
    (dss_cons (ds_set (i := 2) sc__law_net.nd rfl (.inl rfl) (de_lst da_nil))
    (dss_cons (ds_for (passes_of rfl) rfl (di_range1 (by rfl) T.n_range (da_cons (DE.opd (de_bin or_add ok_add (DE.opd de_int) (DE.opd (de_callI (L2N.takes_of rfl rfl rfl rfl) (ok__law_take T) (hr.mono (by decide)) (by rfl) T.g__law_take T.F__law_take.kp T.b__law_take (pv 0) (da_cons (DE.opd (de_var (pv 1))) da_nil))))) da_nil)) (dg_name (i := 3) sc__law_net.nd rfl (.inl rfl)) (dss_cons (ds_setComp (i := 4) (own := [("one", 5)]) rfl sc__law_net.nd rfl rfl (sw_true rfl rfl rfl (by decide +kernel)) (di_range1 (by rfl) T.n_range (da_cons (do_nm (pv 3)) da_nil)) (blkOk_by (N := N__law_net) (sc := defScope s__law_net) (by decide +kernel)) (fun _ _ _ _ _ => (dg_name (i := 5) sc__law_net.nd rfl (.inl rfl))) (fun _ _ _ _ _ => (dts_one (dt_cmp (or_eq (hu64 hr)) (ok_eq (K := K)) (nomark _) (DE.opd (de_callIK (K := K) (ok__law_take T) (hr.mono (by decide)) (by rfl) T.g__law_take T.F__law_take.kp T.b__law_take (pv 0) (da_cons (DE.opd de_int) da_nil))) (DE.opd de_int)))) (fun _ _ _ _ _ => (de_var (pv 5))))
    (dss_cons (ds_if (DW.dt (dw_and (dt_cmp op_gt ok_cmp (nomark _) (do_nm (pv 3)) (DE.opd de_int)) (dw_and (dt_cmp (or_eq (hu64 hr)) ok_eq (nomark _) (do_nm (pv 4)) (DE.opd (de_lst da_nil))) (dw_and1 (dt_cmp op_gt ok_cmp (nomark _) (DE.opd (de_callI (L2N.takes_of rfl rfl rfl rfl) (ok__law_take T) (hr.mono (by decide)) (by rfl) T.g__law_take T.F__law_take.kp T.b__law_take (pv 0) (da_cons (DE.opd de_int) da_nil))) (DE.opd de_int)))))) (dss_one (ds_set (i := 4) sc__law_net.nd rfl (.inl rfl) (de_lst (da_cons (DE.opd (de_callI (L2N.takes_of rfl rfl rfl rfl) (ok__law_take T) (hr.mono (by decide)) (by rfl) T.g__law_take T.F__law_take.kp T.b__law_take (pv 0) (da_cons (DE.opd (de_var (pv 3))) da_nil))) da_nil)))) dss_nil)
    (dss_one (ds_expr (de_meth PySem.F.plainAttrs_list PySem.F.slot_list_append PySem.F.type_list_append mt_append ok_append (pv 2) (da_cons (DE.opd (de_callTy call_tuple_of ok_tuple (by rfl) T.n_tuple bt_tuple (da_cons (DE.opd (de_sl (do_nm (pv 4)) dp_none (dp_some (DE.opd de_int)))) da_nil))) da_nil)))))))
    (dss_one (ds_ret (de_callTy call_tuple_of ok_tuple (by rfl) T.n_tuple bt_tuple (da_cons (do_nm (pv 2)) da_nil))))))
theorem ok__law_is_net (T : Txt w K mg D) : FnOk P w K mg base (L2N.CX P w) 2 D.a__law_is_net D.fd__law_is_net ["thing"] (spB K (xpC (rzL D)) 1 m__law_is_net) :=
  fn_B T.F__law_is_net sc__law_is_net rfl (by decide) fun cdv A outer s H E hr =>
    (dss_cons (ds_if (DW.dt (dw_or (dt_not (dt_val (de_isi kitT_tuple (by rfl) T.n_isinstance (by rfl) T.n_tuple bt_tuple (do_nm (pv 0))))) (dw_or1 (dt_not (dt_chain op_le op_le ok_cmp ok_cmp (DE.opd de_int) (DE.opd (de_callB call_len ok_len (by rfl) T.n_len bt_len (da_cons (do_nm (pv 0)) da_nil))) (DE.opd de_int)))))) (dss_one (ds_ret de_bool)) dss_nil)
    (dss_cons (ds_for (passes_of rfl) rfl (di_range1 (by rfl) T.n_range (da_cons (DE.opd (de_callB call_len ok_len (by rfl) T.n_len bt_len (da_cons (do_nm (pv 0)) da_nil))) da_nil)) (dg_name (i := 1) sc__law_is_net.nd rfl (.inr rfl)) (dss_cons (ds_set (i := 2) sc__law_is_net.nd rfl (.inl rfl) (de_ix ix_seq ok_ix (fun _ _ => rfl) (do_nm (pv 0)) (do_nm (pv 1))))
    (dss_cons (ds_if (DW.dt (dw_or (dt_not (dt_val (de_isi kitT_tuple (by rfl) T.n_isinstance (by rfl) T.n_tuple bt_tuple (do_nm (pv 2))))) (dw_or1 (dt_not (dt_val (de_callB (cr_all rfl) ok_all (by rfl) T.n_all bt_all (da_cons (DE.opd (de_compO (own := [("one", 3)]) rfl sc__law_is_net.nd (pv 2) (blkOk_by (N := N__law_is_net) (sc := defScope s__law_is_net) (by decide +kernel)) (fun _ _ _ _ _ => (dg_name (i := 3) sc__law_is_net.nd rfl (.inl rfl))) (fun _ _ _ _ _ => dts_nil) (fun _ _ _ _ _ => (de_callK (K := K) (ok__law_whole T) (hr.mono (by decide)) (by rfl) T.g__law_whole T.F__law_whole.kp T.b__law_whole (da_cons (do_nm (pv 3)) da_nil))))) da_nil))))))) (dss_one (ds_ret de_bool)) dss_nil)
    (dss_one (ds_if (DW.dt (dw_or (dt_cmp (or_ne (hu64 hr)) ok_ne (nomark _) (DE.opd (de_sortSet rfl (by rfl) T.n_sorted (by rfl) T.n_set (do_nm (pv 2)))) (DE.opd (de_callTy call_list_of ok_list (by rfl) T.n_list bt_list (da_cons (do_nm (pv 2)) da_nil)))) (dw_or1 (dt_cmp (or_ne (hu64 hr)) ok_ne (nomark _) (DE.opd (de_compO (own := [("one", 3)]) rfl sc__law_is_net.nd (pv 2) (blkOk_by (N := N__law_is_net) (sc := defScope s__law_is_net) (by decide +kernel)) (fun _ _ _ _ _ => (dg_name (i := 3) sc__law_is_net.nd rfl (.inl rfl))) (fun _ _ _ _ _ => (dts_one (dt_not (dt_chain op_le op_lt (ok_cmp (K := K)) (ok_cmp (K := K)) (DE.opd de_int) (do_nm (pv 3)) (do_nm (pv 1)))))) (fun _ _ _ _ _ => (de_var (pv 3))))) (DE.opd (de_lst da_nil)))))) (dss_one (ds_ret de_bool)) dss_nil)))))
    (dss_one (ds_ret de_bool))))
theorem ok__law_bent (T : Txt w K mg D) : FnOk P w K mg base (L2N.CX P w) 2 D.a__law_bent D.fd__law_bent ["box", "net", "odd"] (spI K 3 m__law_bent) :=
  fn_I (xp := xpC (rzL D)) T.F__law_bent sc__law_bent rfl (by decide) fun cdv A outer s H E hr =>
    (dss_cons (ds_set (i := 3) sc__law_bent.nd rfl (.inl rfl) (de_callI (L2N.takes_of rfl rfl rfl rfl) (ok__law_take T) (hr.mono (by decide)) (by rfl) T.g__law_take T.F__law_take.kp T.b__law_take (pv 0) (da_cons (DE.opd (de_callB call_len ok_len (by rfl) T.n_len bt_len (da_cons (do_nm (pv 1)) da_nil))) da_nil)))
    (dss_cons (ds_set (i := 4) sc__law_bent.nd rfl (.inl rfl) (de_ix ix_seq ok_ix (fun _ _ => rfl) (do_nm (pv 1)) (do_nm (pv 3))))
    (dss_cons (ds_set (i := 5) sc__law_bent.nd rfl (.inl rfl) (de_lst (da_cons (DE.opd (de_callTy call_list_of ok_list (by rfl) T.n_list bt_list (da_cons (do_nm (pv 4)) da_nil))) (da_cons (DE.opd (de_revA (do_nm (pv 4)))) (da_cons (DE.opd (de_bin or_add ok_add (do_nm (pv 4)) (DE.opd (de_sl (do_nm (pv 4)) (dp_some (DE.opd (de_neg (DE.opd de_int)))) dp_none)))) (da_cons (DE.opd (de_bin or_add ok_add (do_nm (pv 4)) (DE.opd (de_tup (da_cons (DE.opd (de_var (pv 3))) da_nil))))) (da_cons (DE.opd (de_bin or_add ok_add (do_nm (pv 4)) (DE.opd (de_tup (da_cons (DE.opd (de_bin or_add ok_add (DE.opd (de_callB call_len ok_len (by rfl) T.n_len bt_len (da_cons (do_nm (pv 1)) da_nil))) (DE.opd de_int))) da_nil))))) (da_cons (DE.opd (de_bin or_add ok_add (DE.opd (de_tup (da_cons (DE.opd (de_neg (DE.opd de_int))) da_nil))) (do_nm (pv 4)))) da_nil))))))))
    (dss_cons (ds_set (i := 5) sc__law_bent.nd rfl (.inl rfl) (de_bin or_add ok_add (do_nm (pv 5)) (DE.opd (de_lst (da_cons (DE.opd (de_bin or_add ok_add (DE.opd (de_tup (da_cons (DE.opd de_bool) da_nil))) (DE.opd (de_sl (do_nm (pv 4)) (dp_some (DE.opd de_int)) dp_none)))) (da_cons (DE.opd (de_var (pv 2))) (da_cons (DE.opd (de_sl (do_nm (pv 4)) (dp_some (DE.opd de_int)) dp_none)) (da_cons (DE.opd (de_bin or_add ok_add (DE.opd (de_tup (da_cons (DE.opd (de_var (pv 2))) da_nil))) (do_nm (pv 4)))) da_nil))))))))
    (dss_one (ds_ret (de_bin or_add ok_add (DE.opd (de_bin or_add ok_add (DE.opd (de_sl (do_nm (pv 1)) dp_none (dp_some (do_nm (pv 3))))) (DE.opd (de_tup (da_cons (DE.opd (de_ix ix_seq ok_ix (fun _ _ => rfl) (do_nm (pv 5)) (DE.opd (de_callI (L2N.takes_of rfl rfl rfl rfl) (ok__law_take T) (hr.mono (by decide)) (by rfl) T.g__law_take T.F__law_take.kp T.b__law_take (pv 0) (da_cons (DE.opd de_int) da_nil))))) da_nil))))) (DE.opd (de_sl (do_nm (pv 1)) (dp_some (DE.opd (de_bin or_add ok_add (do_nm (pv 3)) (DE.opd de_int)))) dp_none)))))))))
theorem ok_law (T : Txt w K mg D) : FnG P w K mg base 4 D.a_law D.fd_law ["script"] (spB K (xpC (rzL D)) 1 m_law) :=
  fn_BG T.F_law sc_law rfl (by decide) fun cdv A outer s H E hg hr =>
    (dss_cons (ds_for (passes_of rfl) rfl (di_range1 (by rfl) T.n_range (da_cons (DE.opd (de_callB (call_max2 rfl) ok_max2 (by rfl) T.n_max bt_max (da_cons (DE.opd de_int) (da_cons (DE.opd (de_callB (call_min2 rfl) ok_min2 (by rfl) T.n_min bt_min (da_cons (DE.opd (de_callB call_len ok_len (by rfl) T.n_len bt_len (da_cons (do_nm (pv 0)) da_nil))) (da_cons (DE.opd de_int) da_nil)))) da_nil)))) da_nil)) (dg_name (i := 1) sc_law.nd rfl (.inl rfl)) (dss_cons (ds_set (i := 2) sc_law.nd rfl (.inl rfl) (de_call (L2N.takes_of rfl rfl rfl rfl) (ok__law_box T) (hr.mono (by decide)) (by rfl) T.g__law_box T.F__law_box.kp T.b__law_box (da_cons (do_nm (pv 0)) (da_cons (do_nm (pv 1)) da_nil))))
    (dss_cons (ds_set (i := 3) sc_law.nd rfl (.inl rfl) (de_callI (L2N.takes_of rfl rfl rfl rfl) (ok__law_net T) (hr.mono (by decide)) (by rfl) T.g__law_net T.F__law_net.kp T.b__law_net (pv 2) (da_cons (DE.opd (de_ix ix_seq ok_ix (fun _ _ => rfl) (DE.opd (de_lst (da_cons (DE.opd de_int) (da_cons (DE.opd de_int) (da_cons (DE.opd de_int) (da_cons (DE.opd de_int) da_nil)))))) (DE.opd (de_callI (L2N.takes_of rfl rfl rfl rfl) (ok__law_take T) (hr.mono (by decide)) (by rfl) T.g__law_take T.F__law_take.kp T.b__law_take (pv 2) (da_cons (DE.opd de_int) da_nil))))) da_nil)))
    (dss_cons (ds_set (i := 4) sc_law.nd rfl (.inl rfl) (de_callI (L2N.takes_of rfl rfl rfl rfl) (ok__law_odd T) (hr.mono (by decide)) (by rfl) T.g__law_odd T.F__law_odd.kp T.b__law_odd (pv 2) da_nil))
    (dss_cons (ds_set (i := 5) sc_law.nd rfl (.inl rfl) (de_bin or_add ok_add (do_nm (pv 3)) (DE.opd (de_bin op_repU ok_mulU (DE.opd (de_tup (da_cons (DE.opd (de_tup da_nil)) da_nil))) (DE.opd (de_bin op_sub ok_sub (DE.opd de_int) (DE.opd (de_callB call_len ok_len (by rfl) T.n_len bt_len (da_cons (do_nm (pv 3)) da_nil)))))))))
    (dss_cons (ds_set (i := 6) sc_law.nd rfl (.inl rfl) (de_lst (da_cons (DE.opd (de_var (pv 3))) (da_cons (DE.opd (de_callI (L2N.takes_of rfl rfl rfl rfl) (ok__law_bent T) (hr.mono (by decide)) (by rfl) T.g__law_bent T.F__law_bent.kp T.b__law_bent (pv 2) (da_cons (DE.opd (de_var (pv 3))) (da_cons (DE.opd (de_var (pv 4))) da_nil)))) (da_cons (DE.opd (de_callI (L2N.takes_of rfl rfl rfl rfl) (ok__law_bent T) (hr.mono (by decide)) (by rfl) T.g__law_bent T.F__law_bent.kp T.b__law_bent (pv 2) (da_cons (DE.opd (de_var (pv 3))) (da_cons (DE.opd (de_var (pv 4))) da_nil)))) (da_cons (DE.opd (de_callTy call_list_of ok_list (by rfl) T.n_list bt_list (da_cons (do_nm (pv 3)) da_nil))) (da_cons (DE.opd (de_tup da_nil)) (da_cons (DE.opd (de_var (pv 4))) (da_cons (DE.opd (de_tup (da_cons (DE.opd (de_var (pv 4))) da_nil))) (da_cons (DE.opd (de_tup (da_cons (DE.opd (de_tup da_nil)) da_nil))) (da_cons (DE.opd (de_var (pv 5))) da_nil)))))))))))
    (dss_one (ds_for (passes_of rfl) rfl (di_seq (de_bin or_add ok_add (do_nm (pv 6)) (DE.opd (de_lst (da_cons (DE.opd (de_bin or_add ok_add (do_nm (pv 5)) (DE.opd (de_tup (da_cons (DE.opd (de_tup da_nil)) da_nil))))) (da_cons (DE.opd (de_bin or_add ok_add (do_nm (pv 3)) (DE.opd (de_tup (da_cons (DE.opd (de_tupRg1 rfl (by rfl) T.n_tuple (by rfl) T.n_range (DE.opd (de_callB call_len ok_len (by rfl) T.n_len bt_len (da_cons (do_nm (pv 3)) da_nil))))) da_nil))))) da_nil)))))) (dg_name (i := 7) sc_law.nd rfl (.inl rfl)) (dss_cons (ds_set (i := 8) sc_law.nd rfl (.inl rfl) (de_callB (cr_reprX hg (hu64 hr)) ok_reprX (by rfl) T.n_repr bt_repr (da_cons (do_nm (pv 7)) da_nil)))
    (dss_one (ds_if (DW.dt (dw_or (dt_not (dt_val (de_call (L2N.takes_of rfl rfl rfl rfl) (ok__law_truth T) (hr.mono (by decide)) (by rfl) T.g__law_truth T.F__law_truth.kp T.b__law_truth (da_cons (DE.opd (de_call (L2N.takes_of rfl rfl rfl rfl) (ok_is_net T) (hr.mono (by decide)) (by rfl) T.g_is_net T.F_is_net.kp T.b_is_net (da_cons (do_nm (pv 7)) da_nil))) (da_cons (DE.opd (de_call (L2N.takes_of rfl rfl rfl rfl) (ok__law_is_net T) (hr.mono (by decide)) (by rfl) T.g__law_is_net T.F__law_is_net.kp T.b__law_is_net (da_cons (do_nm (pv 7)) da_nil))) da_nil))))) (dw_or1 (dt_cmp (or_ne (hu64 hr)) ok_ne (nomark _) (DE.opd (de_callB (cr_reprX hg (hu64 hr)) ok_reprX (by rfl) T.n_repr bt_repr (da_cons (do_nm (pv 7)) da_nil))) (do_nm (pv 8)))))) (dss_one (ds_ret de_bool)) dss_nil)))))))))))
    (dss_one (ds_ret de_bool)))
end
theorem all_mk {l : PySem.W.OpenLaw} {w : World} {K : PySem.W.Frag} {h : Heap} {mg : Str → Option Value} {fa : Addr} (X : K.In h) (G : h.Ns mainGlobals mg) (hfa : mg "law" = some (.ref fa)) {f_is_whole f_is_rising f_is_net f__law_cell f__law_mix f__law_box f__law_take f__law_whole f__law_truth f__law_odd f__law_net f__law_is_net f__law_bent f_law : Addr}
    {od_is_whole an_is_whole : Option Addr} {sl_is_whole : Array (Option Value)} {oc_is_whole kV_is_whole dc_is_whole pm_is_whole cd_is_whole ct_is_whole : Value}
    {od_is_rising an_is_rising : Option Addr} {sl_is_rising : Array (Option Value)} {oc_is_rising kV_is_rising dc_is_rising pm_is_rising cd_is_rising ct_is_rising : Value}
    {od_is_net an_is_net : Option Addr} {sl_is_net : Array (Option Value)} {oc_is_net kV_is_net dc_is_net pm_is_net cd_is_net ct_is_net : Value}
    {od__law_cell an__law_cell : Option Addr} {sl__law_cell : Array (Option Value)} {oc__law_cell kV__law_cell dc__law_cell pm__law_cell cd__law_cell ct__law_cell : Value}
    {od__law_mix an__law_mix : Option Addr} {sl__law_mix : Array (Option Value)} {oc__law_mix kV__law_mix dc__law_mix pm__law_mix cd__law_mix ct__law_mix : Value}
    {od__law_box an__law_box : Option Addr} {sl__law_box : Array (Option Value)} {oc__law_box kV__law_box dc__law_box pm__law_box cd__law_box ct__law_box : Value}
    {od__law_take an__law_take : Option Addr} {sl__law_take : Array (Option Value)} {oc__law_take kV__law_take dc__law_take pm__law_take cd__law_take ct__law_take : Value}
    {od__law_whole an__law_whole : Option Addr} {sl__law_whole : Array (Option Value)} {oc__law_whole kV__law_whole dc__law_whole pm__law_whole cd__law_whole ct__law_whole : Value}
    {od__law_truth an__law_truth : Option Addr} {sl__law_truth : Array (Option Value)} {oc__law_truth kV__law_truth dc__law_truth pm__law_truth cd__law_truth ct__law_truth : Value}
    {od__law_odd an__law_odd : Option Addr} {sl__law_odd : Array (Option Value)} {oc__law_odd kV__law_odd dc__law_odd pm__law_odd cd__law_odd ct__law_odd : Value}
    {od__law_net an__law_net : Option Addr} {sl__law_net : Array (Option Value)} {oc__law_net kV__law_net dc__law_net pm__law_net cd__law_net ct__law_net : Value}
    {od__law_is_net an__law_is_net : Option Addr} {sl__law_is_net : Array (Option Value)} {oc__law_is_net kV__law_is_net dc__law_is_net pm__law_is_net cd__law_is_net ct__law_is_net : Value}
    {od__law_bent an__law_bent : Option Addr} {sl__law_bent : Array (Option Value)} {oc__law_bent kV__law_bent dc__law_bent pm__law_bent cd__law_bent ct__law_bent : Value}
    {od_law an_law : Option Addr} {sl_law : Array (Option Value)} {oc_law kV_law dc_law pm_law cd_law ct_law : Value}
    {tk_MOST_SPOTS : Tok}
    (a_is_whole : PySem.W.nsIn K mainGlobals "is_whole" = some (some (.ref f_is_whole))) (l_is_whole : K.lookup f_is_whole = some ⟨oc_is_whole, od_is_whole, .func (PySem.W.fnOf "is_whole" "is_whole" (defArgs s_is_whole) (defBody s_is_whole) (defScope s_is_whole) .none kV_is_whole dc_is_whole pm_is_whole an_is_whole cd_is_whole ct_is_whole), sl_is_whole⟩) (c_is_whole : PySem.W.codeIn K cd_is_whole "is_whole" = true) (k_is_whole : PySem.W.keepIn K (.ref f_is_whole) = true)
    (a_is_rising : PySem.W.nsIn K mainGlobals "is_rising" = some (some (.ref f_is_rising))) (l_is_rising : K.lookup f_is_rising = some ⟨oc_is_rising, od_is_rising, .func (PySem.W.fnOf "is_rising" "is_rising" (defArgs s_is_rising) (defBody s_is_rising) (defScope s_is_rising) .none kV_is_rising dc_is_rising pm_is_rising an_is_rising cd_is_rising ct_is_rising), sl_is_rising⟩) (c_is_rising : PySem.W.codeIn K cd_is_rising "is_rising" = true) (k_is_rising : PySem.W.keepIn K (.ref f_is_rising) = true)
    (a_is_net : PySem.W.nsIn K mainGlobals "is_net" = some (some (.ref f_is_net))) (l_is_net : K.lookup f_is_net = some ⟨oc_is_net, od_is_net, .func (PySem.W.fnOf "is_net" "is_net" (defArgs s_is_net) (defBody s_is_net) (defScope s_is_net) .none kV_is_net dc_is_net pm_is_net an_is_net cd_is_net ct_is_net), sl_is_net⟩) (c_is_net : PySem.W.codeIn K cd_is_net "is_net" = true) (k_is_net : PySem.W.keepIn K (.ref f_is_net) = true)
    (a__law_cell : PySem.W.nsIn K mainGlobals "_law_cell" = some (some (.ref f__law_cell))) (l__law_cell : K.lookup f__law_cell = some ⟨oc__law_cell, od__law_cell, .func (PySem.W.fnOf "_law_cell" "_law_cell" (defArgs s__law_cell) (defBody s__law_cell) (defScope s__law_cell) .none kV__law_cell dc__law_cell pm__law_cell an__law_cell cd__law_cell ct__law_cell), sl__law_cell⟩) (c__law_cell : PySem.W.codeIn K cd__law_cell "_law_cell" = true) (k__law_cell : PySem.W.keepIn K (.ref f__law_cell) = true)
    (a__law_mix : PySem.W.nsIn K mainGlobals "_law_mix" = some (some (.ref f__law_mix))) (l__law_mix : K.lookup f__law_mix = some ⟨oc__law_mix, od__law_mix, .func (PySem.W.fnOf "_law_mix" "_law_mix" (defArgs s__law_mix) (defBody s__law_mix) (defScope s__law_mix) .none kV__law_mix dc__law_mix pm__law_mix an__law_mix cd__law_mix ct__law_mix), sl__law_mix⟩) (c__law_mix : PySem.W.codeIn K cd__law_mix "_law_mix" = true) (k__law_mix : PySem.W.keepIn K (.ref f__law_mix) = true)
    (a__law_box : PySem.W.nsIn K mainGlobals "_law_box" = some (some (.ref f__law_box))) (l__law_box : K.lookup f__law_box = some ⟨oc__law_box, od__law_box, .func (PySem.W.fnOf "_law_box" "_law_box" (defArgs s__law_box) (defBody s__law_box) (defScope s__law_box) .none kV__law_box dc__law_box pm__law_box an__law_box cd__law_box ct__law_box), sl__law_box⟩) (c__law_box : PySem.W.codeIn K cd__law_box "_law_box" = true) (k__law_box : PySem.W.keepIn K (.ref f__law_box) = true)
    (a__law_take : PySem.W.nsIn K mainGlobals "_law_take" = some (some (.ref f__law_take))) (l__law_take : K.lookup f__law_take = some ⟨oc__law_take, od__law_take, .func (PySem.W.fnOf "_law_take" "_law_take" (defArgs s__law_take) (defBody s__law_take) (defScope s__law_take) .none kV__law_take dc__law_take pm__law_take an__law_take cd__law_take ct__law_take), sl__law_take⟩) (c__law_take : PySem.W.codeIn K cd__law_take "_law_take" = true) (k__law_take : PySem.W.keepIn K (.ref f__law_take) = true)
    (a__law_whole : PySem.W.nsIn K mainGlobals "_law_whole" = some (some (.ref f__law_whole))) (l__law_whole : K.lookup f__law_whole = some ⟨oc__law_whole, od__law_whole, .func (PySem.W.fnOf "_law_whole" "_law_whole" (defArgs s__law_whole) (defBody s__law_whole) (defScope s__law_whole) .none kV__law_whole dc__law_whole pm__law_whole an__law_whole cd__law_whole ct__law_whole), sl__law_whole⟩) (c__law_whole : PySem.W.codeIn K cd__law_whole "_law_whole" = true) (k__law_whole : PySem.W.keepIn K (.ref f__law_whole) = true)
    (a__law_truth : PySem.W.nsIn K mainGlobals "_law_truth" = some (some (.ref f__law_truth))) (l__law_truth : K.lookup f__law_truth = some ⟨oc__law_truth, od__law_truth, .func (PySem.W.fnOf "_law_truth" "_law_truth" (defArgs s__law_truth) (defBody s__law_truth) (defScope s__law_truth) .none kV__law_truth dc__law_truth pm__law_truth an__law_truth cd__law_truth ct__law_truth), sl__law_truth⟩) (c__law_truth : PySem.W.codeIn K cd__law_truth "_law_truth" = true) (k__law_truth : PySem.W.keepIn K (.ref f__law_truth) = true)
    (a__law_odd : PySem.W.nsIn K mainGlobals "_law_odd" = some (some (.ref f__law_odd))) (l__law_odd : K.lookup f__law_odd = some ⟨oc__law_odd, od__law_odd, .func (PySem.W.fnOf "_law_odd" "_law_odd" (defArgs s__law_odd) (defBody s__law_odd) (defScope s__law_odd) .none kV__law_odd dc__law_odd pm__law_odd an__law_odd cd__law_odd ct__law_odd), sl__law_odd⟩) (c__law_odd : PySem.W.codeIn K cd__law_odd "_law_odd" = true) (k__law_odd : PySem.W.keepIn K (.ref f__law_odd) = true)
    (a__law_net : PySem.W.nsIn K mainGlobals "_law_net" = some (some (.ref f__law_net))) (l__law_net : K.lookup f__law_net = some ⟨oc__law_net, od__law_net, .func (PySem.W.fnOf "_law_net" "_law_net" (defArgs s__law_net) (defBody s__law_net) (defScope s__law_net) .none kV__law_net dc__law_net pm__law_net an__law_net cd__law_net ct__law_net), sl__law_net⟩) (c__law_net : PySem.W.codeIn K cd__law_net "_law_net" = true) (k__law_net : PySem.W.keepIn K (.ref f__law_net) = true)
    (a__law_is_net : PySem.W.nsIn K mainGlobals "_law_is_net" = some (some (.ref f__law_is_net))) (l__law_is_net : K.lookup f__law_is_net = some ⟨oc__law_is_net, od__law_is_net, .func (PySem.W.fnOf "_law_is_net" "_law_is_net" (defArgs s__law_is_net) (defBody s__law_is_net) (defScope s__law_is_net) .none kV__law_is_net dc__law_is_net pm__law_is_net an__law_is_net cd__law_is_net ct__law_is_net), sl__law_is_net⟩) (c__law_is_net : PySem.W.codeIn K cd__law_is_net "_law_is_net" = true) (k__law_is_net : PySem.W.keepIn K (.ref f__law_is_net) = true)
    (a__law_bent : PySem.W.nsIn K mainGlobals "_law_bent" = some (some (.ref f__law_bent))) (l__law_bent : K.lookup f__law_bent = some ⟨oc__law_bent, od__law_bent, .func (PySem.W.fnOf "_law_bent" "_law_bent" (defArgs s__law_bent) (defBody s__law_bent) (defScope s__law_bent) .none kV__law_bent dc__law_bent pm__law_bent an__law_bent cd__law_bent ct__law_bent), sl__law_bent⟩) (c__law_bent : PySem.W.codeIn K cd__law_bent "_law_bent" = true) (k__law_bent : PySem.W.keepIn K (.ref f__law_bent) = true)
    (a_law : PySem.W.nsIn K mainGlobals "law" = some (some (.ref f_law))) (l_law : K.lookup f_law = some ⟨oc_law, od_law, .func (PySem.W.fnOf "law" "law" (defArgs s_law) (defBody s_law) (defScope s_law) .none kV_law dc_law pm_law an_law cd_law ct_law), sl_law⟩) (c_law : PySem.W.codeIn K cd_law "law" = true) (k_law : PySem.W.keepIn K (.ref f_law) = true)
    (n_abs : PySem.W.nsIn K mainGlobals "abs" = some none)
    (n_all : PySem.W.nsIn K mainGlobals "all" = some none)
    (n_bool : PySem.W.nsIn K mainGlobals "bool" = some none)
    (n_divmod : PySem.W.nsIn K mainGlobals "divmod" = some none)
    (n_enumerate : PySem.W.nsIn K mainGlobals "enumerate" = some none)
    (n_int : PySem.W.nsIn K mainGlobals "int" = some none)
    (n_isinstance : PySem.W.nsIn K mainGlobals "isinstance" = some none)
    (n_len : PySem.W.nsIn K mainGlobals "len" = some none)
    (n_list : PySem.W.nsIn K mainGlobals "list" = some none)
    (n_max : PySem.W.nsIn K mainGlobals "max" = some none)
    (n_min : PySem.W.nsIn K mainGlobals "min" = some none)
    (n_range : PySem.W.nsIn K mainGlobals "range" = some none)
    (n_repr : PySem.W.nsIn K mainGlobals "repr" = some none)
    (n_set : PySem.W.nsIn K mainGlobals "set" = some none)
    (n_sorted : PySem.W.nsIn K mainGlobals "sorted" = some none)
    (n_tuple : PySem.W.nsIn K mainGlobals "tuple" = some none)
    (k_MOST_SPOTS : PySem.W.nsIn K mainGlobals "MOST_SPOTS" = some (some (.int 10 tk_MOST_SPOTS)))
    : ∃ fd : FuncData, (∀ (s : Shared) (v : Value), BindsTo s fd ⟨[v], []⟩ [("script", v)]) ∧ ∀ base : Heap, K.In base → base.Ns mainGlobals mg → FnG l.prog w K mg base 4 fa fd ["script"] (spLaw K) := by
  have e := hfa.symm.trans (PySem.W.mg_of X G a_law)
  cases e
  have F_is_whole := fun_mk (st := s_is_whole) l_is_whole c_is_whole k_is_whole
  have F_is_rising := fun_mk (st := s_is_rising) l_is_rising c_is_rising k_is_rising
  have F_is_net := fun_mk (st := s_is_net) l_is_net c_is_net k_is_net
  have F__law_cell := fun_mk (st := s__law_cell) l__law_cell c__law_cell k__law_cell
  have F__law_mix := fun_mk (st := s__law_mix) l__law_mix c__law_mix k__law_mix
  have F__law_box := fun_mk (st := s__law_box) l__law_box c__law_box k__law_box
  have F__law_take := fun_mk (st := s__law_take) l__law_take c__law_take k__law_take
  have F__law_whole := fun_mk (st := s__law_whole) l__law_whole c__law_whole k__law_whole
  have F__law_truth := fun_mk (st := s__law_truth) l__law_truth c__law_truth k__law_truth
  have F__law_odd := fun_mk (st := s__law_odd) l__law_odd c__law_odd k__law_odd
  have F__law_net := fun_mk (st := s__law_net) l__law_net c__law_net k__law_net
  have F__law_is_net := fun_mk (st := s__law_is_net) l__law_is_net c__law_is_net k__law_is_net
  have F__law_bent := fun_mk (st := s__law_bent) l__law_bent c__law_bent k__law_bent
  have F_law := fun_mk (st := s_law) l_law c_law k_law
  have T : Txt w K mg ⟨f_is_whole, _, f_is_rising, _, f_is_net, _, f__law_cell, _, f__law_mix, _, f__law_box, _, f__law_take, _, f__law_whole, _, f__law_truth, _, f__law_odd, _, f__law_net, _, f__law_is_net, _, f__law_bent, _, fa, _⟩ := ⟨F_is_whole, PySem.W.mg_of X G a_is_whole, (F_is_whole.binds (ps := ["thing"]) fun _ _ _ _ _ _ us hl => match us, hl with | [_], _ => rfl),
    F_is_rising, PySem.W.mg_of X G a_is_rising, (F_is_rising.binds (ps := ["things", "behind"]) fun _ _ _ _ _ _ us hl => match us, hl with | [_, _], _ => rfl),
    F_is_net, PySem.W.mg_of X G a_is_net, (F_is_net.binds (ps := ["thing"]) fun _ _ _ _ _ _ us hl => match us, hl with | [_], _ => rfl),
    F__law_cell, PySem.W.mg_of X G a__law_cell, (F__law_cell.binds (ps := ["script", "k"]) fun _ _ _ _ _ _ us hl => match us, hl with | [_, _], _ => rfl),
    F__law_mix, PySem.W.mg_of X G a__law_mix, (F__law_mix.binds (ps := ["cell", "k"]) fun _ _ _ _ _ _ us hl => match us, hl with | [_, _], _ => rfl),
    F__law_box, PySem.W.mg_of X G a__law_box, (F__law_box.binds (ps := ["script", "k"]) fun _ _ _ _ _ _ us hl => match us, hl with | [_, _], _ => rfl),
    F__law_take, PySem.W.mg_of X G a__law_take, (F__law_take.binds (ps := ["box", "many"]) fun _ _ _ _ _ _ us hl => match us, hl with | [_, _], _ => rfl),
    F__law_whole, PySem.W.mg_of X G a__law_whole, (F__law_whole.binds (ps := ["thing"]) fun _ _ _ _ _ _ us hl => match us, hl with | [_], _ => rfl),
    F__law_truth, PySem.W.mg_of X G a__law_truth, (F__law_truth.binds (ps := ["found", "due"]) fun _ _ _ _ _ _ us hl => match us, hl with | [_, _], _ => rfl),
    F__law_odd, PySem.W.mg_of X G a__law_odd, (F__law_odd.binds (ps := ["box"]) fun _ _ _ _ _ _ us hl => match us, hl with | [_], _ => rfl),
    F__law_net, PySem.W.mg_of X G a__law_net, (F__law_net.binds (ps := ["box", "most"]) fun _ _ _ _ _ _ us hl => match us, hl with | [_, _], _ => rfl),
    F__law_is_net, PySem.W.mg_of X G a__law_is_net, (F__law_is_net.binds (ps := ["thing"]) fun _ _ _ _ _ _ us hl => match us, hl with | [_], _ => rfl),
    F__law_bent, PySem.W.mg_of X G a__law_bent, (F__law_bent.binds (ps := ["box", "net", "odd"]) fun _ _ _ _ _ _ us hl => match us, hl with | [_, _, _], _ => rfl),
    F_law, PySem.W.mg_of X G a_law, (F_law.binds (ps := ["script"]) fun _ _ _ _ _ _ us hl => match us, hl with | [_], _ => rfl),
    PySem.W.mg_none_of X G n_abs,
    PySem.W.mg_none_of X G n_all,
    PySem.W.mg_none_of X G n_bool,
    PySem.W.mg_none_of X G n_divmod,
    PySem.W.mg_none_of X G n_enumerate,
    PySem.W.mg_none_of X G n_int,
    PySem.W.mg_none_of X G n_isinstance,
    PySem.W.mg_none_of X G n_len,
    PySem.W.mg_none_of X G n_list,
    PySem.W.mg_none_of X G n_max,
    PySem.W.mg_none_of X G n_min,
    PySem.W.mg_none_of X G n_range,
    PySem.W.mg_none_of X G n_repr,
    PySem.W.mg_none_of X G n_set,
    PySem.W.mg_none_of X G n_sorted,
    PySem.W.mg_none_of X G n_tuple,
    ⟨tk_MOST_SPOTS, PySem.W.mg_of X G k_MOST_SPOTS⟩⟩
  exact ⟨_, fun s v => .of_eq rfl, fun base _ _ => law_ofG (ok_law T) (fun ns _ => DL.law_true_01 ns)⟩
end K01
open PySem PySem.W PyProof.Rows
set_option maxHeartbeats 0 in
theorem PySem.Challenge.cw_needstones_k01_nets_known_holds : PySem.Challenge.rw_needstones_k01_nets_known.Holds := by
  w_on; o_law; k_head; (case hw => w_witness2)
  k_fill
  refine DL.walk_ofG (l := PySem.Challenge.rw_needstones_k01_nets_known) (k := 4) (x := "script") rfl rfl ⟨rfl, by decide, by decide⟩ (fun w h Y => PySem.W.kIn_of Y) ?F
  case F =>
    intro w mg fa h KX G hmg
    refine' K01.all_mk KX G hmg ?a_is_whole ?l_is_whole ?c_is_whole ?k_is_whole ?a_is_rising ?l_is_rising ?c_is_rising ?k_is_rising ?a_is_net ?l_is_net ?c_is_net ?k_is_net ?a__law_cell ?l__law_cell ?c__law_cell ?k__law_cell ?a__law_mix ?l__law_mix ?c__law_mix ?k__law_mix ?a__law_box ?l__law_box ?c__law_box ?k__law_box ?a__law_take ?l__law_take ?c__law_take ?k__law_take ?a__law_whole ?l__law_whole ?c__law_whole ?k__law_whole ?a__law_truth ?l__law_truth ?c__law_truth ?k__law_truth ?a__law_odd ?l__law_odd ?c__law_odd ?k__law_odd ?a__law_net ?l__law_net ?c__law_net ?k__law_net ?a__law_is_net ?l__law_is_net ?c__law_is_net ?k__law_is_net ?a__law_bent ?l__law_bent ?c__law_bent ?k__law_bent ?a_law ?l_law ?c_law ?k_law ?n_abs ?n_all ?n_bool ?n_divmod ?n_enumerate ?n_int ?n_isinstance ?n_len ?n_list ?n_max ?n_min ?n_range ?n_repr ?n_set ?n_sorted ?n_tuple ?k_MOST_SPOTS
    (case a_is_whole => k_is)
    (case l_is_whole => k_is)
    (case c_is_whole => k_is)
    (case k_is_whole => k_is)
    (case a_is_rising => k_is)
    (case l_is_rising => k_is)
    (case c_is_rising => k_is)
    (case k_is_rising => k_is)
    (case a_is_net => k_is)
    (case l_is_net => k_is)
    (case c_is_net => k_is)
    (case k_is_net => k_is)
    (case a__law_cell => k_is)
    (case l__law_cell => k_is)
    (case c__law_cell => k_is)
    (case k__law_cell => k_is)
    (case a__law_mix => k_is)
    (case l__law_mix => k_is)
    (case c__law_mix => k_is)
    (case k__law_mix => k_is)
    (case a__law_box => k_is)
    (case l__law_box => k_is)
    (case c__law_box => k_is)
    (case k__law_box => k_is)
    (case a__law_take => k_is)
    (case l__law_take => k_is)
    (case c__law_take => k_is)
    (case k__law_take => k_is)
    (case a__law_whole => k_is)
    (case l__law_whole => k_is)
    (case c__law_whole => k_is)
    (case k__law_whole => k_is)
    (case a__law_truth => k_is)
    (case l__law_truth => k_is)
    (case c__law_truth => k_is)
    (case k__law_truth => k_is)
    (case a__law_odd => k_is)
    (case l__law_odd => k_is)
    (case c__law_odd => k_is)
    (case k__law_odd => k_is)
    (case a__law_net => k_is)
    (case l__law_net => k_is)
    (case c__law_net => k_is)
    (case k__law_net => k_is)
    (case a__law_is_net => k_is)
    (case l__law_is_net => k_is)
    (case c__law_is_net => k_is)
    (case k__law_is_net => k_is)
    (case a__law_bent => k_is)
    (case l__law_bent => k_is)
    (case c__law_bent => k_is)
    (case k__law_bent => k_is)
    (case a_law => k_is)
    (case l_law => k_is)
    (case c_law => k_is)
    (case k_law => k_is)
    (case n_abs => k_is)
    (case n_all => k_is)
    (case n_bool => k_is)
    (case n_divmod => k_is)
    (case n_enumerate => k_is)
    (case n_int => k_is)
    (case n_isinstance => k_is)
    (case n_len => k_is)
    (case n_list => k_is)
    (case n_max => k_is)
    (case n_min => k_is)
    (case n_range => k_is)
    (case n_repr => k_is)
    (case n_set => k_is)
    (case n_sorted => k_is)
    (case n_tuple => k_is)
    (case k_MOST_SPOTS => k_is)
#print axioms PySem.Challenge.cw_needstones_k01_nets_known_holds
