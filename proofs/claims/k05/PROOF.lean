import PyProof.Rows.All
import HandS.ForMost
import HandS.ForExc
import HandS.TupAny
import HandS.Deep
import HandS.ExcCtx
import HandS.IsInst
import HandS.SortInts
import HandS.WideBits
import KE.GoesMore
import HandS.Conv
import HandS.More
import KE.KDictDisplayH
import HandS.Small
import KE.KDictCopyH
import HandS.SetFor
import KE.SortCalls
import KE.DatumOrd
import KE.KDictPairs
import HandS.TupSets
import HandS.TupLe
import HandS.HotCalls
import HandS.ExcIs
import PyProof.FactsAll.list_3
import HandS.TupMul
import HandS.Flow
import HandS.Style
import HandS.Rev
import KE.KDictList
import HandS.Text
import HandS.RaiseMore
import HandS.DictEq
import KE.KDictKeyed
import KE.KDictOf
import HandS.ExcInit
import HandS.ExcField
import HandS.ClsMeth
import KE.KExcIs
import PyProof.Rows.StrSplitJoin
import KE.SortData
import PySem.Challenge.RW_needstones_k05_texts_refused
set_option Elab.async false
set_option linter.all false
set_option maxRecDepth 100000
set_option maxHeartbeats 8000000
namespace DL
open PySem L2

def Plain : HO → Prop
  | .frz _ _ => False
  | _ => True
def NoLk : HO → Prop
  | .frz _ (.lst _) => False
  | _ => True
structure Sub (F F' : Hp) : Prop where
  rd : ∀ a u, Plain u → Rd F a u → Rd F' a u
  dom : ∀ a, F a ≠ none → F' a ≠ none
  tp : ∀ a vs, F a = some (.tup vs) → F' a = some (.tup vs)
theorem Sub.refl (F : Hp) : Sub F F := ⟨fun _ _ _ h => h, fun _ h => h, fun _ _ h => h⟩
theorem Sub.trans {F G I : Hp} (a : Sub F G) (b : Sub G I) : Sub F I := ⟨fun x u p h => b.rd x u p (a.rd x u p h), fun x h => b.dom x (a.dom x h), fun x vs h => b.tp x vs (a.tp x vs h)⟩
theorem Sub.of {F G : Hp} (h : ∀ a o, F a = some o → G a = some o) : Sub F G where
  rd := fun a u _ r => by
    rcases r with r | ⟨o, r⟩
    · exact .inl (h _ _ r)
    · exact .inr ⟨o, h _ _ r⟩
  dom := fun a n => by
    cases e : F a with
    | none => exact absurd e n
    | some o => rw [h _ _ e]; exact fun z => nomatch z
  tp := fun a vs e => h _ _ e
theorem Sub.none {F G : Hp} (s : Sub F G) {a : Addr} (h : G a = Option.none) : F a = Option.none := by
  cases e : F a with
  | none => rfl
  | some o => exact absurd h (s.dom a (by rw [e]; exact fun z => nomatch z))
theorem Sub.sqL {F G : Hp} {K : PySem.W.Frag} {a : Addr} {xs : List V} (s : Sub F G) (h : SqL K F a xs) : SqL K G a xs := by
  rcases h with h | h
  · exact .inl (s.rd _ _ trivial h)
  · exact .inr h
theorem Sub.sqT {F G : Hp} {K : PySem.W.Frag} {a : Addr} {xs : List V} (s : Sub F G) (h : SqT K F a xs) : SqT K G a xs := by
  rcases h with h | h
  · exact .inl (s.rd _ _ trivial h)
  · exact .inr h
theorem rd_dom {F : Hp} {a : Addr} {u : HO} (h : Rd F a u) : F a ≠ none := by
  rcases h with h | ⟨o, h⟩ <;> rw [h] <;> exact fun z => nomatch z

def keyD : Key → PyData
  | .inl i => .int i
  | .inr x => .str x
def tkeyD (k : List Key) : PyData := .tuple (k.map keyD)
def IsCls (K : PySem.W.Frag) (C : Addr) : Prop := PySem.W.nsIn K mainGlobals "Desk" = some (some (.ref C))
def attrs (vs : List V) : List (Str × V) := (["net", "rules", "steps"] : List Str).zip vs
mutual
inductive RD (K : PySem.W.Frag) (F : Hp) : V → PyData → Prop
  | non : RD K F .non .none
  | bl (b : Bool) : RD K F (.bl b) (.bool b)
  | int (i : Int) : RD K F (.int i) (.int i)
  | str (x : Str) : RD K F (.str x) (.str x)
  | lst {a : Addr} {vs : List V} {ds : List PyData} : Rd F a (.lst vs) → RDs K F vs ds → RD K F (.ref a) (.list ds)
  | scr {a : Addr} {ns : List Int} : SqL K F a (ns.map V.int) → RD K F (.ref a) (.dict [(.none, .list (ns.map .int))])
  | adr (a : Addr) : RD K F (.ref a) (.dict [(.none, .int (a : Nat))])
  | fn {a : Addr} (x : Str) : PySem.W.nsIn K mainGlobals x = some (some (.ref a)) → RD K F (.ref a) (.dict [(.none, .str x)])
  | tup {a : Addr} {vs : List V} {ds : List PyData} : F a = some (.tup vs) → RDs K F vs ds → RD K F (.ref a) (.tuple ds)
  | dK {a : Addr} {kvs : List (Key × V)} {ds : List PyData} : kvs ≠ [] → Rd F a (.dK kvs) → RDs K F (kvs.map (·.2)) ds → RD K F (.ref a) (.dict ((kvs.map fun p => keyD p.1).zip ds))
  | dT {a : Addr} {kvs : List (List Key × V)} {ds : List PyData} : Rd F a (.dT kvs) → RDs K F (kvs.map (·.2)) ds → RD K F (.ref a) (.dict ((kvs.map fun p => tkeyD p.1).zip ds))
  | ins {a C dx : Addr} {vs : List V} {ds : List PyData} : Rd F a (.ins C dx (attrs vs)) → IsCls K C → vs.length ≤ 3 → RDs K F vs ds → RD K F (.ref a) (.dict [(.none, .tuple ds)])
inductive RDs (K : PySem.W.Frag) (F : Hp) : List V → List PyData → Prop
  | nil : RDs K F [] []
  | cons {v : V} {d : PyData} {vs : List V} {ds : List PyData} : RD K F v d → RDs K F vs ds → RDs K F (v :: vs) (d :: ds)
end
mutual
theorem RD.mono {K : PySem.W.Frag} {F G : Hp} (s : Sub F G) : ∀ {v : V} {d : PyData}, RD K F v d → RD K G v d
  | _, _, .non => .non
  | _, _, .bl b => .bl b
  | _, _, .int i => .int i
  | _, _, .str x => .str x
  | _, _, .lst h r => .lst (s.rd _ _ trivial h) (RDs.mono s r)
  | _, _, .scr h => .scr (s.sqL h)
  | _, _, .adr a => .adr a
  | _, _, .fn x h => .fn x h
  | _, _, .tup h r => .tup (s.tp _ _ h) (RDs.mono s r)
  | _, _, .dK n h r => .dK n (s.rd _ _ trivial h) (RDs.mono s r)
  | _, _, .dT h r => .dT (s.rd _ _ trivial h) (RDs.mono s r)
  | _, _, .ins h c l r => .ins (s.rd _ _ trivial h) c l (RDs.mono s r)
theorem RDs.mono {K : PySem.W.Frag} {F G : Hp} (s : Sub F G) : ∀ {vs : List V} {ds : List PyData}, RDs K F vs ds → RDs K G vs ds
  | _, _, .nil => .nil
  | _, _, .cons a b => .cons (RD.mono s a) (RDs.mono s b)
end
section
variable {K : PySem.W.Frag} {F G : Hp} {vs ws : List V} {ds es : List PyData}
theorem RDs.length : ∀ {vs : List V} {ds : List PyData}, RDs K F vs ds → vs.length = ds.length
  | _, _, .nil => rfl
  | _, _, .cons _ t => by simp [RDs.length t]
theorem RDs.get : ∀ {vs : List V} {ds : List PyData} {i : Nat} {v : V}, RDs K F vs ds → vs[i]? = some v → ∃ d, ds[i]? = some d ∧ RD K F v d
  | _, _, _, _, .nil, e => by simp at e
  | _, _, 0, _, .cons r _, e => by simp at e; subst e; exact ⟨_, rfl, r⟩
  | _, _, i + 1, v, .cons _ t, e => by
    obtain ⟨d, h1, h2⟩ := RDs.get (i := i) (v := v) t (by simpa using e)
    exact ⟨d, by simpa using h1, h2⟩
theorem RDs.get' : ∀ {vs : List V} {ds : List PyData} {i : Nat} {d : PyData}, RDs K F vs ds → ds[i]? = some d → ∃ v, vs[i]? = some v ∧ RD K F v d
  | _, _, _, _, .nil, e => by simp at e
  | _, _, 0, _, .cons r _, e => by simp at e; subst e; exact ⟨_, rfl, r⟩
  | _, _, i + 1, v, .cons _ t, e => by
    obtain ⟨d, h1, h2⟩ := RDs.get' (i := i) (d := v) t (by simpa using e)
    exact ⟨d, by simpa using h1, h2⟩
theorem RDs.append : ∀ {vs ws : List V} {ds es : List PyData}, RDs K F vs ds → RDs K F ws es → RDs K F (vs ++ ws) (ds ++ es)
  | _, _, _, _, .nil, s => s
  | _, _, _, _, .cons a b, s => .cons a (RDs.append b s)
theorem RDs.set {x : V} {d : PyData} (r : RD K F x d) : ∀ {vs : List V} {ds : List PyData} (i : Nat), RDs K F vs ds → RDs K F (vs.set i x) (ds.set i d)
  | _, _, _, .nil => .nil
  | _, _, 0, .cons _ t => .cons r t
  | _, _, i + 1, .cons q t => .cons q (RDs.set r i t)
theorem RDs.take : ∀ {vs : List V} {ds : List PyData} (n : Nat), RDs K F vs ds → RDs K F (vs.take n) (ds.take n)
  | _, _, 0, _ => .nil
  | _, _, _ + 1, .nil => .nil
  | _, _, n + 1, .cons r t => .cons r (RDs.take n t)
theorem RDs.drop : ∀ {vs : List V} {ds : List PyData} (n : Nat), RDs K F vs ds → RDs K F (vs.drop n) (ds.drop n)
  | _, _, 0, r => r
  | _, _, _ + 1, .nil => .nil
  | _, _, n + 1, .cons _ t => RDs.drop n t
theorem RDs.one {v : V} {d : PyData} (r : RD K F v d) : RDs K F [v] [d] := .cons r .nil
theorem RDs.reverse : ∀ {vs : List V} {ds : List PyData}, RDs K F vs ds → RDs K F vs.reverse ds.reverse
  | _, _, .nil => .nil
  | _, _, .cons a b => by
    rw [List.reverse_cons, List.reverse_cons]
    exact (RDs.reverse b).append (.one a)
end

inductive Cont (K : PySem.W.Frag) (F : Hp) : HO → PyData → Prop
  | lst {vs : List V} {ds : List PyData} : RDs K F vs ds → Cont K F (.lst vs) (.list ds)
  | dK {kvs : List (Key × V)} {ds : List PyData} : kvs ≠ [] → RDs K F (kvs.map (·.2)) ds → Cont K F (.dK kvs) (.dict ((kvs.map fun p => keyD p.1).zip ds))
  | dT {kvs : List (List Key × V)} {ds : List PyData} : RDs K F (kvs.map (·.2)) ds → Cont K F (.dT kvs) (.dict ((kvs.map fun p => tkeyD p.1).zip ds))
  | ins {C dx : Addr} {vs : List V} {ds : List PyData} : IsCls K C → vs.length ≤ 3 → RDs K F vs ds → Cont K F (.ins C dx (attrs vs)) (.dict [(.none, .tuple ds)])
theorem Cont.mono {K : PySem.W.Frag} {F G : Hp} {u : HO} {d : PyData} (s : Sub F G) (h : Cont K F u d) : Cont K G u d := by
  cases h with
  | lst r => exact .lst (r.mono s)
  | dK n r => exact .dK n (r.mono s)
  | dT r => exact .dT (r.mono s)
  | ins c l r => exact .ins c l (r.mono s)
theorem Cont.plain {K : PySem.W.Frag} {F : Hp} {u : HO} {d : PyData} (h : Cont K F u d) : Plain u := by
  cases h <;> trivial
theorem Cont.nlk {K : PySem.W.Frag} {F : Hp} {u : HO} {d : PyData} (h : Cont K F u d) : NoLk u := by
  cases h <;> trivial
theorem Cont.mut {K : PySem.W.Frag} {F : Hp} {u : HO} {d : PyData} (h : Cont K F u d) : Mut (some u) := by
  cases h <;> trivial
theorem Cont.rd {K : PySem.W.Frag} {F G : Hp} {u : HO} {d : PyData} {a : Addr} (h : Cont K F u d) (s : Sub F G) (r : Rd G a u) : RD K G (.ref a) d := by
  cases h with
  | lst q => exact .lst r (q.mono s)
  | dK n q => exact .dK n r (q.mono s)
  | dT q => exact .dT r (q.mono s)
  | ins c l q => exact .ins r c l (q.mono s)

structure Exc where
  cls : Str
  pay : Option PyData
inductive Cell where
  | emp
  | frz (d : PyData)
  | own (b : Bool) (d : PyData)
  | lck (d : PyData)
  | exc (x : Exc)
abbrev Cs := List Cell
abbrev XR := Hp → V → Exc → Prop
def CellR (K : PySem.W.Frag) (H F : Hp) (x : Option V) : Cell → Prop
  | .emp => True
  | .frz d => ∃ v, x = some v ∧ RD K F v d
  | .own _ d => ∃ a u, x = some (.ref a) ∧ H a = some u ∧ F a = none ∧ Cont K F u d
  | .lck d => ∃ a u, x = some (.ref a) ∧ H a = some u ∧ F a = none ∧ Cont K F u d
  | .exc _ => False
def Cell.mine : Cell → Bool
  | .own _ _ => true
  | .lck _ => true
  | _ => false
structure Ent where
  H₀ : Hp
  F₀ : Hp
  P : Addr → Prop
  pin : Nat → Option V
  lk : Nat → Option PyData
def NewA (H : Hp) (a : Addr) : Prop := H a = none ∨ ∃ vs, H a = some (.tup vs)
theorem NewA.no {H : Hp} {a : Addr} {u : HO} (n : NewA H a) (h : H a = some u) (m : Mut (some u)) : False := by
  rcases n with n | ⟨vs, n⟩ <;> rw [h] at n <;> cases n
  exact m
structure Wl (K : PySem.W.Frag) (e : Ent) (σ : St) (H F : Hp) (env : Cs) : Prop where
  len : σ.length = env.length
  sub : Sub F H
  cell : ∀ (i : Nat) (c : Cell) (x : Option V), env[i]? = some c → σ[i]? = some x → CellR K H F x c
  apart : ∀ (i j : Nat) (c c' : Cell) (a : Addr), i ≠ j → env[i]? = some c → env[j]? = some c' → c.mine = true → c'.mine = true → σ[i]? = some (some (.ref a)) → σ[j]? = some (some (.ref a)) → False
  keep : ∀ a o, e.H₀ a = some o → ¬ e.P a → H a = some o
  new : ∀ a, F a ≠ none → e.F₀ a ≠ none ∨ NewA e.H₀ a ∨ e.P a
  mine : ∀ (i : Nat) (b : Bool) (d : PyData) (a : Addr), env[i]? = some (.own b d) → σ[i]? = some (some (.ref a)) → e.H₀ a = none ∨ e.P a
  pin : ∀ (i : Nat) (c : Cell), env[i]? = some c → ((∃ d, c = .own true d) ∨ ∃ d, c = .lck d) → ∃ v, e.pin i = some v ∧ σ[i]? = some (some v)
  lk : ∀ (i : Nat) (d : PyData), e.lk i = some d → env[i]? = some (.lck d)
  lk2 : ∀ (i : Nat) (d : PyData), env[i]? = some (.lck d) → e.lk i = some d
  pl : ∀ a, F a ≠ none → e.F₀ a = none → ∃ u, H a = some u ∧ NoLk u

structure Grow (H F H' F' : Hp) : Prop where
  ex : ∀ a o, H a = some o → H' a = some o
  fz : Sub F F'
  sub : Sub F' H'
  new : ∀ a, F' a ≠ none → F a ≠ none ∨ NewA H a
  pl : ∀ a, F' a ≠ none → F a = none → ∃ u, H' a = some u ∧ NoLk u
theorem Grow.refl {H F : Hp} (s : Sub F H) : Grow H F H F := ⟨fun _ _ h => h, .refl _, s, fun _ h => .inl h, fun _ h n => absurd n h⟩
theorem upd_sub {F : Hp} {p : Addr} {o : HO} (n : F p = none) : Sub F (upd F p o) := .of fun a u h => by
  rw [upd_ne (ne_of_none h n)]; exact h
end DL

namespace DL
open PySem L2

inductive Res (α : Type) where
  | ok (a : α) (env : Cs)
  | ex (x : Exc) (env : Cs)
  | no
abbrev CE := Cs → Res Cell
abbrev CT := Cs → Res Bool
def Res.bind {α β : Type} (r : Res α) (k : α → Cs → Res β) : Res β := match r with
  | .ok a env => k a env
  | .ex x env => .ex x env
  | .no => .no

def RC (K : PySem.W.Frag) (e : Ent) (σ : St) (H F : Hp) (env : Cs) (v : V) : Cell → Prop
  | .frz d => RD K F v d
  | .own _ d => ∃ p u, v = .ref p ∧ H p = some u ∧ F p = none ∧ Cont K F u d ∧ (e.H₀ p = none ∨ e.P p) ∧ ∀ (i : Nat) (c : Cell), env[i]? = some c → c.mine = true → σ[i]? ≠ some (some (.ref p))
  | _ => False
abbrev XP := Exc → Value → Option Addr → Hp → Prop
def Post (K : PySem.W.Frag) (xp : XP) (W : WX) (e : Ent) (σ : St) (F : Hp) (Q : VK) : Res Cell → Prop
  | .ok c env => ∀ v H' F', Wl K e σ H' F' env → Sub F F' → RC K e σ H' F' env v c → Q v H'
  | .ex x env => ∀ H' F' cls d, Wl K e σ H' F' env → Sub F F' → xp x cls d H' → W cls d σ H'
  | .no => False
def PostT (K : PySem.W.Frag) (xp : XP) (W : WX) (e : Ent) (σ : St) (F : Hp) (Q : Bool → Hp → Prop) : Res Bool → Prop
  | .ok b env => ∀ H' F', Wl K e σ H' F' env → Sub F F' → Q b H'
  | .ex x env => ∀ H' F' cls d, Wl K e σ H' F' env → Sub F F' → xp x cls d H' → W cls d σ H'
  | .no => False
def DE (X : Cx) (xp : XP) (W : WX) (ex : Expr) (c : CE) (t : TE) : Prop :=
  PE X ex t ∧ ∀ e σ H F env Q, Wl X.K e σ H F env → Post X.K xp W e σ F Q (c env) → t σ H Q
def DT (X : Cx) (xp : XP) (W : WX) (ex : Expr) (c : CT) (t : TT) : Prop :=
  PT X ex t ∧ ∀ e σ H F env Q, Wl X.K e σ H F env → PostT X.K xp W e σ F Q (c env) → t σ H Q

section
variable {K : PySem.W.Frag} {e : Ent} {σ : St} {H F H' F' : Hp} {env : Cs} {v : V} {d : PyData}
theorem Wl.newA (w : Wl K e σ H F env) {a : Addr} (p : ¬ e.P a) (y : NewA H a) : NewA e.H₀ a := by
  cases z : e.H₀ a with
  | none => exact .inl z
  | some o =>
    have q := w.keep a o z p
    rcases y with y | ⟨vs, y⟩
    · rw [q] at y; cases y
    · rw [q] at y; cases y; exact .inr ⟨vs, z⟩
theorem Wl.grow (w : Wl K e σ H F env) (g : Grow H F H' F') : Wl K e σ H' F' env where
  len := w.len
  sub := g.sub
  cell := fun i c x hc hx => by
    have q := w.cell i c x hc hx
    cases c with
    | emp => trivial
    | frz d => obtain ⟨v, e1, r⟩ := q; exact ⟨v, e1, r.mono g.fz⟩
    | own b d =>
      obtain ⟨a, u, e1, h1, n1, k1⟩ := q
      refine ⟨a, u, e1, g.ex _ _ h1, ?_, k1.mono g.fz⟩
      cases z : F' a with
      | none => rfl
      | some o => rcases g.new a (by rw [z]; exact fun y => nomatch y) with y | y
                  · exact absurd n1 y
                  · exact (y.no h1 k1.mut).elim
    | lck d =>
      obtain ⟨a, u, e1, h1, n1, k1⟩ := q
      refine ⟨a, u, e1, g.ex _ _ h1, ?_, k1.mono g.fz⟩
      cases z : F' a with
      | none => rfl
      | some o => rcases g.new a (by rw [z]; exact fun y => nomatch y) with y | y
                  · exact absurd n1 y
                  · exact (y.no h1 k1.mut).elim
    | exc x => exact q.elim
  apart := w.apart
  keep := fun a o h n => g.ex _ _ (w.keep a o h n)
  new := fun a h => by
    rcases g.new a h with y | y
    · exact w.new a y
    · by_cases p : e.P a
      · exact .inr (.inr p)
      · exact .inr (.inl (w.newA p y))
  mine := w.mine
  pin := w.pin
  lk := w.lk
  lk2 := w.lk2
  pl := fun a h n => by
    cases z : F a with
    | none => exact g.pl a h z
    | some o =>
      obtain ⟨u, h1, p1⟩ := w.pl a (by rw [z]; exact fun y => nomatch y) n
      exact ⟨u, g.ex _ _ h1, p1⟩
theorem Wl.fresh (w : Wl K e σ H F env) {p : Addr} (h : H p = none) : F p = none := w.sub.none h
theorem Wl.grow_new (w : Wl K e σ H F env) {p : Addr} {o : HO} (h : H p = none) : Grow H F (upd H p o) F where
  ex := fun a u q => by rw [upd_ne (ne_of_none q h)]; exact q
  fz := .refl _
  sub := w.sub.trans (upd_sub h)
  new := fun a q => .inl q
  pl := fun a q n => absurd n q
theorem Wl.grow_frz (w : Wl K e σ H F env) {p : Addr} {o : HO} (h : H p = none) (po : NoLk o := by trivial) : Grow H F (upd H p o) (upd F p o) where
  ex := fun a u q => by rw [upd_ne (ne_of_none q h)]; exact q
  fz := upd_sub (w.fresh h)
  sub := by
    refine ⟨fun a u pl r => ?_, fun a n => ?_, fun a vs r => ?_⟩
    · by_cases z : a = p
      · subst z
        rcases r with r | ⟨x, r⟩
        · rw [upd_same] at r; exact .inl (by rw [upd_same]; exact r)
        · rw [upd_same] at r; exact .inr ⟨x, by rw [upd_same]; exact r⟩
      · have r' : Rd F a u := by
          rcases r with r | ⟨x, r⟩
          · rw [upd_ne z] at r; exact .inl r
          · rw [upd_ne z] at r; exact .inr ⟨x, r⟩
        rcases w.sub.rd _ _ pl r' with q | ⟨x, q⟩
        · exact .inl (by rw [upd_ne z]; exact q)
        · exact .inr ⟨x, by rw [upd_ne z]; exact q⟩
    · by_cases z : a = p
      · subst z; rw [upd_same]; exact fun y => nomatch y
      · rw [upd_ne z] at n ⊢; exact w.sub.dom _ n
    · by_cases z : a = p
      · subst z; rw [upd_same] at r ⊢; exact r
      · rw [upd_ne z] at r ⊢; exact w.sub.tp _ _ r
  new := fun a q => by
    by_cases z : a = p
    · subst z; exact .inr (.inl h)
    · rw [upd_ne z] at q; exact .inl q
  pl := fun a q n => by
    by_cases z : a = p
    · subst z; exact ⟨o, upd_same, po⟩
    · rw [upd_ne z] at q; exact absurd n q
theorem sub_freeze {p : Addr} {u : HO} (s : Sub F H) (h : H p = some u) : Sub (upd F p u) H := by
  refine ⟨fun a x pl r => ?_, fun a n => ?_, fun a vs r => ?_⟩
  · by_cases z : a = p
    · subst z
      rcases r with r | ⟨o, r⟩
      · rw [upd_same] at r; exact .inl (h.trans r)
      · rw [upd_same] at r; exact .inr ⟨o, h.trans r⟩
    · refine s.rd _ _ pl ?_
      rcases r with r | ⟨o, r⟩
      · rw [upd_ne z] at r; exact .inl r
      · rw [upd_ne z] at r; exact .inr ⟨o, r⟩
  · by_cases z : a = p
    · subst z; rw [h]; exact fun y => nomatch y
    · rw [upd_ne z] at n; exact s.dom _ n
  · by_cases z : a = p
    · subst z; rw [upd_same] at r; exact h.trans r
    · rw [upd_ne z] at r; exact s.tp _ _ r
theorem Wl.freeze {p : Addr} {u : HO} (w : Wl K e σ H F env) (h : H p = some u) (n : F p = none) (m : e.H₀ p = none ∨ e.P p) (pu : NoLk u)
    (no : ∀ (i : Nat) (c : Cell), env[i]? = some c → c.mine = true → σ[i]? ≠ some (some (.ref p))) : Wl K e σ H (upd F p u) env where
  len := w.len
  sub := sub_freeze w.sub h
  cell := fun i c x hc hx => by
    have q := w.cell i c x hc hx
    cases c with
    | emp => trivial
    | frz d => obtain ⟨v, e1, r⟩ := q; exact ⟨v, e1, r.mono (upd_sub n)⟩
    | own b d =>
      obtain ⟨a, u', e1, h1, n1, k1⟩ := q
      have ne : a ≠ p := fun z => no i _ hc rfl (by rw [hx, e1, z])
      exact ⟨a, u', e1, h1, by rw [upd_ne ne]; exact n1, k1.mono (upd_sub n)⟩
    | lck d =>
      obtain ⟨a, u', e1, h1, n1, k1⟩ := q
      have ne : a ≠ p := fun z => no i _ hc rfl (by rw [hx, e1, z])
      exact ⟨a, u', e1, h1, by rw [upd_ne ne]; exact n1, k1.mono (upd_sub n)⟩
    | exc x => exact q.elim
  apart := w.apart
  keep := w.keep
  new := fun a q => by
    by_cases z : a = p
    · subst z
      rcases m with m | m
      · exact .inr (.inl (.inl m))
      · exact .inr (.inr m)
    · rw [upd_ne z] at q; exact w.new a q
  mine := w.mine
  pin := w.pin
  lk := w.lk
  lk2 := w.lk2
  pl := fun a q n => by
    by_cases z : a = p
    · subst z; exact ⟨u, h, pu⟩
    · rw [upd_ne z] at q; exact w.pl a q n
end

def Cell.val : Cell → Option PyData
  | .frz d => some d
  | .own _ d => some d
  | _ => none
theorem RC.freeze {K : PySem.W.Frag} {e : Ent} {σ : St} {H F : Hp} {env : Cs} {v : V} {c : Cell} (w : Wl K e σ H F env) (h : RC K e σ H F env v c) :
    ∃ F' d, c.val = some d ∧ Wl K e σ H F' env ∧ Sub F F' ∧ RD K F' v d := by
  cases c with
  | frz d => exact ⟨F, d, rfl, w, .refl _, h⟩
  | own b d =>
    obtain ⟨p, u, rfl, h1, n1, k1, m, no⟩ := h
    exact ⟨upd F p u, d, rfl, w.freeze h1 n1 m k1.nlk no, upd_sub n1, k1.rd (upd_sub n1) (.inl upd_same)⟩
  | emp => exact h.elim
  | lck d => exact h.elim
  | exc x => exact h.elim

inductive Opd where
  | nm (i : Nat)
  | ex (c : CE)
inductive Lt where
  | now (d : PyData)
  | late (i : Nat)
def Cell.read : Cell → Option PyData
  | .frz d => some d
  | .own _ d => some d
  | .lck d => some d
  | _ => none
def Opd.ev : Opd → Cs → Res Lt
  | .nm i, env => match (env.getD i .emp).read with
    | some _ => .ok (.late i) env
    | none => .no
  | .ex c, env => (c env).bind fun c env1 => match c.val with
    | some d => .ok (.now d) env1
    | none => .no
def Lt.get (env : Cs) : Lt → Option PyData
  | .now d => some d
  | .late i => (env.getD i .emp).read
def LtR (K : PySem.W.Frag) (F : Hp) (σ : St) (v : V) : Lt → Prop
  | .now d => RD K F v d
  | .late i => σ[i]? = some (some v)
theorem LtR.mono {K : PySem.W.Frag} {F F' : Hp} {σ : St} {v : V} {l : Lt} (s : Sub F F') (h : LtR K F σ v l) : LtR K F' σ v l := by
  cases l with
  | now d => exact RD.mono s h
  | late i => exact h
inductive RB (K : PySem.W.Frag) (H F : Hp) : V → PyData → Prop
  | fz {v : V} {d : PyData} : RD K F v d → RB K H F v d
  | own {a : Addr} {u : HO} {d : PyData} : H a = some u → F a = none → Cont K F u d → RB K H F (.ref a) d
theorem RB.of {K : PySem.W.Frag} {e : Ent} {σ : St} {H F : Hp} {env : Cs} {v : V} {l : Lt} {d : PyData} (w : Wl K e σ H F env) (h : LtR K F σ v l) (g : l.get env = some d) : RB K H F v d := by
  cases l with
  | now d' => cases g; exact .fz h
  | late i =>
    have g' : (env.getD i .emp).read = some d := g
    have h' : σ[i]? = some (some v) := h
    cases q : env[i]? with
    | none => rw [List.getD_eq_getElem?_getD, q] at g'; cases g'
    | some c =>
      rw [List.getD_eq_getElem?_getD, q] at g'
      have r := w.cell i c _ q h'
      cases c with
      | emp => cases g'
      | frz d' => cases g'; obtain ⟨v', e1, r⟩ := r; cases e1; exact .fz r
      | own b d' => cases g'; obtain ⟨a, u, e1, h1, n1, k1⟩ := r; cases e1; exact .own h1 n1 k1
      | lck d' => cases g'; obtain ⟨a, u, e1, h1, n1, k1⟩ := r; cases e1; exact .own h1 n1 k1
      | exc x => exact r.elim
theorem RB.rd {K : PySem.W.Frag} {H F : Hp} {v : V} {d : PyData} (s : Sub F H) (h : RB K H F v d) : RD K H v d := by
  cases h with
  | fz r => exact r.mono s
  | own h1 n1 k1 => exact k1.rd s (.inl h1)
theorem RB.lst {K : PySem.W.Frag} {H F : Hp} {v : V} {ds : List PyData} (s : Sub F H) (h : RB K H F v (.list ds)) : ∃ a vs, v = .ref a ∧ Rd H a (.lst vs) ∧ RDs K F vs ds := by
  cases h with
  | fz r => cases r with | lst h r => exact ⟨_, _, rfl, s.rd _ _ trivial h, r⟩
  | own h1 n1 k1 => cases k1 with | lst r => exact ⟨_, _, rfl, .inl h1, r⟩
theorem RB.tup {K : PySem.W.Frag} {H F : Hp} {v : V} {ds : List PyData} (s : Sub F H) (h : RB K H F v (.tuple ds)) : ∃ a vs, v = .ref a ∧ SqT K H a vs ∧ RDs K F vs ds := by
  cases h with
  | fz r => cases r with | tup h r => exact ⟨_, _, rfl, .inl (.inl (s.tp _ _ h)), r⟩
  | own h1 n1 k1 => cases k1
theorem RB.int {K : PySem.W.Frag} {H F : Hp} {v : V} {i : Int} (h : RB K H F v (.int i)) : v = .int i := by
  cases h with
  | fz r => cases r; rfl
  | own h1 n1 k1 => cases k1
theorem RB.bool {K : PySem.W.Frag} {H F : Hp} {v : V} {i : Bool} (h : RB K H F v (.bool i)) : v = .bl i := by
  cases h with
  | fz r => cases r; rfl
  | own h1 n1 k1 => cases k1
theorem RB.str {K : PySem.W.Frag} {H F : Hp} {v : V} {i : Str} (h : RB K H F v (.str i)) : v = .str i := by
  cases h with
  | fz r => cases r; rfl
  | own h1 n1 k1 => cases k1
theorem RB.none {K : PySem.W.Frag} {H F : Hp} {v : V} (h : RB K H F v .none) : v = .non := by
  cases h with
  | fz r => cases r; rfl
  | own h1 n1 k1 => cases k1

def DO (X : Cx) (xp : XP) (W : WX) (ex : Expr) : Opd → TE → Prop
  | .nm i, t => PE X ex t ∧ t = tVar i
  | .ex c, t => PE X ex t ∧ ∀ e σ H F env Q, Wl X.K e σ H F env → Post X.K xp W e σ F Q (c env) → t σ H Q
theorem DO.pe {X : Cx} {xp : XP} {W : WX} {ex : Expr} {o : Opd} {t : TE} (h : DO X xp W ex o t) : PE X ex t := by
  cases o <;> exact h.1
theorem Wl.read {K : PySem.W.Frag} {e : Ent} {σ : St} {H F : Hp} {env : Cs} {i : Nat} {d : PyData} (w : Wl K e σ H F env) (g : (env.getD i .emp).read = some d) : ∃ v, σ[i]? = some (some v) := by
  cases q : env[i]? with
  | none => rw [List.getD_eq_getElem?_getD, q] at g; cases g
  | some c =>
    rw [List.getD_eq_getElem?_getD, q] at g
    have hl : i < σ.length := by
      rw [w.len]; exact (List.getElem?_eq_some_iff.mp q).1
    have hs : σ[i]? = some σ[i] := List.getElem?_eq_getElem hl
    have r := w.cell i c _ q hs
    cases c with
    | emp => cases g
    | frz d' => obtain ⟨v', e1, r⟩ := r; exact ⟨v', by rw [hs, e1]⟩
    | own b d' => obtain ⟨a, u, e1, _⟩ := r; exact ⟨_, by rw [hs, e1]⟩
    | lck d' => obtain ⟨a, u, e1, _⟩ := r; exact ⟨_, by rw [hs, e1]⟩
    | exc x => exact r.elim
theorem DO.run {X : Cx} {xp : XP} {W : WX} {ex : Expr} {o : Opd} {t : TE} (h : DO X xp W ex o t) {e : Ent} {σ : St} {H F : Hp} {env : Cs} {Q : VK}
    (w : Wl X.K e σ H F env)
    (hx : ∀ x env1 H' F' cls d, o.ev env = .ex x env1 → Wl X.K e σ H' F' env1 → Sub F F' → xp x cls d H' → W cls d σ H')
    (hn : o.ev env ≠ .no)
    (hq : ∀ l env1 v H1 F1, o.ev env = .ok l env1 → Wl X.K e σ H1 F1 env1 → Sub F F1 → LtR X.K F1 σ v l → Q v H1) : t σ H Q := by
  cases o with
  | nm i =>
    cases g : (env.getD i .emp).read with
    | none => exact (hn (by show (match (env.getD i .emp).read with | some _ => Res.ok (Lt.late i) env | none => Res.no) = _; rw [g])).elim
    | some d =>
      obtain ⟨v, hv⟩ := w.read g
      rw [h.2]
      exact ⟨v, hv, hq (.late i) env v H F (by show (match (env.getD i .emp).read with | some _ => Res.ok (Lt.late i) env | none => Res.no) = _; rw [g]) w (.refl _) hv⟩
  | ex c =>
    refine h.2 e σ H F env Q w ?_
    cases q : c env with
    | ok c1 env1 =>
      intro v H' F' w' s r
      obtain ⟨F2, d, e1, w2, s2, r2⟩ := r.freeze w'
      refine hq (.now d) env1 v H' F2 ?_ w2 (s.trans s2) r2
      show (c env).bind _ = _
      rw [q]
      show (match c1.val with | some d => Res.ok (Lt.now d) env1 | none => Res.no) = _
      rw [e1]
    | ex x env1 =>
      intro H' F' cls d w' s r
      exact hx x env1 H' F' cls d (by show (c env).bind _ = _; rw [q]; rfl) w' s r
    | no => exact (hn (by show (c env).bind _ = _; rw [q]; rfl)).elim

inductive OR where
  | val (c : Cell)
  | no
def RN (K : PySem.W.Frag) (H H' F' : Hp) (v : V) : Cell → Prop
  | .frz d => RD K F' v d
  | .own _ d => ∃ p u, v = .ref p ∧ H p = none ∧ H' p = some u ∧ F' p = none ∧ Cont K F' u d
  | _ => False
def OPost (K : PySem.W.Frag) (H F : Hp) (Q : VK) : OR → Prop
  | .val c => ∀ v H' F', Grow H F H' F' → RN K H H' F' v c → Q v H'
  | .no => False
def OR.fin (env : Cs) : OR → Res Cell
  | .val c => .ok c env
  | .no => .no
theorem RN.rc {K : PySem.W.Frag} {e : Ent} {σ : St} {H F H' F' : Hp} {env : Cs} {v : V} {c : Cell} (w : Wl K e σ H F env) (g : Grow H F H' F') (h : RN K H H' F' v c) : RC K e σ H' F' env v c := by
  cases c with
  | frz d => exact h
  | own b d =>
    obtain ⟨p, u, rfl, h0, h1, n1, k1⟩ := h
    refine ⟨p, u, rfl, h1, n1, k1, ?_, fun i c hc hm z => ?_⟩
    · by_cases q : e.P p
      · exact .inr q
      · refine .inl ?_
        cases z : e.H₀ p with
        | none => rfl
        | some o => rw [w.keep p o z q] at h0; cases h0
    · have r := w.cell i c _ hc z
      cases c with
      | own b d => obtain ⟨a, u, e1, h2, _⟩ := r; cases e1; rw [h2] at h0; cases h0
      | lck d => obtain ⟨a, u, e1, h2, _⟩ := r; cases e1; rw [h2] at h0; cases h0
      | emp => cases hm
      | frz d => cases hm
      | exc x => cases hm
  | emp => exact h.elim
  | lck d => exact h.elim
  | exc x => exact h.elim
theorem OPost.of {K : PySem.W.Frag} {xp : XP} {W : WX} {e : Ent} {σ : St} {H F F0 : Hp} {env : Cs} {Q : VK} {r : OR} (w : Wl K e σ H F env) (s : Sub F0 F) (h : Post K xp W e σ F0 Q (r.fin env)) : OPost K H F Q r := by
  cases r with
  | val c => exact fun v H' F' g q => h v H' F' (w.grow g) (s.trans g.fz) (q.rc w g)
  | no => exact h

abbrev Op2 := PyData → PyData → OR
def Op2Ok (K : PySem.W.Frag) (r : R2) (k : Op2) : Prop := ∀ x y dx dy H F Q, Sub F H → RB K H F x dx → RB K H F y dy → OPost K H F Q (k dx dy) → r x y H Q
def cOp2 (k : Op2) (a b : Opd) : CE := fun env => (a.ev env).bind fun la env1 => (b.ev env1).bind fun lb env2 =>
  match la.get env2, lb.get env2 with
  | some x, some y => (k x y).fin env2
  | _, _ => .no
theorem tOp_run {X : Cx} {xp : XP} {W : WX} {a b : Expr} {oa ob : Opd} {ta tb : TE} {r : R2} {k : Op2} (ha : DO X xp W a oa ta) (hb : DO X xp W b ob tb) (hr : Op2Ok X.K r k)
    {e : Ent} {σ : St} {H F : Hp} {env : Cs} {Q : VK} (w : Wl X.K e σ H F env) (h : Post X.K xp W e σ F Q (cOp2 k oa ob env)) : tOp r ta tb σ H Q := by
  refine ha.run w (fun x env1 H' F' cls d q w' s y => ?_) (fun q => ?_) fun la env1 v H1 F1 q w1 s1 l1 => hb.run w1 (fun x env2 H' F' cls d q2 w' s y => ?_) (fun q2 => ?_) fun lb env2 u H2 F2 q2 w2 s2 l2 => ?_
  · unfold cOp2 at h; rw [q] at h; exact h H' F' cls d w' s y
  · unfold cOp2 at h; rw [q] at h; exact h
  · unfold cOp2 at h; rw [q] at h; simp only [Res.bind] at h; rw [q2] at h; exact h H' F' cls d w' (s1.trans s) y
  · unfold cOp2 at h; rw [q] at h; simp only [Res.bind] at h; rw [q2] at h; exact h
  · unfold cOp2 at h; rw [q] at h; simp only [Res.bind] at h; rw [q2] at h; simp only at h
    cases g1 : la.get env2 with
    | none => rw [g1] at h; exact h.elim
    | some x =>
      cases g2 : lb.get env2 with
      | none => rw [g1, g2] at h; exact h.elim
      | some y =>
        rw [g1, g2] at h
        exact hr v u x y H2 F2 Q w2.sub (.of w2 (l1.mono s2) g1) (.of w2 l2 g2) (.of w2 (s1.trans s2) h)
theorem de_bin {X : Cx} {xp : XP} {W : WX} {a b : Expr} {oa ob : Opd} {ta tb : TE} {op : Operator} {pos : Pos} {r : R2} {k : Op2} (ho : OpR X (binaryOp op) r) (hr : Op2Ok X.K r k) (ha : DO X xp W a oa ta) (hb : DO X xp W b ob tb) :
    DE X xp W (.BinOp a op b pos) (cOp2 k oa ob) (tOp r ta tb) := ⟨pe_op ho ha.pe hb.pe, fun _ _ _ _ _ _ w h => tOp_run ha hb hr w h⟩
theorem de_cmp {X : Cx} {xp : XP} {W : WX} {a b : Expr} {oa ob : Opd} {ta tb : TE} {op : CmpOp} {pos : Pos} {r : R2} {k : Op2} (ho : OpR X (compareOp op) r) (hr : Op2Ok X.K r k) (hm : behindInMarks op b = false) (ha : DO X xp W a oa ta) (hb : DO X xp W b ob tb) :
    DE X xp W (.Compare a [op] [b] pos) (cOp2 k oa ob) (tOp r ta tb) := ⟨pe_cmpR ho ha.pe hb.pe hm, fun _ _ _ _ _ _ w h => tOp_run ha hb hr w h⟩
theorem de_ix {X : Cx} {xp : XP} {W : WX} {a b : Expr} {oa ob : Opd} {ta tb : TE} {pos : Pos} {r : R2} {k : Op2} (ho : IxR X r) (hr : Op2Ok X.K r k) (hs : PlainIx b) (ha : DO X xp W a oa ta) (hb : DO X xp W b ob tb) :
    DE X xp W (.Subscript a b pos) (cOp2 k oa ob) (tOp r ta tb) := ⟨pe_ix ho ha.pe hb.pe hs, fun _ _ _ _ _ _ w h => tOp_run ha hb hr w h⟩

def toT (c : CE) : CT := fun env => (c env).bind fun c env' => match c with
  | .frz (.bool b) => .ok b env'
  | _ => .no
theorem toT_run {K : PySem.W.Frag} {xp : XP} {W : WX} {e : Ent} {σ : St} {F : Hp} {Q : Bool → Hp → Prop} {r : Res Cell}
    (h : PostT K xp W e σ F Q (r.bind fun c env' => match c with | .frz (.bool b) => .ok b env' | _ => .no)) : Post K xp W e σ F (fun x H' => ∃ k, x = .bl k ∧ Q k H') r := by
  cases r with
  | no => exact h
  | ex x env => exact h
  | ok c env =>
    intro v H' F' w s r
    cases c with
    | frz d =>
      cases d with
      | bool b => cases r; exact ⟨b, rfl, h H' F' w s⟩
      | none => exact h.elim
      | int i => exact h.elim
      | str x => exact h.elim
      | list x => exact h.elim
      | tuple x => exact h.elim
      | dict x => exact h.elim
    | own b d => exact h.elim
    | emp => exact h.elim
    | lck d => exact h.elim
    | exc x => exact h.elim
theorem dt_cmp {X : Cx} {xp : XP} {W : WX} {a b : Expr} {oa ob : Opd} {ta tb : TE} {op : CmpOp} {pos : Pos} {r : R2} {k : Op2} (ho : OpR X (compareOp op) r) (hr : Op2Ok X.K r k) (hm : behindInMarks op b = false) (ha : DO X xp W a oa ta) (hb : DO X xp W b ob tb) :
    DT X xp W (.Compare a [op] [b] pos) (toT (cOp2 k oa ob)) (tTest (tOp r ta tb)) := ⟨pt_cmpR ho ha.pe hb.pe hm, fun _ _ _ _ _ _ w h => tOp_run ha hb hr w (toT_run h)⟩
theorem dt_val {X : Cx} {xp : XP} {W : WX} {a : Expr} {c : CE} {t : TE} (h : DE X xp W a c t) (he : ∀ whole, isTrue a X.env whole = (do let v ← whole; standAt a.pos; holding [v] (truthy v)) := by intro _; rfl) : DT X xp W a (toT c) (tB t) := by
  obtain ⟨p, q⟩ := h
  exact ⟨pt_val p he, fun _ _ _ _ _ _ w h => q _ _ _ _ _ _ w (toT_run h)⟩
def cNotT (c : CT) : CT := fun env => (c env).bind fun b env' => .ok (!b) env'
theorem dt_not {X : Cx} {xp : XP} {W : WX} {a : Expr} {c : CT} {t : TT} {pos : Pos} (h : DT X xp W a c t) : DT X xp W (.UnaryOp .Not a pos) (cNotT c) (tNot t) := by
  obtain ⟨p, q⟩ := h
  refine ⟨pt_not p, fun e σ H F env Q w h => q e σ H F env _ w ?_⟩
  unfold cNotT at h
  cases g : c env with
  | no => rw [g] at h; exact h
  | ex x env => rw [g] at h; exact h
  | ok b env => rw [g] at h; exact fun H' F' w s => h H' F' w s
end DL

namespace DL
open PySem L2

section
variable {K : PySem.W.Frag} {e : Ent} {σ : St} {H F : Hp} {env : Cs}
theorem getD_of {i : Nat} {c : Cell} (h : env[i]? = some c) : env.getD i .emp = c := by rw [List.getD_eq_getElem?_getD, h]; rfl
theorem of_getD {i : Nat} {c : Cell} (h : env.getD i .emp = c) (n : c ≠ .emp) : env[i]? = some c := by
  rw [List.getD_eq_getElem?_getD] at h
  cases q : env[i]? with
  | none => rw [q] at h; exact (n h.symm).elim
  | some c' => rw [q] at h; cases h; rfl
theorem Wl.slot (w : Wl K e σ H F env) {i : Nat} {c : Cell} (h : env[i]? = some c) : ∃ x, σ[i]? = some x := by
  have hl : i < σ.length := by rw [w.len]; exact (List.getElem?_eq_some_iff.mp h).1
  exact ⟨_, List.getElem?_eq_getElem hl⟩
theorem Wl.lkn (w : Wl K e σ H F env) {i : Nat} (h : ∀ d, env[i]? ≠ some (.lck d)) : e.lk i = none := by
  cases q : e.lk i with
  | none => rfl
  | some d => exact (h d (w.lk i d q)).elim
theorem Wl.turn (w : Wl K e σ H F env) {i : Nat} {c : Cell} (hm : c.mine = false) (hc : ∀ x, σ[i]? = some x → CellR K H F x c) (hp : ∀ d, c ≠ .lck d) (hk : e.lk i = none) : Wl K e σ H F (env.set i c) where
  len := by rw [List.length_set]; exact w.len
  sub := w.sub
  cell := fun j c' x h hx => by
    by_cases z : i = j
    · subst z
      have hl : i < env.length := by rw [← w.len]; exact (List.getElem?_eq_some_iff.mp hx).1
      rw [List.getElem?_set_self hl] at h; cases h; exact hc x hx
    · rw [List.getElem?_set_ne z] at h; exact w.cell j c' x h hx
  apart := fun j k c1 c2 a n h1 h2 m1 m2 x1 x2 => by
    by_cases z : i = j
    · subst z
      have hl : i < env.length := by rw [← w.len]; exact (List.getElem?_eq_some_iff.mp x1).1
      rw [List.getElem?_set_self hl] at h1; cases h1; rw [hm] at m1; cases m1
    · by_cases y : i = k
      · subst y
        have hl : i < env.length := by rw [← w.len]; exact (List.getElem?_eq_some_iff.mp x2).1
        rw [List.getElem?_set_self hl] at h2; cases h2; rw [hm] at m2; cases m2
      · rw [List.getElem?_set_ne z] at h1; rw [List.getElem?_set_ne y] at h2
        exact w.apart j k c1 c2 a n h1 h2 m1 m2 x1 x2
  keep := w.keep
  new := w.new
  pl := w.pl
  mine := fun j b d a h hx => by
    by_cases z : i = j
    · subst z
      have hl : i < env.length := by rw [← w.len]; exact (List.getElem?_eq_some_iff.mp hx).1
      rw [List.getElem?_set_self hl] at h; cases h; cases hm
    · rw [List.getElem?_set_ne z] at h; exact w.mine j b d a h hx
  pin := fun j c' h hc' => by
    by_cases z : i = j
    · subst z
      by_cases hl : i < env.length
      · rw [List.getElem?_set_self hl] at h; cases h
        rcases hc' with ⟨d, rfl⟩ | ⟨d, rfl⟩
        · cases hm
        · exact (hp d rfl).elim
      · rw [List.getElem?_eq_none (by simpa using hl)] at h; cases h
    · rw [List.getElem?_set_ne z] at h; exact w.pin j c' h hc'
  lk := fun j d h => by
    have q := w.lk j d h
    by_cases z : i = j
    · subst z; rw [hk] at h; cases h
    · rw [List.getElem?_set_ne z]; exact q
  lk2 := fun j d h => by
    by_cases z : i = j
    · subst z
      have hl : i < env.length := by simpa using (List.getElem?_eq_some_iff.mp h).1
      rw [List.getElem?_set_self hl] at h; cases h; exact (hp d rfl).elim
    · rw [List.getElem?_set_ne z] at h; exact w.lk2 j d h
theorem Wl.giveF (w : Wl K e σ H F env) {i : Nat} {b : Bool} {d : PyData} (h : env[i]? = some (.own b d)) :
    ∃ F' a u, σ[i]? = some (some (.ref a)) ∧ F' = upd F a u ∧ H a = some u ∧ F a = none ∧ Cont K F u d ∧ Wl K e σ H F' (env.set i (.frz d)) ∧ Sub F F' := by
  obtain ⟨x, hx⟩ := w.slot h
  obtain ⟨a, u, rfl, h1, n1, k1⟩ := w.cell i _ _ h hx
  have m := w.mine i b d a h hx
  have w1 : Wl K e σ H F (env.set i .emp) := w.turn rfl (fun _ _ => trivial) (fun _ z => nomatch z) (w.lkn fun _ z => by rw [h] at z; cases z)
  have w2 : Wl K e σ H (upd F a u) (env.set i .emp) := w1.freeze h1 n1 m k1.nlk (fun j c hc hm z => by
    by_cases y : i = j
    · subst y
      have hl : i < env.length := (List.getElem?_eq_some_iff.mp h).1
      rw [List.getElem?_set_self hl] at hc; cases hc; cases hm
    · rw [List.getElem?_set_ne y] at hc
      exact w.apart i j _ c a y h hc rfl hm hx z)
  have w3 : Wl K e σ H (upd F a u) ((env.set i .emp).set i (.frz d)) := w2.turn rfl (fun x hx' => by
    rw [hx] at hx'; cases hx'
    exact ⟨_, rfl, k1.rd (upd_sub n1) (.inl upd_same)⟩) (fun _ z => nomatch z) (w.lkn fun _ z => by rw [h] at z; cases z)
  rw [List.set_set] at w3
  exact ⟨_, a, u, hx, rfl, h1, n1, k1, w3, upd_sub n1⟩
theorem Wl.give (w : Wl K e σ H F env) {i : Nat} {b : Bool} {d : PyData} (h : env[i]? = some (.own b d)) :
    ∃ F' v, σ[i]? = some (some v) ∧ Wl K e σ H F' (env.set i (.frz d)) ∧ Sub F F' ∧ RD K F' v d := by
  obtain ⟨F', a, u, hx, rfl, h1, n1, k1, w3, s⟩ := w.giveF h
  exact ⟨_, _, hx, w3, s, k1.rd s (.inl upd_same)⟩
end

def cVar (i : Nat) : CE := fun env => match env.getD i .emp with
  | .frz d => .ok (.frz d) env
  | .own false d => .ok (.frz d) (env.set i (.frz d))
  | _ => .no
def cK (d : PyData) : CE := fun env => .ok (.frz d) env
section
variable {X : Cx} {xp : XP} {W : WX}
theorem de_var {ex : Expr} {i : Nat} (h : PE X ex (tVar i)) : DE X xp W ex (cVar i) (tVar i) := by
  refine ⟨h, fun e σ H F env Q w p => ?_⟩
  unfold cVar at p
  cases g : env.getD i .emp with
  | emp => rw [g] at p; exact p.elim
  | lck d => rw [g] at p; exact p.elim
  | exc x => rw [g] at p; exact p.elim
  | frz d =>
    rw [g] at p
    have hc := of_getD g (fun z => nomatch z)
    obtain ⟨x, hx⟩ := w.slot hc
    obtain ⟨v, rfl, r⟩ := w.cell i _ _ hc hx
    exact ⟨v, hx, p v H F w (.refl _) r⟩
  | own b d =>
    rw [g] at p
    cases b with
    | true => exact p.elim
    | false =>
      obtain ⟨F', v, hx, w', s, r⟩ := w.give (of_getD g (fun z => nomatch z))
      exact ⟨v, hx, p v H F' w' s r⟩
theorem do_nm {ex : Expr} {i : Nat} (h : PE X ex (tVar i)) : DO X xp W ex (.nm i) (tVar i) := ⟨h, rfl⟩
theorem de_k {ex : Expr} {v : V} {d : PyData} (h : PE X ex (tC v)) (r : ∀ F, RD X.K F v d) : DE X xp W ex (cK d) (tC v) :=
  ⟨h, fun e σ H F env Q w p => p v H F w (.refl _) (r F)⟩
theorem de_int {i : Int} {j : Nat} {pos : Pos} : DE X xp W (.Constant (.int i) j pos) (cK (.int i)) (tC (.int i)) := de_k pe_int fun _ => .int i
theorem de_str {x : Str} {j : Nat} {pos : Pos} : DE X xp W (.Constant (.str x) j pos) (cK (.str x)) (tC (.str x)) := de_k pe_str fun _ => .str x
theorem de_bool {b : Bool} {j : Nat} {pos : Pos} : DE X xp W (.Constant (.bool b) j pos) (cK (.bool b)) (tC (.bl b)) := de_k pe_bl fun _ => .bl b
theorem de_none {j : Nat} {pos : Pos} : DE X xp W (.Constant .none j pos) (cK .none) (tC .non) := de_k pe_non fun _ => .non
theorem DE.opd {ex : Expr} {c : CE} {t : TE} (h : DE X xp W ex c t) : DO X xp W ex (.ex c) t := h

def cAndT (c d : CT) : CT := fun env => (c env).bind fun b env' => match b with | true => d env' | false => .ok false env'
def cOrT (c d : CT) : CT := fun env => (c env).bind fun b env' => match b with | true => .ok true env' | false => d env'
def DW (X : Cx) (xp : XP) (W : WX) (ex : Expr) (c : CT) (t : TT) : Prop :=
  PW X ex t ∧ ∀ e σ H F env Q, Wl X.K e σ H F env → PostT X.K xp W e σ F Q (c env) → t σ H Q
theorem DW.dt {ex : Expr} {c : CT} {t : TT} (h : DW X xp W ex c t) : DT X xp W ex c t := ⟨h.1.pt, h.2⟩
theorem PostT.subs {K : PySem.W.Frag} {e : Ent} {σ : St} {F F1 : Hp} {Q : Bool → Hp → Prop} {r : Res Bool} (s : Sub F F1) (h : PostT K xp W e σ F Q r) : PostT K xp W e σ F1 Q r := by
  cases r with
  | no => exact h
  | ex x env => exact fun H' F' cls d w s' => h H' F' cls d w (s.trans s')
  | ok b env => exact fun H' F' w s' => h H' F' w (s.trans s')
theorem Post.subs {K : PySem.W.Frag} {e : Ent} {σ : St} {F F1 : Hp} {Q : VK} {r : Res Cell} (s : Sub F F1) (h : Post K xp W e σ F Q r) : Post K xp W e σ F1 Q r := by
  cases r with
  | no => exact h
  | ex x env => exact fun H' F' cls d w s' => h H' F' cls d w (s.trans s')
  | ok b env => exact fun v H' F' w s' => h v H' F' w (s.trans s')
theorem dw_and1 {a : Expr} {c : CT} {t : TT} {pos : Pos} (h : DT X xp W a c t) : DW X xp W (.BoolOp .And [a] pos) c t := ⟨pw_and1 h.1, h.2⟩
theorem dw_or1 {a : Expr} {c : CT} {t : TT} {pos : Pos} (h : DT X xp W a c t) : DW X xp W (.BoolOp .Or [a] pos) c t := ⟨pw_or1 h.1, h.2⟩
theorem dw_and {a b : Expr} {rest : List Expr} {c d : CT} {t u : TT} {pos : Pos} (ha : DT X xp W a c t) (hb : DW X xp W (.BoolOp .And (b :: rest) pos) d u) : DW X xp W (.BoolOp .And (a :: b :: rest) pos) (cAndT c d) (tAnd t u) := by
  obtain ⟨p, q⟩ := ha
  obtain ⟨p2, q2⟩ := hb
  refine ⟨pw_and p p2, fun e σ H F env Q w h => q e σ H F env _ w ?_⟩
  unfold cAndT at h
  cases g : c env with
  | no => rw [g] at h; exact h
  | ex x env => rw [g] at h; exact h
  | ok b env1 =>
    rw [g] at h
    intro H' F' w' s
    cases b with
    | true => exact q2 e σ H' F' env1 Q w' (PostT.subs s h)
    | false => exact h H' F' w' s
theorem dw_or {a b : Expr} {rest : List Expr} {c d : CT} {t u : TT} {pos : Pos} (ha : DT X xp W a c t) (hb : DW X xp W (.BoolOp .Or (b :: rest) pos) d u) : DW X xp W (.BoolOp .Or (a :: b :: rest) pos) (cOrT c d) (tOr t u) := by
  obtain ⟨p, q⟩ := ha
  obtain ⟨p2, q2⟩ := hb
  refine ⟨pw_or p p2, fun e σ H F env Q w h => q e σ H F env _ w ?_⟩
  unfold cOrT at h
  cases g : c env with
  | no => rw [g] at h; exact h
  | ex x env => rw [g] at h; exact h
  | ok b env1 =>
    rw [g] at h
    intro H' F' w' s
    cases b with
    | false => exact q2 e σ H' F' env1 Q w' (PostT.subs s h)
    | true => exact h H' F' w' s
def cAnd (c d : CE) : CE := fun env => (toT c env).bind fun b env' => match b with | true => d env' | false => .ok (.frz (.bool false)) env'
def cOr (c d : CE) : CE := fun env => (toT c env).bind fun b env' => match b with | true => .ok (.frz (.bool true)) env' | false => d env'
def cNot (c : CE) : CE := fun env => (toT c env).bind fun b env' => .ok (.frz (.bool !b)) env'
theorem toT_k {K : PySem.W.Frag} {e : Ent} {σ : St} {F : Hp} {Q : VK} {Q' : Bool → Hp → Prop} {c : CE} {env : Cs} {k : Bool → Cs → Res Cell}
    (h : Post K xp W e σ F Q ((toT c env).bind k)) (hk : ∀ b env1, Post K xp W e σ F Q (k b env1) → PostT K xp W e σ F Q' (.ok b env1)) :
    Post K xp W e σ F (fun x H' => ∃ b, x = .bl b ∧ Q' b H') (c env) := by
  refine toT_run (Q := Q') ?_
  change PostT K xp W e σ F Q' (toT c env)
  cases g : toT c env with
  | no => rw [g] at h; exact h
  | ex x env1 => rw [g] at h; exact h
  | ok b env1 => rw [g] at h; exact hk b env1 h
theorem de_and {a b : Expr} {rest : List Expr} {c d : CE} {t u : TE} {pos : Pos} (ha : DE X xp W a c t) (hb : DE X xp W (.BoolOp .And (b :: rest) pos) d u) : DE X xp W (.BoolOp .And (a :: b :: rest) pos) (cAnd c d) (tAndV t u) := by
  obtain ⟨p, q⟩ := ha
  obtain ⟨p2, q2⟩ := hb
  refine ⟨pe_and p p2, fun e σ H F env Q w h => q e σ H F env _ w ?_⟩
  refine toT_k (Q' := fun b H1 => if b = true then u σ H1 Q else Q (.bl false) H1) h fun b env1 h' => ?_
  intro H' F' w' s
  cases b with
  | true => exact iteT (q2 e σ H' F' env1 Q w' (Post.subs s h'))
  | false => exact iteF (h' (.bl false) H' F' w' s (.bl false))
theorem de_and1 {a : Expr} {c : CE} {t : TE} {pos : Pos} (h : DE X xp W a c t) : DE X xp W (.BoolOp .And [a] pos) c t := ⟨pe_one h.1, h.2⟩
theorem de_not {a : Expr} {c : CE} {t : TE} {pos : Pos} (ha : DE X xp W a c t) : DE X xp W (.UnaryOp .Not a pos) (cNot c) (tNotV t) := by
  obtain ⟨p, q⟩ := ha
  refine ⟨pe_not p, fun e σ H F env Q w h => q e σ H F env _ w ?_⟩
  exact toT_k (Q' := fun b H1 => Q (.bl (!b)) H1) h fun b env1 h' H' F' w' s => h' (.bl (!b)) H' F' w' s (.bl (!b))
def cIf (c : CT) (a b : CE) : CE := fun env => (c env).bind fun t env' => match t with | true => a env' | false => b env'
def cChain (k k' : Op2) (a b c : Opd) : CE := fun env => (a.ev env).bind fun la env1 => (b.ev env1).bind fun lb env2 =>
  match la.get env2, lb.get env2 with
  | some x, some y => match k x y with
    | .val (.frz (.bool true)) => (c.ev env2).bind fun lc env3 => match lb.get env3, lc.get env3 with
      | some y, some z => (k' y z).fin env3
      | _, _ => .no
    | .val (.frz (.bool false)) => .ok (.frz (.bool false)) env2
    | _ => .no
  | _, _ => .no
theorem tChain_run {a b c : Expr} {oa ob oc : Opd} {ta tb tc : TE} {r r' : R2} {k k' : Op2} (ha : DO X xp W a oa ta) (hb : DO X xp W b ob tb) (hc : DO X xp W c oc tc) (hr : Op2Ok X.K r k) (hr' : Op2Ok X.K r' k')
    {e : Ent} {σ : St} {H F : Hp} {env : Cs} {Q : VK} (w : Wl X.K e σ H F env) (h : Post X.K xp W e σ F Q (cChain k k' oa ob oc env)) : tChain r r' ta tb tc σ H Q := by
  refine ha.run w (fun x env1 H' F' cls d q w' s y => ?_) (fun q => ?_) fun la env1 v H1 F1 q w1 s1 l1 => hb.run w1 (fun x env2 H' F' cls d q2 w' s y => ?_) (fun q2 => ?_) fun lb env2 u H2 F2 q2 w2 s2 l2 => ?_
  · unfold cChain at h; rw [q] at h; exact h H' F' cls d w' s y
  · unfold cChain at h; rw [q] at h; exact h
  · unfold cChain at h; rw [q] at h; simp only [Res.bind] at h; rw [q2] at h; exact h H' F' cls d w' (s1.trans s) y
  · unfold cChain at h; rw [q] at h; simp only [Res.bind] at h; rw [q2] at h; exact h
  · unfold cChain at h; rw [q] at h; simp only [Res.bind] at h; rw [q2] at h; simp only at h
    cases g1 : la.get env2 with
    | none => rw [g1] at h; exact h.elim
    | some x =>
      cases g2 : lb.get env2 with
      | none => rw [g1, g2] at h; exact h.elim
      | some y =>
        rw [g1, g2] at h
        dsimp only at h
        refine hr v u x y H2 F2 _ w2.sub (.of w2 (l1.mono s2) g1) (.of w2 l2 g2) ?_
        cases g3 : k x y with
        | no => rw [g3] at h; exact h.elim
        | val cc =>
          rw [g3] at h
          cases cc with
          | emp => exact h.elim
          | own b d => exact h.elim
          | lck d => exact h.elim
          | exc x => exact h.elim
          | frz d =>
            cases d with
            | none => exact h.elim
            | int i => exact h.elim
            | str x => exact h.elim
            | list x => exact h.elim
            | tuple x => exact h.elim
            | dict x => exact h.elim
            | bool b =>
              intro v3 H3 F3 g r
              cases r
              have w3 := w2.grow g
              have s13 : Sub F F3 := (s1.trans s2).trans g.fz
              cases b with
              | false => exact ⟨false, rfl, iteF (h _ H3 F3 w3 s13 (.bl false))⟩
              | true =>
                refine ⟨true, rfl, iteT ?_⟩
                refine hc.run w3 (fun x env4 H' F' cls d q4 w' s y => ?_) (fun q4 => ?_) fun lc env4 z H4 F4 q4 w4 s4 l4 => ?_
                · rw [q4] at h; exact h H' F' cls d w' (s13.trans s) y
                · rw [q4] at h; exact h
                · rw [q4] at h; simp only [Res.bind] at h
                  cases g5 : lb.get env4 with
                  | none => rw [g5] at h; exact h.elim
                  | some y' =>
                    cases g6 : lc.get env4 with
                    | none => rw [g5, g6] at h; exact h.elim
                    | some z' =>
                      rw [g5, g6] at h
                      exact hr' u z y' z' H4 F4 Q w4.sub (.of w4 ((l2.mono g.fz).mono s4) g5) (.of w4 l4 g6) (.of w4 (s13.trans s4) h)
theorem dt_chain {a b c : Expr} {oa ob oc : Opd} {ta tb tc : TE} {op op' : CmpOp} {pos : Pos} {r r' : R2} {k k' : Op2} (ho : OpR X (compareOp op) r) (ho' : OpR X (compareOp op') r') (hr : Op2Ok X.K r k) (hr' : Op2Ok X.K r' k')
    (ha : DO X xp W a oa ta) (hb : DO X xp W b ob tb) (hc : DO X xp W c oc tc) (hm : lastMarks [op, op'] [b, c] = false := by with_unfolding_all rfl) : DT X xp W (.Compare a [op, op'] [b, c] pos) (toT (cChain k k' oa ob oc)) (tTest (tChain r r' ta tb tc)) :=
  ⟨pt_chain ho ho' ha.pe hb.pe hc.pe hm, fun _ _ _ _ _ _ w h => tChain_run ha hb hc hr hr' w (toT_run h)⟩

def evs : List Opd → Cs → Res (List Lt)
  | [], env => .ok [] env
  | o :: os, env => (o.ev env).bind fun l env1 => (evs os env1).bind fun ls env2 => .ok (l :: ls) env2
inductive LtRs (K : PySem.W.Frag) (F : Hp) (σ : St) : List V → List Lt → Prop
  | nil : LtRs K F σ [] []
  | cons {v : V} {l : Lt} {vs : List V} {ls : List Lt} : LtR K F σ v l → LtRs K F σ vs ls → LtRs K F σ (v :: vs) (l :: ls)
def PostA (K : PySem.W.Frag) (xp : XP) (W : WX) (e : Ent) (σ : St) (F : Hp) (Q : List V → Hp → Prop) : Res (List Lt) → Prop
  | .ok ls env => ∀ vs H' F', Wl K e σ H' F' env → Sub F F' → LtRs K F' σ vs ls → Q vs H'
  | .ex x env => ∀ H' F' cls d, Wl K e σ H' F' env → Sub F F' → xp x cls d H' → W cls d σ H'
  | .no => False
def DA (X : Cx) (xp : XP) (W : WX) (es : List Expr) (os : List Opd) (t : TA) : Prop :=
  PA X es t ∧ ∀ e σ H F env Q, Wl X.K e σ H F env → PostA X.K xp W e σ F Q (evs os env) → t σ H Q
theorem da_nil : DA X xp W [] [] tNil := ⟨pa_nil, fun e σ H F env Q w h => h [] H F w (.refl _) .nil⟩
theorem da_cons {ex : Expr} {es : List Expr} {o : Opd} {os : List Opd} {te : TE} {t : TA} (h : DO X xp W ex o te) (hr : DA X xp W es os t) (hs : starEach (ex :: es) X.env = (false, eval ex X.env) :: starEach es X.env := by rfl) :
    DA X xp W (ex :: es) (o :: os) (tCons te t) := by
  refine ⟨pa_cons h.pe hr.1 hs, fun e σ H F env Q w p => ?_⟩
  refine h.run w (fun x env1 H' F' cls d q w' s y => ?_) (fun q => ?_) fun l env1 v H1 F1 q w1 s1 l1 => hr.2 e σ H1 F1 env1 _ w1 ?_
  · unfold evs at p; rw [q] at p; exact p H' F' cls d w' s y
  · unfold evs at p; rw [q] at p; exact p
  · unfold evs at p; rw [q] at p; simp only [Res.bind] at p
    cases g : evs os env1 with
    | no => rw [g] at p; exact p
    | ex x env2 => rw [g] at p; exact fun H' F' cls d w' s => p H' F' cls d w' (s1.trans s)
    | ok ls env2 => rw [g] at p; exact fun vs H' F' w' s r => p (v :: vs) H' F' w' (s1.trans s) (.cons (l1.mono s) r)
def gets (env : Cs) : List Lt → Option (List PyData)
  | [] => some []
  | l :: ls => match l.get env, gets env ls with
    | some d, some ds => some (d :: ds)
    | _, _ => none
inductive RBs (K : PySem.W.Frag) (H F : Hp) : List V → List PyData → Prop
  | nil : RBs K H F [] []
  | cons {v : V} {d : PyData} {vs : List V} {ds : List PyData} : RB K H F v d → RBs K H F vs ds → RBs K H F (v :: vs) (d :: ds)
theorem RBs.of {K : PySem.W.Frag} {e : Ent} {σ : St} {H F : Hp} {env : Cs} (w : Wl K e σ H F env) : ∀ {vs : List V} {ls : List Lt} {ds : List PyData}, LtRs K F σ vs ls → gets env ls = some ds → RBs K H F vs ds
  | _, _, _, .nil, g => by cases g; exact .nil
  | _, _, _, .cons (l := l) (ls := ls) a b, g => by
    unfold gets at g
    cases g1 : l.get env with
    | none => rw [g1] at g; cases g
    | some d =>
      cases g2 : gets env ls with
      | none => rw [g1, g2] at g; cases g
      | some ds' => rw [g1, g2] at g; cases g; exact .cons (.of w a g1) (RBs.of w b g2)
def nows : List Lt → Option (List PyData)
  | [] => some []
  | .now d :: ls => match nows ls with
    | some ds => some (d :: ds)
    | none => none
  | .late _ :: _ => none
theorem RDs.of_nows {K : PySem.W.Frag} {σ : St} {F : Hp} : ∀ {vs : List V} {ls : List Lt} {ds : List PyData}, LtRs K F σ vs ls → nows ls = some ds → RDs K F vs ds
  | _, _, _, .nil, g => by cases g; exact .nil
  | _, _, _, .cons (l := .now d) (ls := ls) a b, g => by
    unfold nows at g
    cases g2 : nows ls with
    | none => rw [g2] at g; cases g
    | some ds' => rw [g2] at g; cases g; exact .cons a (RDs.of_nows b g2)
  | _, _, _, .cons (l := .late i) (ls := ls) a b, g => by cases g

def cTup (os : List Opd) : CE := fun env => (evs os env).bind fun ls env1 => match nows ls with
  | some ds => .ok (.frz (.tuple ds)) env1
  | none => .no
def cLst (os : List Opd) : CE := fun env => (evs os env).bind fun ls env1 => match nows ls with
  | some ds => .ok (.own false (.list ds)) env1
  | none => .no
theorem evs_len : ∀ {os : List Opd} {env env1 : Cs} {ls : List Lt}, evs os env = .ok ls env1 → ls.length = os.length
  | [], env, env1, ls, h => by cases h; rfl
  | o :: os, env, env1, ls, h => by
    unfold evs at h
    cases g : o.ev env with
    | no => rw [g] at h; cases h
    | ex x env2 => rw [g] at h; cases h
    | ok l env2 =>
      rw [g] at h; simp only [Res.bind] at h
      cases g2 : evs os env2 with
      | no => rw [g2] at h; cases h
      | ex x env2 => rw [g2] at h; cases h
      | ok ls' env3 => rw [g2] at h; cases h; rw [List.length_cons, List.length_cons, evs_len g2]
theorem nows_len : ∀ {ls : List Lt} {ds : List PyData}, nows ls = some ds → ds.length = ls.length
  | [], ds, h => by cases h; rfl
  | .now d :: ls, ds, h => by
    unfold nows at h
    cases g : nows ls with
    | none => rw [g] at h; cases h
    | some ds' => rw [g] at h; cases h; rw [List.length_cons, List.length_cons, nows_len g]
  | .late i :: ls, ds, h => by cases h
theorem de_tup {es : List Expr} {os : List Opd} {t : TA} {k : Nat} {pos : Pos} (h : DA X xp W es os t) (hz : os.length ≤ sizeLine := by decide) : DE X xp W (.Tuple es k pos) (cTup os) (tTup t) := by
  refine ⟨pe_tup h.1, fun e σ H F env Q w p => h.2 e σ H F env _ w ?_⟩
  unfold cTup at p
  cases g : evs os env with
  | no => rw [g] at p; exact p
  | ex x env1 => rw [g] at p; exact p
  | ok ls env1 =>
    rw [g] at p; simp only [Res.bind] at p
    intro vs H' F' w' s r
    cases g2 : nows ls with
    | none => rw [g2] at p; exact p.elim
    | some ds =>
      rw [g2] at p
      have rr := RDs.of_nows r g2
      refine ⟨by rw [rr.length, nows_len g2, evs_len g]; exact hz, fun q hq => p _ _ _ (w'.grow (w'.grow_frz hq)) (s.trans (upd_sub (w'.fresh hq))) ?_⟩
      exact .tup upd_same (rr.mono (upd_sub (w'.fresh hq)))
theorem de_lst {es : List Expr} {os : List Opd} {t : TA} {pos : Pos} (h : DA X xp W es os t) (hz : os.length ≤ sizeLine := by decide) : DE X xp W (.List es pos) (cLst os) (tLst t) := by
  refine ⟨pe_lst h.1, fun e σ H F env Q w p => h.2 e σ H F env _ w ?_⟩
  unfold cLst at p
  cases g : evs os env with
  | no => rw [g] at p; exact p
  | ex x env1 => rw [g] at p; exact p
  | ok ls env1 =>
    rw [g] at p; simp only [Res.bind] at p
    intro vs H' F' w' s r
    cases g2 : nows ls with
    | none => rw [g2] at p; exact p.elim
    | some ds =>
      rw [g2] at p
      have rr := RDs.of_nows r g2
      refine ⟨by rw [rr.length, nows_len g2, evs_len g]; exact hz, fun q hq => p _ _ _ (w'.grow (w'.grow_new hq)) s ?_⟩
      exact RN.rc (c := .own false (.list ds)) w' (w'.grow_new hq) ⟨q, _, rfl, hq, upd_same, w'.fresh hq, .lst rr⟩

abbrev OpN := List PyData → OR
def OpNOk (K : PySem.W.Frag) (r : List V → Hp → VK → Prop) (k : OpN) : Prop := ∀ xs ds H F Q, Sub F H → RBs K H F xs ds → OPost K H F Q (k ds) → r xs H Q
def cOpN (k : OpN) (os : List Opd) : CE := fun env => (evs os env).bind fun ls env1 => match gets env1 ls with
  | some ds => (k ds).fin env1
  | none => .no
theorem tCB_run {es : List Expr} {os : List Opd} {t : TA} {r : List V → Hp → VK → Prop} {k : OpN} (ha : DA X xp W es os t) (hr : OpNOk X.K r k)
    {e : Ent} {σ : St} {H F : Hp} {env : Cs} {Q : VK} (w : Wl X.K e σ H F env) (p : Post X.K xp W e σ F Q (cOpN k os env)) : tCB r t σ H Q := by
  refine ha.2 e σ H F env _ w ?_
  unfold cOpN at p
  cases g : evs os env with
  | no => rw [g] at p; exact p
  | ex x env1 => rw [g] at p; exact p
  | ok ls env1 =>
    rw [g] at p; simp only [Res.bind] at p
    intro vs H' F' w' s q
    cases g2 : gets env1 ls with
    | none => rw [g2] at p; exact p.elim
    | some ds => rw [g2] at p; exact hr vs ds H' F' Q w'.sub (.of w' q g2) (.of w' s p)
section
variable {x : Str} {p pos : Pos} {id T : String} {ex : Expr} {es : List Expr} {os : List Opd} {t : TA} {r : List V → Hp → VK → Prop} {k : OpN}
theorem de_callB (hc : CallR X (.builtin id) r) (hr : OpNOk X.K r k) (hg : Gl X x) (hm : X.mg x = none) (hv : bootBuiltins x = some (.builtin id)) (ha : DA X xp W (ex :: es) os t) (hn : x ≠ "__name__" := by decide) (hdb : (x == ("__debug__" : Str)) = false := by decide)
    (he : starEach (ex :: es) X.env = (false, eval ex X.env) :: starEach es X.env := by rfl) (hpl : (backTo pos (starEach es X.env)).any (·.1) = false := by rfl) : DE X xp W (.Call (.Name x p) (ex :: es) [] pos) (cOpN k os) (tCB r t) :=
  ⟨pe_callB hc hg hm hv ha.1 hn hdb he hpl, fun _ _ _ _ _ _ w q => tCB_run ha hr w q⟩
theorem de_callTy (hc : CallR X (.type T) r) (hr : OpNOk X.K r k) (hg : Gl X x) (hm : X.mg x = none) (hv : bootBuiltins x = some (.type T)) (ha : DA X xp W (ex :: es) os t) (hn : x ≠ "__name__" := by decide) (hdb : (x == ("__debug__" : Str)) = false := by decide)
    (he : starEach (ex :: es) X.env = (false, eval ex X.env) :: starEach es X.env := by rfl) (hpl : (backTo pos (starEach es X.env)).any (·.1) = false := by rfl) : DE X xp W (.Call (.Name x p) (ex :: es) [] pos) (cOpN k os) (tCB r t) :=
  ⟨pe_callTy hc hg hm hv ha.1 hn hdb he hpl, fun _ _ _ _ _ _ w q => tCB_run ha hr w q⟩
end
end
end DL

namespace DL
open PySem L2

mutual
def noList : PyData → Bool
  | .list _ => false
  | .dict _ => false
  | .tuple ds => noLists ds
  | _ => true
def noLists : List PyData → Bool
  | [] => true
  | d :: ds => noList d && noLists ds
end
def lowC : Cell → Bool
  | .frz d => noList d
  | .own _ (.list ds) => noLists ds
  | .own _ (.dict kvs) => noLists (kvs.map (·.2))
  | _ => false
noncomputable def cut (F : Hp) (S : Addr → Prop) : Hp := fun a => by
  classical
  exact if S a then none else F a
theorem cut_in {F : Hp} {S : Addr → Prop} {a : Addr} (h : S a) : cut F S a = none := by unfold cut; simp [h]
theorem cut_out {F : Hp} {S : Addr → Prop} {a : Addr} (h : ¬ S a) : cut F S a = F a := by unfold cut; simp [h]
mutual
theorem RD.cut {K : PySem.W.Frag} {F H : Hp} {S : Addr → Prop} (s : Sub F H) (hS : ∀ a, S a → ∀ vs, ¬ Rd H a (.tup vs)) : ∀ {d : PyData} {v : V}, noList d = true → RD K F v d → RD K (cut F S) v d
  | .none, _, _, .non => .non
  | .bool _, _, _, .bl b => .bl b
  | .int _, _, _, .int i => .int i
  | .str _, _, _, .str x => .str x
  | .tuple ds, _, h, .tup (a := a) (vs := vs) q r => by
    refine .tup ?_ (RDs.cut s hS (by unfold noList at h; exact h) r)
    have n : ¬ S a := fun z => hS a z vs (.inl (s.tp _ _ q))
    rw [cut_out n]; exact q
  | .list _, _, h, _ => by unfold noList at h; cases h
  | .dict _, _, h, _ => by unfold noList at h; cases h
theorem RDs.cut {K : PySem.W.Frag} {F H : Hp} {S : Addr → Prop} (s : Sub F H) (hS : ∀ a, S a → ∀ vs, ¬ Rd H a (.tup vs)) : ∀ {ds : List PyData} {vs : List V}, noLists ds = true → RDs K F vs ds → RDs K (DL.cut F S) vs ds
  | [], _, _, .nil => .nil
  | d :: ds, _, h, .cons a b => by
    unfold noLists at h
    rw [Bool.and_eq_true] at h
    exact .cons (RD.cut s hS h.1 a) (RDs.cut s hS h.2 b)
end

inductive FR where
  | ok (c : Cell)
  | ex (x : Exc)
  | no
abbrev Fn := List PyData → FR
def FPost (K : PySem.W.Frag) (xp : XP) (H F : Hp) (Q : VK) (E : XK) : FR → Prop
  | .ok c => ∀ v H' F', Grow H F H' F' → RN K H H' F' v c → Q v H'
  | .ex x => ∀ H' F' cls d, Grow H F H' F' → xp x cls d H' → E cls d H'
  | .no => False
def spB (K : PySem.W.Frag) (xp : XP) (n : Nat) (m : Fn) : Sp := fun vs H Q E => vs.length = n ∧ ∃ F ds, Sub F H ∧ RDs K F vs ds ∧ FPost K xp H F Q E (m ds)
inductive FI where
  | ok (c : Cell) (d : PyData)
  | no
abbrev Fm := PyData → List PyData → FI
structure Step (a : Addr) (H F H' F' : Hp) : Prop where
  ex : ∀ b o, b ≠ a → H b = some o → H' b = some o
  fz : Sub F F'
  sub : Sub F' H'
  new : ∀ b, F' b ≠ none → F b ≠ none ∨ NewA H b
  pl : ∀ b, F' b ≠ none → F b = none → ∃ u, H' b = some u ∧ NoLk u
def IPost (K : PySem.W.Frag) (a : Addr) (H F : Hp) (Q : VK) : FI → Prop
  | .ok c d => ∀ v H' F' u, Step a H F H' F' → H' a = some u → Cont K F' u d → RN K H H' F' v c → Q v H'
  | .no => False
def spI (K : PySem.W.Frag) (n : Nat) (m : Fm) : Sp := fun vs H Q _ => vs.length = n ∧ ∃ F a u d vr ds, vs = .ref a :: vr ∧ H a = some u ∧ F a = none ∧ Cont K F u d ∧ Sub F H ∧ RDs K F vr ds ∧ IPost K a H F Q (m d ds)

def anyMine (env : Cs) : List Lt → Bool
  | [] => false
  | .late i :: ls => (env.getD i .emp).mine || anyMine env ls
  | .now _ :: ls => anyMine env ls
def cCall (m : Fn) (os : List Opd) : CE := fun env => (evs os env).bind fun ls env1 => match gets env1 ls with
  | some ds => match m ds with
    | .ok c => match anyMine env1 ls && !lowC c with
      | true => .no
      | false => .ok c env1
    | .ex x => .ex x env1
    | .no => .no
  | none => .no
def lent (σ : St) (env : Cs) (ls : List Lt) (a : Addr) : Prop := ∃ i c, Lt.late i ∈ ls ∧ env[i]? = some c ∧ c.mine = true ∧ σ[i]? = some (some (.ref a))
theorem mine_cont {K : PySem.W.Frag} {e : Ent} {σ : St} {H F : Hp} {env : Cs} (w : Wl K e σ H F env) {i : Nat} {c : Cell} {a : Addr} (h : env[i]? = some c) (m : c.mine = true) (hx : σ[i]? = some (some (.ref a))) :
    ∃ u d, H a = some u ∧ F a = none ∧ Cont K F u d := by
  have q := w.cell i c _ h hx
  cases c with
  | own b d => obtain ⟨a', u, e1, h1, n1, k1⟩ := q; cases e1; exact ⟨u, d, h1, n1, k1⟩
  | lck d => obtain ⟨a', u, e1, h1, n1, k1⟩ := q; cases e1; exact ⟨u, d, h1, n1, k1⟩
  | emp => cases m
  | frz d => cases m
  | exc x => cases m
theorem lent_cont {K : PySem.W.Frag} {e : Ent} {σ : St} {H F : Hp} {env : Cs} {ls : List Lt} {a : Addr} (w : Wl K e σ H F env) (h : lent σ env ls a) : ∃ u d, H a = some u ∧ F a = none ∧ Cont K F u d :=
  let ⟨_, _, _, h1, m, hx⟩ := h; mine_cont w h1 m hx
noncomputable def lend (F H : Hp) (S : Addr → Prop) : Hp := fun a => by
  classical
  exact if S a then H a else F a
theorem lend_in {F H : Hp} {S : Addr → Prop} {a : Addr} (h : S a) : lend F H S a = H a := by unfold lend; simp [h]
theorem lend_out {F H : Hp} {S : Addr → Prop} {a : Addr} (h : ¬ S a) : lend F H S a = F a := by unfold lend; simp [h]
theorem lend_sub1 {F H : Hp} {S : Addr → Prop} (hS : ∀ a, S a → F a = none) : Sub F (lend F H S) := .of fun a o h => by
  have n : ¬ S a := fun z => by rw [hS a z] at h; cases h
  rw [lend_out n]; exact h
theorem rd_congr {F G : Hp} {a : Addr} {u : HO} (e : F a = G a) (h : Rd F a u) : Rd G a u := by
  rcases h with h | ⟨o, h⟩
  · exact .inl (e ▸ h)
  · exact .inr ⟨o, e ▸ h⟩
theorem lend_sub2 {F H : Hp} {S : Addr → Prop} (s : Sub F H) : Sub (lend F H S) H := by
  refine ⟨fun a u pl r => ?_, fun a n => ?_, fun a vs r => ?_⟩
  · by_cases z : S a
    · exact rd_congr (lend_in z) r
    · exact s.rd _ _ pl (rd_congr (lend_out z) r)
  · by_cases z : S a
    · rw [lend_in z] at n; exact n
    · rw [lend_out z] at n; exact s.dom _ n
  · by_cases z : S a
    · rw [lend_in z] at r; exact r
    · rw [lend_out z] at r; exact s.tp _ _ r
theorem LtR.lend {K : PySem.W.Frag} {e : Ent} {σ : St} {H F : Hp} {env : Cs} {S : Addr → Prop} {v : V} {l : Lt} {d : PyData} (w : Wl K e σ H F env) (hS : ∀ a, S a → F a = none) (hl : ∀ i c a, l = .late i → env[i]? = some c → c.mine = true → σ[i]? = some (some (.ref a)) → S a)
    (h : LtR K F σ v l) (g : l.get env = some d) : RD K (DL.lend F H S) v d := by
  cases l with
  | now d' => exact (RD.mono (lend_sub1 hS) (by cases g; exact h))
  | late i =>
    have h' : σ[i]? = some (some v) := h
    have g' : (env.getD i .emp).read = some d := g
    cases q : env.getD i .emp with
    | emp => rw [q] at g'; cases g'
    | exc x => rw [q] at g'; cases g'
    | own b d' =>
      have hc := of_getD q (fun z => nomatch z)
      rw [q] at g'; cases g'
      obtain ⟨a, u, e1, h1, n1, k1⟩ := w.cell i _ _ hc h'
      cases e1
      exact k1.rd (lend_sub1 hS) (.inl (by rw [lend_in (hl i _ a rfl hc rfl h')]; exact h1))
    | lck d' =>
      have hc := of_getD q (fun z => nomatch z)
      rw [q] at g'; cases g'
      obtain ⟨a, u, e1, h1, n1, k1⟩ := w.cell i _ _ hc h'
      cases e1
      exact k1.rd (lend_sub1 hS) (.inl (by rw [lend_in (hl i _ a rfl hc rfl h')]; exact h1))
    | frz d' =>
      have hc := of_getD q (fun z => nomatch z)
      rw [q] at g'; cases g'
      obtain ⟨v', e1, r'⟩ := w.cell i _ _ hc h'
      cases e1
      exact r'.mono (lend_sub1 hS)
theorem LtRs.lend {K : PySem.W.Frag} {e : Ent} {σ : St} {H F : Hp} {env : Cs} {S : Addr → Prop} (w : Wl K e σ H F env) (hS : ∀ a, S a → F a = none) :
    ∀ {vs : List V} {ls : List Lt} {ds : List PyData}, LtRs K F σ vs ls → gets env ls = some ds → (∀ i c a, Lt.late i ∈ ls → env[i]? = some c → c.mine = true → σ[i]? = some (some (.ref a)) → S a) → RDs K (DL.lend F H S) vs ds
  | _, _, _, .nil, g, _ => by cases g; exact .nil
  | _, _, _, .cons (l := l) (ls := ls) a b, g, hl => by
    unfold gets at g
    cases g1 : l.get env with
    | none => rw [g1] at g; cases g
    | some d =>
      cases g2 : gets env ls with
      | none => rw [g1, g2] at g; cases g
      | some ds' =>
        rw [g1, g2] at g; cases g
        exact .cons (LtR.lend w hS (fun i c a e1 h1 m hx => hl i c a (by rw [e1]; exact List.mem_cons_self) h1 m hx) a g1) (LtRs.lend w hS b g2 (fun i c a e1 h1 m hx => hl i c a (List.mem_cons_of_mem _ e1) h1 m hx))
theorem anyMine_of {σ : St} {env : Cs} : ∀ {ls : List Lt} {a : Addr}, lent σ env ls a → anyMine env ls = true
  | [], a, ⟨_, _, h, _⟩ => by cases h
  | .now d :: ls, a, ⟨i, c, h, h1, m, hx⟩ => by
    unfold anyMine
    refine anyMine_of (a := a) ⟨i, c, ?_, h1, m, hx⟩
    cases h with
    | tail _ h => exact h
  | .late j :: ls, a, ⟨i, c, h, h1, m, hx⟩ => by
    unfold anyMine
    cases h with
    | head => rw [getD_of h1, m]; rfl
    | tail _ h => rw [anyMine_of (a := a) ⟨i, c, h, h1, m, hx⟩, Bool.or_true]
theorem RN.cut {K : PySem.W.Frag} {H H' F' : Hp} {S : Addr → Prop} {v : V} {c : Cell} (s : Sub F' H') (hS : ∀ a, S a → ∀ vs, ¬ Rd H' a (.tup vs)) (hS' : ∀ a, S a → H a ≠ none) (l : lowC c = true) (h : RN K H H' F' v c) : RN K H H' (DL.cut F' S) v c := by
  cases c with
  | frz d => exact RD.cut s hS l h
  | own b d =>
    obtain ⟨p, u, e1, h0, h1, n1, k1⟩ := h
    refine ⟨p, u, e1, h0, h1, ?_, ?_⟩
    · rw [cut_out (fun z => hS' p z h0)]; exact n1
    · cases k1 with
      | lst r => exact .lst (RDs.cut s hS l r)
      | ins c hl r => exact .ins c hl (RDs.cut s hS (by simpa [lowC, noLists, noList] using l) r)
      | dK n r =>
        rename_i kvs ds
        have hl : (kvs.map (·.2)).length = ds.length := r.length
        have e2 : ((kvs.map fun p => keyD p.1).zip ds).map (·.2) = ds := List.map_snd_zip (by rw [← hl]; simp)
        refine .dK n (RDs.cut s hS ?_ r)
        have l' : noLists (((kvs.map fun p => keyD p.1).zip ds).map (·.2)) = true := l
        rw [e2] at l'; exact l'
      | dT r =>
        rename_i kvs ds
        have hl : (kvs.map (·.2)).length = ds.length := r.length
        have e2 : ((kvs.map fun p => tkeyD p.1).zip ds).map (·.2) = ds := List.map_snd_zip (by rw [← hl]; simp)
        refine .dT (RDs.cut s hS ?_ r)
        have l' : noLists (((kvs.map fun p => tkeyD p.1).zip ds).map (·.2)) = true := l
        rw [e2] at l'; exact l'
  | emp => exact h.elim
  | lck d => exact h.elim
  | exc x => exact h.elim
theorem cut_grow {F F1 H H' F' : Hp} {S : Addr → Prop} (s : Sub F H) (hS : ∀ a, S a → F a = none) (g : Grow H (DL.lend F H S) H' F') : Grow H F H' (DL.cut F' S) where
  ex := g.ex
  fz := by
    refine ⟨fun a u pl r => ?_, fun a n => ?_, fun a vs r => ?_⟩
    · have n : ¬ S a := fun z => rd_dom r (hS a z)
      exact rd_congr (cut_out n).symm (g.fz.rd _ _ pl (rd_congr (lend_out n).symm r))
    · have nS : ¬ S a := fun z => n (hS a z)
      rw [cut_out nS]
      exact g.fz.dom a (by rw [lend_out nS]; exact n)
    · have nS : ¬ S a := fun z => by rw [hS a z] at r; cases r
      rw [cut_out nS]
      exact g.fz.tp a vs (by rw [lend_out nS]; exact r)
  sub := by
    refine ⟨fun a u pl r => ?_, fun a n => ?_, fun a vs r => ?_⟩
    · have nS : ¬ S a := fun z => rd_dom r (cut_in z)
      exact g.sub.rd _ _ pl (rd_congr (cut_out nS) r)
    · have nS : ¬ S a := fun z => n (cut_in z)
      rw [cut_out nS] at n
      exact g.sub.dom a n
    · have nS : ¬ S a := fun z => by rw [cut_in z] at r; cases r
      rw [cut_out nS] at r
      exact g.sub.tp a vs r
  new := fun a n => by
    have nS : ¬ S a := fun z => n (cut_in z)
    rw [cut_out nS] at n
    rcases g.new a n with y | y
    · rw [lend_out nS] at y; exact .inl y
    · exact .inr y
  pl := fun a n fn => by
    have nS : ¬ S a := fun z => n (cut_in z)
    rw [cut_out nS] at n
    exact g.pl a n (by rw [lend_out nS]; exact fn)
theorem rd_tup_no {K : PySem.W.Frag} {F H H' : Hp} {a : Addr} {u : HO} {d : PyData} (k : Cont K F u d) (h : H a = some u) (ex : ∀ a o, H a = some o → H' a = some o) : ∀ vs, ¬ Rd H' a (.tup vs) := fun vs r => by
  have h' := ex _ _ h
  rcases r with r | ⟨o, r⟩
  · rw [h'] at r; cases r; cases k
  · rw [h'] at r; cases r; cases k
theorem LtRs.length {K : PySem.W.Frag} {F : Hp} {σ : St} : ∀ {vs : List V} {ls : List Lt}, LtRs K F σ vs ls → vs.length = ls.length
  | _, _, .nil => rfl
  | _, _, .cons _ t => by simp [LtRs.length t]
section
variable {X : Cx} {xp : XP} {W : WX}
theorem call_run {n : Nat} {m : Fn} {ls : List Lt} {ds : List PyData} {vs : List V} {e : Ent} {σ : St} {H F F0 : Hp} {env : Cs} {Q : VK} (w : Wl X.K e σ H F env) (s0 : Sub F0 F) (hl : LtRs X.K F σ vs ls) (hg : gets env ls = some ds) (hn : vs.length = n)
    (p : Post X.K xp W e σ F0 Q (match m ds with
    | .ok c => match anyMine env ls && !lowC c with
      | true => .no
      | false => .ok c env
    | .ex x => .ex x env
    | .no => .no)) : spB X.K xp n m vs H Q (fun cls d H' => W cls d σ H') := by
  have hS : ∀ a, lent σ env ls a → F a = none := fun a z => let ⟨_, _, _, n1, _⟩ := lent_cont w z; n1
  have hS2 : ∀ a, lent σ env ls a → H a ≠ none := fun a z => let ⟨_, _, h1, _, _⟩ := lent_cont w z; by rw [h1]; exact fun y => nomatch y
  refine ⟨hn, DL.lend F H (lent σ env ls), ds, lend_sub2 w.sub, LtRs.lend w hS hl hg (fun i c a hm h1 m hx => ⟨i, c, hm, h1, m, hx⟩), ?_⟩
  cases q : m ds with
  | no => rw [q] at p; exact p
  | ex x =>
    rw [q] at p
    intro H' F' cls d g hxp
    have g' := cut_grow (F1 := F) w.sub hS g
    exact p H' _ cls d (w.grow g') (s0.trans g'.fz) hxp
  | ok c =>
    rw [q] at p
    dsimp only at p
    intro v H' F' g r
    have g' := cut_grow (F1 := F) w.sub hS g
    cases lc : lowC c with
    | true =>
      rw [lc] at p
      simp only [Bool.not_true, Bool.and_false] at p
      have r' : RN X.K H H' (DL.cut F' (lent σ env ls)) v c := RN.cut g.sub (fun a z => let ⟨_, _, h1, _, k1⟩ := lent_cont w z; rd_tup_no k1 h1 g.ex) hS2 lc r
      exact p v H' _ (w.grow g') (s0.trans g'.fz) (r'.rc w g')
    | false =>
      rw [lc] at p
      cases am : anyMine env ls with
      | true => rw [am] at p; simp only [Bool.not_false, Bool.and_true] at p; exact p.elim
      | false =>
        rw [am] at p
        simp only [Bool.not_false, Bool.and_true] at p
        have no : ∀ a, ¬ lent σ env ls a := fun a z => by rw [anyMine_of z] at am; cases am
        have e1 : DL.lend F H (lent σ env ls) = F := by
          funext a; exact lend_out (no a)
        rw [e1] at g
        exact p v H' F' (w.grow g) (s0.trans g.fz) (r.rc w g)
theorem de_call {k n : Nat} {m : Fn} {f : Addr} {fd : FuncData} {ps : List Str} {x : Str} {p pos : Pos} {ex : Expr} {es : List Expr} {os : List Opd} {t : TA} (tk : L2N.Takes X W)
    (F : FnOk X.prog X.w X.K X.mg X.base (L2N.CX X.prog X.w) k f fd ps (spB X.K xp n m)) (hr : Room k X.A) (hg : Gl X x) (hm : X.mg x = some (.ref f)) (hk : PySem.W.keepIn X.K (.ref f) = true) (hb : Binds X.K fd ps [])
    (ha : DA X xp W (ex :: es) os t) (hn : os.length = n := by rfl) (hdb : (x == ("__debug__" : Str)) = false := by decide) (he : starEach (ex :: es) X.env = (false, eval ex X.env) :: starEach es X.env := by rfl) (hpl : (backTo pos (starEach es X.env)).any (·.1) = false := by rfl) :
    DE X xp W (.Call (.Name x p) (ex :: es) [] pos) (cCall m os) (tCallS (spB X.K xp n m) (WE W) t) := by
  refine ⟨pe_callS F hr hg hm hk hb (fun σ => L2N.passAt tk σ) ha.1 hdb he hpl, fun e σ H F env Q w q => ha.2 e σ H F env _ w ?_⟩
  unfold cCall at q
  cases g : evs os env with
  | no => rw [g] at q; exact q
  | ex x env1 => rw [g] at q; exact q
  | ok ls env1 =>
    rw [g] at q; simp only [Res.bind] at q
    intro vs H' F' w' s r
    cases g2 : gets env1 ls with
    | none => rw [g2] at q; exact q.elim
    | some ds =>
      rw [g2] at q
      refine call_run w' s r g2 ?_ q
      rw [r.length, evs_len g, hn]
end
end DL

namespace DL
open PySem L2
section
variable {K : PySem.W.Frag} {e : Ent} {σ : St} {H F H' F' : Hp} {env : Cs}
theorem Step.no {a : Addr} {u : HO} (g : Step a H F H' F') (h : H a = some u) (m : Mut (some u)) (n : F a = none) : F' a = none := by
  cases z : F' a with
  | none => rfl
  | some o =>
    rcases g.new a (by rw [z]; exact fun y => nomatch y) with y | y
    · exact absurd n y
    · exact (y.no h m).elim
theorem Wl.step (w : Wl K e σ H F env) {i : Nat} {b : Bool} {d d' : PyData} {a : Addr} {u : HO} (hc : env[i]? = some (.own b d)) (hx : σ[i]? = some (some (.ref a))) (g : Step a H F H' F') (hu : H' a = some u) (k : Cont K F' u d') :
    Wl K e σ H' F' (env.set i (.own b d')) := by
  have hl : i < env.length := (List.getElem?_eq_some_iff.mp hc).1
  obtain ⟨a1, u0, e1, h1, n1, k1⟩ := w.cell i _ _ hc hx
  cases e1
  have n' : F' a = none := g.no h1 k1.mut n1
  have other : ∀ j c x, i ≠ j → env[j]? = some c → σ[j]? = some x → CellR K H' F' x c := fun j c x z h hx' => by
    have q := w.cell j c x h hx'
    cases c with
    | emp => trivial
    | frz d => obtain ⟨v, e1, r⟩ := q; exact ⟨v, e1, r.mono g.fz⟩
    | own b2 d2 =>
      obtain ⟨a2, u2, e2, h2, n2, k2⟩ := q
      have ne : a2 ≠ a := fun y => w.apart i j _ _ a z hc h rfl rfl hx (by rw [hx', e2, y])
      refine ⟨a2, u2, e2, g.ex _ _ ne h2, ?_, k2.mono g.fz⟩
      cases z3 : F' a2 with
      | none => rfl
      | some o => rcases g.new a2 (by rw [z3]; exact fun y => nomatch y) with y | y
                  · exact absurd n2 y
                  · exact (y.no h2 k2.mut).elim
    | lck d2 =>
      obtain ⟨a2, u2, e2, h2, n2, k2⟩ := q
      have ne : a2 ≠ a := fun y => w.apart i j _ _ a z hc h rfl rfl hx (by rw [hx', e2, y])
      refine ⟨a2, u2, e2, g.ex _ _ ne h2, ?_, k2.mono g.fz⟩
      cases z3 : F' a2 with
      | none => rfl
      | some o => rcases g.new a2 (by rw [z3]; exact fun y => nomatch y) with y | y
                  · exact absurd n2 y
                  · exact (y.no h2 k2.mut).elim
    | exc x => exact q.elim
  refine ⟨?_, g.sub, ?_, ?_, ?_, ?_, ?_, ?_, ?_, ?_, ?_⟩
  · rw [List.length_set]; exact w.len
  · intro j c x h hx'
    by_cases z : i = j
    · subst z
      rw [List.getElem?_set_self hl] at h; cases h
      rw [hx] at hx'; cases hx'
      exact ⟨a, u, rfl, hu, n', k⟩
    · rw [List.getElem?_set_ne z] at h; exact other j c x z h hx'
  · intro j k' c1 c2 a2 n h1' h2' m1 m2 x1 x2
    by_cases z : i = j
    · subst z
      rw [List.getElem?_set_ne n] at h2'
      rw [hx] at x1; cases x1
      exact w.apart i k' _ c2 a n hc h2' rfl m2 hx x2
    · rw [List.getElem?_set_ne z] at h1'
      by_cases y : i = k'
      · subst y
        rw [hx] at x2; cases x2
        exact w.apart j i c1 _ a n h1' hc m1 rfl x1 hx
      · rw [List.getElem?_set_ne y] at h2'
        exact w.apart j k' c1 c2 a2 n h1' h2' m1 m2 x1 x2
  · intro b2 o h np
    by_cases z : b2 = a
    · subst z
      rcases w.mine i b d b2 hc hx with y | y
      · rw [y] at h; cases h
      · exact (np y).elim
    · exact g.ex _ _ z (w.keep b2 o h np)
  · intro b2 h
    rcases g.new b2 h with y | y
    · exact w.new b2 y
    · by_cases p : e.P b2
      · exact .inr (.inr p)
      · exact .inr (.inl (w.newA p y))
  · intro j b2 d2 a2 h hx'
    by_cases z : i = j
    · subst z
      rw [List.getElem?_set_self hl] at h; cases h
      exact w.mine i b d a2 hc hx'
    · rw [List.getElem?_set_ne z] at h; exact w.mine j b2 d2 a2 h hx'
  · intro j c h hc'
    by_cases z : i = j
    · subst z
      rw [List.getElem?_set_self hl] at h; cases h
      refine w.pin i _ hc ?_
      rcases hc' with ⟨d2, q⟩ | ⟨d2, q⟩
      · cases q; exact .inl ⟨d, rfl⟩
      · cases q
    · rw [List.getElem?_set_ne z] at h; exact w.pin j c h hc'
  · intro j d2 h
    have q := w.lk j d2 h
    by_cases z : i = j
    · subst z; rw [hc] at q; cases q
    · rw [List.getElem?_set_ne z]; exact q
  · intro j d2 h
    by_cases z : i = j
    · subst z; rw [List.getElem?_set_self hl] at h; cases h
    · rw [List.getElem?_set_ne z] at h; exact w.lk2 j d2 h
  · intro b2 h n
    cases z : F b2 with
    | none => exact g.pl b2 h z
    | some o =>
      have hF : F b2 ≠ none := by rw [z]; exact fun y => nomatch y
      obtain ⟨u2, h2, p2⟩ := w.pl b2 hF n
      exact ⟨u2, g.ex _ _ (fun y => hF (by rw [y]; exact n1)) h2, p2⟩
theorem RN.rcS {v : V} {c : Cell} {i : Nat} {b : Bool} {d d' : PyData} {a : Addr} {u : HO} (w : Wl K e σ H F env) (hc : env[i]? = some (.own b d)) (hx : σ[i]? = some (some (.ref a))) (g : Step a H F H' F') (hu : H' a = some u) (k : Cont K F' u d')
    (h : RN K H H' F' v c) : RC K e σ H' F' (env.set i (.own b d')) v c := by
  cases c with
  | frz d => exact h
  | own b2 d2 =>
    obtain ⟨p, u2, rfl, h0, h1, n1, k1⟩ := h
    refine ⟨p, u2, rfl, h1, n1, k1, ?_, fun j c hc' hm z => ?_⟩
    · by_cases q : e.P p
      · exact .inr q
      · refine .inl ?_
        cases z : e.H₀ p with
        | none => rfl
        | some o => rw [w.keep p o z q] at h0; cases h0
    · have hl : i < env.length := (List.getElem?_eq_some_iff.mp hc).1
      have : ∃ c, env[j]? = some c ∧ c.mine = true := by
        by_cases y : i = j
        · subst y; exact ⟨_, hc, rfl⟩
        · rw [List.getElem?_set_ne y] at hc'; exact ⟨c, hc', hm⟩
      obtain ⟨c2, hc2, hm2⟩ := this
      obtain ⟨u3, d3, h3, _, _⟩ := mine_cont w hc2 hm2 z
      rw [h3] at h0; cases h0
  | emp => exact h.elim
  | lck d => exact h.elim
  | exc x => exact h.elim
end

def cCallI (m : Fm) (i : Nat) (os : List Opd) : CE := fun env => match (env.getD i .emp).read with
  | none => .no
  | some _ => (evs os env).bind fun ls env1 => match nows ls with
    | none => .no
    | some ds => match env1.getD i .emp with
      | .own b d => match m d ds with
        | .ok c d' => .ok c (env1.set i (.own b d'))
        | .no => .no
      | _ => .no
section
variable {X : Cx} {xp : XP} {W : WX}
theorem de_callI {k n : Nat} {m : Fm} {f : Addr} {fd : FuncData} {ps : List Str} {x : Str} {p pos : Pos} {ex : Expr} {es : List Expr} {i : Nat} {os : List Opd} {t : TA} (tk : L2N.Takes X W)
    (F : FnOk X.prog X.w X.K X.mg X.base (L2N.CX X.prog X.w) k f fd ps (spI X.K n m)) (hr : Room k X.A) (hg : Gl X x) (hm : X.mg x = some (.ref f)) (hk : PySem.W.keepIn X.K (.ref f) = true) (hb : Binds X.K fd ps [])
    (h0 : PE X ex (tVar i)) (ha : DA X xp W es os t) (hn : os.length + 1 = n := by rfl) (hdb : (x == ("__debug__" : Str)) = false := by decide) (he : starEach (ex :: es) X.env = (false, eval ex X.env) :: starEach es X.env := by rfl) (hpl : (backTo pos (starEach es X.env)).any (·.1) = false := by rfl) :
    DE X xp W (.Call (.Name x p) (ex :: es) [] pos) (cCallI m i os) (tCallS (spI X.K n m) (WE W) (tCons (tVar i) t)) := by
  refine ⟨pe_callS F hr hg hm hk hb (fun σ => L2N.passAt tk σ) (pa_cons h0 ha.1 he) hdb he hpl, fun e σ H F env Q w q => ?_⟩
  unfold cCallI at q
  cases g0 : (env.getD i .emp).read with
  | none => rw [g0] at q; exact q.elim
  | some dr =>
    rw [g0] at q
    obtain ⟨v0, hv0⟩ := w.read g0
    refine ⟨v0, hv0, ha.2 e σ H F env _ w ?_⟩
    dsimp only at q
    cases g : evs os env with
    | no => rw [g] at q; exact q
    | ex x env1 => rw [g] at q; exact q
    | ok ls env1 =>
      rw [g] at q; simp only [Res.bind] at q
      intro vs H1 F1 w1 s r
      cases g2 : nows ls with
      | none => rw [g2] at q; exact q.elim
      | some ds =>
        rw [g2] at q
        dsimp only at q
        cases g3 : env1.getD i .emp with
        | emp => rw [g3] at q; exact q.elim
        | frz d => rw [g3] at q; exact q.elim
        | lck d => rw [g3] at q; exact q.elim
        | exc x => rw [g3] at q; exact q.elim
        | own b d =>
          rw [g3] at q
          dsimp only at q
          have hc := of_getD g3 (fun z => nomatch z)
          obtain ⟨a, u, e1, h1, n1, k1⟩ := w1.cell i _ _ hc hv0
          cases e1
          have rr := RDs.of_nows r g2
          refine ⟨by show (V.ref a :: vs).length = n; rw [List.length_cons, r.length, evs_len g, hn], F1, a, u, d, vs, ds, rfl, h1, n1, k1, w1.sub, rr, ?_⟩
          cases g4 : m d ds with
          | no => rw [g4] at q; exact q.elim
          | ok c d' =>
            rw [g4] at q
            intro v H' F' u' st hu' k' rn
            exact q v H' F' (w1.step hc hv0 st hu' k') (s.trans st.fz) (rn.rcS w1 hc hv0 st hu' k')

inductive OM where
  | ok (c : Cell) (d : PyData)
  | no
abbrev OpM := PyData → List PyData → OM
def MPost (K : PySem.W.Frag) (a : Addr) (H F : Hp) (Q : VK) : OM → Prop
  | .ok c d => ∀ v H' F' u, Step a H F H' F' → H' a = some u → Cont K F' u d → RN K H H' F' v c → Q v H'
  | .no => False
def OpMOk (K : PySem.W.Frag) (r : V → List V → Hp → VK → Prop) (k : OpM) : Prop := ∀ a u d xs ds H F Q, Sub F H → H a = some u → F a = none → Cont K F u d → RDs K F xs ds → MPost K a H F Q (k d ds) → r (.ref a) xs H Q
def cMeth (k : OpM) (i : Nat) (os : List Opd) : CE := fun env => match env.getD i .emp with
  | .own _ _ => (evs os env).bind fun ls env1 => match nows ls with
    | none => .no
    | some ds => match env1.getD i .emp with
      | .own b d => match k d ds with
        | .ok c d' => .ok c (env1.set i (.own b d'))
        | .no => .no
      | _ => .no
  | _ => .no
def isT (T : String) : PyData → Bool
  | .list _ => T == "list"
  | .dict ((.none, _) :: _) => false
  | .dict _ => T == "dict"
  | _ => false
theorem isT_dict {T : String} {kvs : List (PyData × PyData)} (h : isT T (.dict kvs) = true) : T = "dict" := by
  unfold isT at h
  split at h
  · rename_i e; cases e
  · cases h
  · simpa using h
  · cases h
theorem meth_end {r : V → List V → Hp → VK → Prop} {k : OpM} (hr : OpMOk X.K r k) {i : Nat} {ls : List Lt} {e : Ent} {σ : St} {H F F0 : Hp} {env : Cs} {vs : List V} {v0 : V} {Q : VK} (w : Wl X.K e σ H F env) (s0 : Sub F0 F) (hv : σ[i]? = some (some v0)) (rl : LtRs X.K F σ vs ls)
    (q : Post X.K xp W e σ F0 Q (match nows ls with
    | none => .no
    | some ds => match env.getD i .emp with
      | .own b d => match k d ds with
        | .ok c d' => .ok c (env.set i (.own b d'))
        | .no => .no
      | _ => .no)) : r v0 vs H Q := by
  cases g2 : nows ls with
  | none => rw [g2] at q; exact q.elim
  | some ds =>
    rw [g2] at q
    dsimp only at q
    cases g3 : env.getD i .emp with
    | emp => rw [g3] at q; exact q.elim
    | frz d => rw [g3] at q; exact q.elim
    | lck d => rw [g3] at q; exact q.elim
    | exc x => rw [g3] at q; exact q.elim
    | own b d =>
      rw [g3] at q
      dsimp only at q
      have hc := of_getD g3 (fun z => nomatch z)
      obtain ⟨a, u, e1, h1, n1, k1⟩ := w.cell i _ _ hc hv
      cases e1
      refine hr a u d vs ds H F Q w.sub h1 n1 k1 (RDs.of_nows rl g2) ?_
      cases g4 : k d ds with
      | no => rw [g4] at q; exact q.elim
      | ok c d' =>
        rw [g4] at q
        intro v H' F' u' st hu' k' rn
        exact q v H' F' (w.step hc hv st hu' k') (s0.trans st.fz) (rn.rcS w hc hv st hu' k')
theorem own_ty {T : String} {e : Ent} {σ : St} {H F : Hp} {env : Cs} {i : Nat} {b : Bool} {d : PyData} {v0 : V} (w : Wl X.K e σ H F env) (hc : env[i]? = some (.own b d)) (hv : σ[i]? = some (some v0)) (hT : isT T d = true) : tyV X.K T v0 H := by
  obtain ⟨a, u, e1, h1, n1, k1⟩ := w.cell i _ _ hc hv
  cases e1
  cases k1 with
  | lst r => exact .inl ⟨by simpa [isT] using hT, _, .inl (.inl h1)⟩
  | dK _ r => exact .inr (.inr (.inl ⟨isT_dict hT, .inl ⟨_, h1⟩⟩))
  | dT r => exact .inr (.inr (.inl ⟨isT_dict hT, .inr ⟨_, h1⟩⟩))
  | ins c r => cases hT
def cMethT (T : String) (k : OpM) (i : Nat) (os : List Opd) : CE := fun env => match env.getD i .emp with
  | .own _ d0 => match isT T d0 with
    | false => .no
    | true => (evs os env).bind fun ls env1 => match nows ls with
      | none => .no
      | some ds => match env1.getD i .emp with
        | .own b d => match k d ds with
          | .ok c d' => .ok c (env1.set i (.own b d'))
          | .no => .no
        | _ => .no
  | _ => .no
section
variable {o ex : Expr} {es : List Expr} {t : TA} {name : Str} {apos cpos : Pos} {T id : String} {r : V → List V → Hp → VK → Prop} {k : OpM} {i : Nat} {os : List Opd}
theorem de_meth (pa : PlainAttrs T) (slot : Slot T name id) (hty : typeOf (.builtin id) = pure (.type "method_descriptor")) (hm : MtR X id r) (hr : OpMOk X.K r k) (ho : PE X o (tVar i)) (ha : DA X xp W (ex :: es) os t)
    (hbase : attributeBase o name X.env (eval o X.env) = eval o X.env := by rfl)
    (hfew : ((backTo cpos (starEach (ex :: es) X.env)).all (fun x => !x.1) && (backToKw cpos (keywordEach [] X.env)).all (fun x => x.1.isSome)
      && decide ((ex :: es).length + ([] : List Keyword).length + (if ([] : List Keyword).isEmpty then 0 else 1) < 30)) = true := by rfl)
    (hline : (apos.endLine == cpos.line) = true := by rfl) (hs : starEach (ex :: es) X.env = (false, eval ex X.env) :: starEach es X.env := by rfl) (hplain : (backTo cpos (starEach es X.env)).any (·.1) = false := by rfl) :
    DE X xp W (.Call (.Attribute o name apos) (ex :: es) [] cpos) (cMethT T k i os) (tBM X.K T r (tVar i) t) := by
  refine ⟨pe_bm pa slot hty hm ho ha.1 hbase hfew hline hs hplain, fun e σ H F env Q w q => ?_⟩
  unfold cMethT at q
  cases g0 : env.getD i .emp with
  | emp => rw [g0] at q; exact q.elim
  | frz d => rw [g0] at q; exact q.elim
  | lck d => rw [g0] at q; exact q.elim
  | exc x => rw [g0] at q; exact q.elim
  | own b d0 =>
    rw [g0] at q
    dsimp only at q
    cases gT : isT T d0 with
    | false => rw [gT] at q; exact q.elim
    | true =>
      rw [gT] at q
      dsimp only at q
      obtain ⟨v0, hv0⟩ := w.read (i := i) (d := d0) (by rw [g0]; rfl)
      refine ⟨v0, hv0, own_ty w (of_getD g0 (fun z => nomatch z)) hv0 gT, ha.2 e σ H F env _ w ?_⟩
      cases g : evs os env with
      | no => rw [g] at q; exact q
      | ex x env1 => rw [g] at q; exact q
      | ok ls env1 =>
        rw [g] at q; simp only [Res.bind] at q
        exact fun vs H1 F1 w1 s rl => meth_end hr w1 s hv0 rl q
end

def tyD (T : String) : PyData → Bool
  | .list _ => T == "list"
  | .str _ => T == "str"
  | _ => false
abbrev OpV := PyData → List PyData → OR
def OpVOk (K : PySem.W.Frag) (r : V → List V → Hp → VK → Prop) (k : OpV) : Prop := ∀ x d xs ds H F Q, Sub F H → RB K H F x d → RBs K H F xs ds → OPost K H F Q (k d ds) → r x xs H Q
def cMethV (T : String) (k : OpV) (o : Opd) (os : List Opd) : CE := fun env => (o.ev env).bind fun l env1 => match l.get env1 with
  | none => .no
  | some d0 => match tyD T d0 with
    | false => .no
    | true => (evs os env1).bind fun ls env2 => match l.get env2, gets env2 ls with
      | some d, some ds => (k d ds).fin env2
      | _, _ => .no
section
variable {o ex : Expr} {es : List Expr} {to : TE} {t : TA} {name : Str} {apos cpos : Pos} {T id : String} {r : V → List V → Hp → VK → Prop} {k : OpV} {oo : Opd} {os : List Opd}
end

inductive SRes where
  | nx (env : Cs)
  | rt (c : Cell) (env : Cs)
  | bk (env : Cs)
  | ct (env : Cs)
  | ex (x : Exc) (env : Cs)
  | no
abbrev CS := Cs → SRes
def SPost (K : PySem.W.Frag) (xp : XP) (W : WX) (e : Ent) (F : Hp) (D : Ends) : SRes → Prop
  | .nx env => ∀ σ' H' F', Wl K e σ' H' F' env → Sub F F' → D.nx σ' H'
  | .rt c env => ∀ v σ' H' F', Wl K e σ' H' F' env → Sub F F' → RC K e σ' H' F' env v c → D.rt v H'
  | .bk env => ∀ σ' H' F', Wl K e σ' H' F' env → Sub F F' → D.bk σ' H'
  | .ct env => ∀ σ' H' F', Wl K e σ' H' F' env → Sub F F' → D.ct σ' H'
  | .ex x env => ∀ σ' H' F' cls d, Wl K e σ' H' F' env → Sub F F' → xp x cls d H' → W cls d σ' H'
  | .no => False
def DS (X : Cx) (xp : XP) (W : WX) (st : Stmt) (c : CS) : Prop :=
  ∃ t, PS X st t ∧ ∀ e σ H F env D, Wl X.K e σ H F env → SPost X.K xp W e F D (c env) → t D σ H
def DSs (X : Cx) (xp : XP) (W : WX) (st : List Stmt) (c : CS) : Prop :=
  ∃ t, PSs X st t ∧ ∀ e σ H F env D, Wl X.K e σ H F env → SPost X.K xp W e F D (c env) → t D σ H
theorem SPost.subs {K : PySem.W.Frag} {e : Ent} {F F1 : Hp} {D : Ends} {r : SRes} (s : Sub F F1) (h : SPost K xp W e F D r) : SPost K xp W e F1 D r := by
  cases r with
  | no => exact h
  | ex x env => exact fun σ' H' F' cls d w s' => h σ' H' F' cls d w (s.trans s')
  | nx env => exact fun σ' H' F' w s' => h σ' H' F' w (s.trans s')
  | bk env => exact fun σ' H' F' w s' => h σ' H' F' w (s.trans s')
  | ct env => exact fun σ' H' F' w s' => h σ' H' F' w (s.trans s')
  | rt c env => exact fun v σ' H' F' w s' => h v σ' H' F' w (s.trans s')
def cSeq (c d : CS) : CS := fun env => match c env with
  | .nx env1 => d env1
  | r => r
def cNext : CS := fun env => .nx env
theorem dss_nil : DSs X xp W [] cNext := ⟨_, pss_nil, fun e σ H F env D w h => h σ H F w (.refl _)⟩
theorem dss_one {st : Stmt} {c : CS} (h : DS X xp W st c) : DSs X xp W [st] c := let ⟨t, p, q⟩ := h; ⟨t, pss_one p, q⟩
theorem seq_run {K : PySem.W.Frag} {e : Ent} {F : Hp} {D : Ends} {nx : St → Hp → Prop} {r : SRes} {d : CS} (h : SPost K xp W e F D (match r with | .nx env1 => d env1 | r => r))
    (hd : ∀ env1 σ' H' F', SPost K xp W e F' D (d env1) → Wl K e σ' H' F' env1 → nx σ' H') : SPost K xp W e F { D with nx := nx } r := by
  cases r with
  | no => exact h
  | nx env1 => exact fun σ' H' F' w s => hd env1 σ' H' F' (SPost.subs s h) w
  | ex x env => exact h
  | bk env => exact h
  | ct env => exact h
  | rt c env => exact h
theorem dss_cons {st : Stmt} {rest : List Stmt} {c d : CS} (h : DS X xp W st c) (hr : DSs X xp W rest d) : DSs X xp W (st :: rest) (cSeq c d) := by
  obtain ⟨t, p, q⟩ := h
  obtain ⟨u, p2, q2⟩ := hr
  exact ⟨_, pss_cons p p2, fun e σ H F env D w h => q e σ H F env _ w (seq_run h fun env1 σ' H' F' h' w' => q2 e σ' H' F' env1 D w' h')⟩
def cDrop (c : CE) : CS := fun env => match c env with
  | .ok _ env1 => .nx env1
  | .ex x env1 => .ex x env1
  | .no => .no
theorem ds_expr {ex : Expr} {c : CE} {t : TE} {pos : Pos} (h : DE X xp W ex c t) (hs : swapsWith ex none pos.line X.env = pure false := by rfl) : DS X xp W (.Expr ex pos) (cDrop c) := by
  obtain ⟨p, q⟩ := h
  refine ⟨_, ps_expr p hs, fun e σ H F env D w h => q e σ H F env _ w ?_⟩
  unfold cDrop at h
  cases g : c env with
  | no => rw [g] at h; exact h
  | ex x env1 => rw [g] at h; exact fun H' F' cls d w' s y => h σ H' F' cls d w' s y
  | ok c1 env1 => rw [g] at h; exact fun v H' F' w' s _ => h σ H' F' w' s
def cRet (c : CE) : CS := fun env => match c env with
  | .ok c env1 => .rt c env1
  | .ex x env1 => .ex x env1
  | .no => .no
theorem ret_run {c : CE} {e : Ent} {σ : St} {F : Hp} {env : Cs} {D : Ends} (h : SPost X.K xp W e F D (cRet c env)) : Post X.K xp W e σ F D.rt (c env) := by
  unfold cRet at h
  cases g : c env with
  | no => rw [g] at h; exact h
  | ex x env1 => rw [g] at h; exact fun H' F' cls d w' s y => h σ H' F' cls d w' s y
  | ok c1 env1 => rw [g] at h; exact fun v H' F' w' s r => h v σ H' F' w' s r
theorem ds_ret {ex : Expr} {c : CE} {t : TE} {pos : Pos} (h : DE X xp W ex c t) : DS X xp W (.Return (some ex) pos) (cRet c) := by
  obtain ⟨p, q⟩ := h
  exact ⟨_, ps_ret p, fun e σ H F env D w h => q e σ H F env _ w (ret_run h)⟩
def cMove (i : Nat) : CE := fun env => match env.getD i .emp with
  | .frz d => .ok (.frz d) env
  | .own false d => .ok (.own false d) (env.set i .emp)
  | _ => .no
theorem de_move {ex : Expr} {i : Nat} (h : PE X ex (tVar i)) : DE X xp W ex (cMove i) (tVar i) := by
  refine ⟨h, fun e σ H F env Q w p => ?_⟩
  unfold cMove at p
  cases g : env.getD i .emp with
  | emp => rw [g] at p; exact p.elim
  | lck d => rw [g] at p; exact p.elim
  | exc x => rw [g] at p; exact p.elim
  | frz d =>
    rw [g] at p
    have hc := of_getD g (fun z => nomatch z)
    obtain ⟨x, hx⟩ := w.slot hc
    obtain ⟨v, rfl, r⟩ := w.cell i _ _ hc hx
    exact ⟨v, hx, p v H F w (.refl _) r⟩
  | own b d =>
    rw [g] at p
    cases b with
    | true => exact p.elim
    | false =>
      have hc := of_getD g (fun z => nomatch z)
      obtain ⟨x, hx⟩ := w.slot hc
      obtain ⟨a, u, rfl, h1, n1, k1⟩ := w.cell i _ _ hc hx
      have hl : i < env.length := (List.getElem?_eq_some_iff.mp hc).1
      refine ⟨_, hx, p _ H F (w.turn rfl (fun _ _ => trivial) (fun _ z => nomatch z) (w.lkn fun _ z => by rw [hc] at z; cases z)) (.refl _) ⟨a, u, rfl, h1, n1, k1, w.mine i _ _ a hc hx, fun j c h m z => ?_⟩⟩
      by_cases y : i = j
      · subst y; rw [List.getElem?_set_self hl] at h; cases h; cases m
      · rw [List.getElem?_set_ne y] at h; exact w.apart i j _ c a y hc h rfl m hx z
def cRetN : CS := fun env => .rt (.frz .none) env
def cIfS (c : CT) (a b : CS) : CS := fun env => match c env with
  | .ok t env1 => match t with | true => a env1 | false => b env1
  | .ex x env1 => .ex x env1
  | .no => .no
theorem ds_if {g : Expr} {a b : List Stmt} {c : CT} {ca cb : CS} {t : TT} {pos : Pos} (hg : DT X xp W g c t) (ha : DSs X xp W a ca) (hb : DSs X xp W b cb) : DS X xp W (.If g a b pos) (cIfS c ca cb) := by
  obtain ⟨p, q⟩ := hg
  obtain ⟨t1, p1, q1⟩ := ha
  obtain ⟨t2, p2, q2⟩ := hb
  refine ⟨_, ps_if p p1 p2, fun e σ H F env D w h => q e σ H F env _ w ?_⟩
  unfold cIfS at h
  cases g : c env with
  | no => rw [g] at h; exact h
  | ex x env1 => rw [g] at h; exact fun H' F' cls d w' s y => h σ H' F' cls d w' s y
  | ok b env1 =>
    rw [g] at h
    intro H' F' w' s
    cases b with
    | true => exact iteT (q1 e σ H' F' env1 D w' (SPost.subs s h))
    | false => exact iteF (q2 e σ H' F' env1 D w' (SPost.subs s h))
def cBreak : CS := fun env => .bk env
def cCont : CS := fun env => .ct env
def cNever : CS := fun _ => .no
end
end DL

namespace DL
open PySem L2
section
variable {K : PySem.W.Frag} {e : Ent} {σ : St} {H F : Hp} {env : Cs}
theorem Wl.put (w : Wl K e σ H F env) {i : Nat} {c : Cell} {v : V} (hk : e.lk i = none) (hr : CellR K H F (some v) c) (hc : ∀ d, c ≠ .own true d ∧ c ≠ .lck d)
    (hm : ∀ b d a, c = .own b d → v = .ref a → (e.H₀ a = none ∨ e.P a) ∧ ∀ (j : Nat) (c' : Cell), j ≠ i → env[j]? = some c' → c'.mine = true → σ[j]? ≠ some (some (.ref a))) :
    Wl K e (σ.set i (some v)) H F (env.set i c) := by
  have hl : ∀ {j : Nat} {x : Option V}, (σ.set i (some v))[j]? = some x → (j = i ∧ x = some v ∧ i < env.length) ∨ (j ≠ i ∧ σ[j]? = some x) := fun {j x} h => by
    by_cases z : i = j
    · subst z
      have hj : i < σ.length := by simpa using (List.getElem?_eq_some_iff.mp h).1
      rw [List.getElem?_set_self hj] at h
      exact .inl ⟨rfl, (Option.some.inj h).symm, by rw [← w.len]; exact hj⟩
    · rw [List.getElem?_set_ne z] at h; exact .inr ⟨fun y => z y.symm, h⟩
  have mineof : c.mine = true → ∃ b d, c = .own b d := fun m => by
    cases c with
    | own b d => exact ⟨b, d, rfl⟩
    | lck d => exact ((hc d).2 rfl).elim
    | emp => cases m
    | frz d => cases m
    | exc x => cases m
  refine ⟨by simp [w.len], w.sub, ?_, ?_, w.keep, w.new, ?_, ?_, ?_, ?_, w.pl⟩
  · intro j c' x h hx
    rcases hl hx with ⟨rfl, rfl, hi⟩ | ⟨n, hx⟩
    · rw [List.getElem?_set_self hi] at h; cases h; exact hr
    · rw [List.getElem?_set_ne (Ne.symm n)] at h; exact w.cell j c' x h hx
  · intro j k c1 c2 a n h1 h2 m1 m2 x1 x2
    rcases hl x1 with ⟨rfl, e1, hi⟩ | ⟨n1, y1⟩
    · rw [List.getElem?_set_self hi] at h1; cases h1
      rw [List.getElem?_set_ne n] at h2
      rw [List.getElem?_set_ne n] at x2
      cases e1
      obtain ⟨b, d, ec⟩ := mineof m1
      exact (hm b d a ec rfl).2 k c2 (Ne.symm n) h2 m2 x2
    · rw [List.getElem?_set_ne (Ne.symm n1)] at h1
      rcases hl x2 with ⟨rfl, e2, hi⟩ | ⟨n2, y2⟩
      · rw [List.getElem?_set_self hi] at h2; cases h2
        cases e2
        obtain ⟨b, d, ec⟩ := mineof m2
        exact (hm b d a ec rfl).2 j c1 n h1 m1 y1
      · rw [List.getElem?_set_ne (Ne.symm n2)] at h2
        exact w.apart j k c1 c2 a n h1 h2 m1 m2 y1 y2
  · intro j b d a h hx
    rcases hl hx with ⟨rfl, e1, hi⟩ | ⟨n, hx⟩
    · rw [List.getElem?_set_self hi] at h; cases h
      cases e1
      exact (hm b d a rfl rfl).1
    · rw [List.getElem?_set_ne (Ne.symm n)] at h; exact w.mine j b d a h hx
  · intro j c' h hc'
    by_cases z : i = j
    · subst z
      have hi : i < env.length := by simpa using (List.getElem?_eq_some_iff.mp h).1
      rw [List.getElem?_set_self hi] at h; cases h
      rcases hc' with ⟨d, y⟩ | ⟨d, y⟩
      · exact ((hc d).1 y).elim
      · exact ((hc d).2 y).elim
    · rw [List.getElem?_set_ne z] at h
      obtain ⟨v', h1, h2⟩ := w.pin j c' h hc'
      exact ⟨v', h1, by rw [List.getElem?_set_ne z]; exact h2⟩
  · intro j d h
    have q := w.lk j d h
    by_cases z : i = j
    · subst z; rw [hk] at h; cases h
    · rw [List.getElem?_set_ne z]; exact q
  · intro j d h
    by_cases z : i = j
    · subst z
      have hi : i < env.length := by simpa using (List.getElem?_eq_some_iff.mp h).1
      rw [List.getElem?_set_self hi] at h; cases h; exact ((hc d).2 rfl).elim
    · rw [List.getElem?_set_ne z] at h; exact w.lk2 j d h
theorem Wl.putF (w : Wl K e σ H F env) {i : Nat} {v : V} {d : PyData} (hk : e.lk i = none) (r : RD K F v d) : Wl K e (σ.set i (some v)) H F (env.set i (.frz d)) :=
  w.put hk ⟨v, rfl, r⟩ (fun _ => ⟨(fun z => nomatch z), (fun z => nomatch z)⟩) fun _ _ _ z => nomatch z
def Cell.asg : Cell → Cell
  | .own _ d => .own false d
  | c => c
theorem Wl.putC (w : Wl K e σ H F env) {i : Nat} {v : V} {c : Cell} (hk : e.lk i = none) (r : RC K e σ H F env v c) : Wl K e (σ.set i (some v)) H F (env.set i c.asg) := by
  cases c with
  | frz d => exact w.putF hk r
  | own b d =>
    obtain ⟨p, u, rfl, h1, n1, k1, m, no⟩ := r
    refine w.put hk ⟨p, u, rfl, h1, n1, k1⟩ (fun _ => ⟨(fun z => nomatch z), (fun z => nomatch z)⟩) fun b2 d2 a e1 e2 => ?_
    cases e2
    exact ⟨m, fun j c' _ h hm => no j c' h hm⟩
  | emp => exact r.elim
  | lck d => exact r.elim
  | exc x => exact r.elim
end
def isLck : Cell → Bool
  | .lck _ => true
  | _ => false
theorem nolck {K : PySem.W.Frag} {e : Ent} {σ : St} {H F : Hp} {env : Cs} {i : Nat} (w : Wl K e σ H F env) (h : isLck (env.getD i .emp) = false) : e.lk i = none := w.lkn fun d z => by
  rw [getD_of z] at h; cases h
def cSet (i : Nat) (c : CE) : CS := fun env => match c env with
  | .ok c env1 => match isLck (env1.getD i .emp) with
    | true => .no
    | false => .nx (env1.set i c.asg)
  | .ex x env1 => .ex x env1
  | .no => .no
section
variable {X : Cx} {xp : XP} {W : WX}
theorem set_run {i : Nat} {c : CE} {e : Ent} {σ : St} {F : Hp} {env : Cs} {D : Ends} (h : SPost X.K xp W e F D (cSet i c env)) : Post X.K xp W e σ F (fun v H' => D.nx (σ.set i (some v)) H') (c env) := by
  unfold cSet at h
  cases g : c env with
  | no => rw [g] at h; exact h
  | ex x env1 => rw [g] at h; exact fun H' F' cls d w' s y => h σ H' F' cls d w' s y
  | ok c1 env1 =>
    rw [g] at h
    dsimp only at h
    intro v H' F' w' s r
    cases g2 : isLck (env1.getD i .emp) with
    | true => rw [g2] at h; exact h.elim
    | false => rw [g2] at h; exact h _ H' F' (w'.putC (nolck w' g2) r) s
theorem ds_set {i : Nat} {x : Str} {ex : Expr} {c : CE} {t : TE} {pos pos' : Pos} (hN : X.N.Nodup) (hi : X.N[i]? = some x) (hx : Loc X.env.scope x) (h : DE X xp W ex c t) (hs : swapsWith ex (some (.Name x pos')) pos.line X.env = pure false := by rfl)
    (hf : X.fn x = true ∨ X.env.scope.names.lookup x = some .local := by first | exact .inl rfl | exact .inr rfl | assumption) : DS X xp W (.Assign [.Name x pos'] ex pos) (cSet i c) := by
  obtain ⟨p, q⟩ := h
  exact ⟨_, ps_set hN hi hx p hs hf, fun e σ H F env D w h => q e σ H F env _ w (set_run h)⟩
def cSet2 (i j : Nat) (c d : CE) : CS := fun env => match c env with
  | .ok c1 env1 => match d env1 with
    | .ok d1 env2 => match isLck (env2.getD i .emp) || isLck (env2.getD j .emp) || i == j with
      | true => .no
      | false => match c1 with
        | .frz x => .nx ((env2.set i (.frz x)).set j d1.asg)
        | _ => .no
    | .ex x env2 => .ex x env2
    | .no => .no
  | .ex x env1 => .ex x env1
  | .no => .no

abbrev OpS := PyData → PyData → PyData → Option PyData
def OpSOk (K : PySem.W.Frag) (r : TSet) (k : OpS) : Prop := ∀ a u d ix dx x dv d' H F (Q : Hp → Prop), Sub F H → H a = some u → F a = none → Cont K F u d → RB K H F ix dx → RD K F x dv → k d dx dv = some d' →
  (∀ H' F' u', Step a H F H' F' → H' a = some u' → Cont K F' u' d' → Q H') → r (.ref a) ix x H Q
def cSetItem (k : OpS) (i : Nat) (oi : Opd) (c : CE) : CS := fun env => match c env with
  | .ok c1 env1 => match c1.val, (env1.getD i .emp).read with
    | some dv, some _ => match oi.ev env1 with
      | .ok l env2 => match env2.getD i .emp, l.get env2 with
        | .own b d, some dx => match k d dx dv with
          | some d' => .nx (env2.set i (.own b d'))
          | none => .no
        | _, _ => .no
      | .ex x env2 => .ex x env2
      | .no => .no
    | _, _ => .no
  | .ex x env1 => .ex x env1
  | .no => .no
theorem ds_setItem {o ix ex : Expr} {i : Nat} {oi : Opd} {ti te : TE} {c : CE} {pos pos2 : Pos} {r : TSet} {k : OpS} (hS : PSet X r) (hr : OpSOk X.K r k) (h : DE X xp W ex c te) (ho : PE X o (tVar i)) (hi : DO X xp W ix oi ti)
    (ha : ∀ v, assign (.Subscript o ix pos2) X.env v = (do
      let ov ← holding [v] (eval o X.env)
      let iv ← holding [v, ov] (eval ix X.env)
      standAt pos2
      holding [v, ov, iv] (setItem ov iv v)
      release [v, ov, iv] []) := by intro _; rfl) (hs : swapsWithSole [.Subscript o ix pos2] ex pos.line X.env = pure false := by rfl) (hw : swappedStores [.Subscript o ix pos2] ex X.env = pure none := by rfl)
    (h1 : (assignEach [.Subscript o ix pos2] X.env).map (·.2) = [assign (.Subscript o ix pos2) X.env] := by rfl) : DS X xp W (.Assign [.Subscript o ix pos2] ex pos) (cSetItem k i oi c) := by
  obtain ⟨p, q⟩ := h
  refine ⟨_, ps_asg p (pg_sub ho hi.pe hS ha) hs hw h1, fun e σ H F env D w h => q e σ H F env _ w ?_⟩
  unfold cSetItem at h
  cases g : c env with
  | no => rw [g] at h; exact h
  | ex x env1 => rw [g] at h; exact fun H' F' cls d w' s y => h σ H' F' cls d w' s y
  | ok c1 env1 =>
    rw [g] at h
    dsimp only at h
    intro v H1 F1' w1' s1' r1'
    obtain ⟨F1, dv, e1, w1, s1, r1⟩ := r1'.freeze w1'
    rw [e1] at h
    cases g2 : (env1.getD i .emp).read with
    | none => rw [g2] at h; exact h.elim
    | some dr =>
      rw [g2] at h
      dsimp only at h
      obtain ⟨v0, hv0⟩ := w1.read g2
      refine ⟨v0, hv0, hi.run w1 (fun x env2 H' F' cls d q2 w' s y => ?_) (fun q2 => ?_) fun l env2 u H2 F2 q2 w2 s2 l2 => ?_⟩
      · rw [q2] at h; exact h σ H' F' cls d w' ((s1'.trans s1).trans s) y
      · rw [q2] at h; exact h
      · rw [q2] at h
        dsimp only at h
        cases g3 : env2.getD i .emp with
        | emp => rw [g3] at h; exact h.elim
        | frz d => rw [g3] at h; exact h.elim
        | lck d => rw [g3] at h; exact h.elim
        | exc x => rw [g3] at h; exact h.elim
        | own b d =>
          rw [g3] at h
          cases g4 : l.get env2 with
          | none => rw [g4] at h; exact h.elim
          | some dx =>
            rw [g4] at h
            dsimp only at h
            cases g5 : k d dx dv with
            | none => rw [g5] at h; exact h.elim
            | some d' =>
              rw [g5] at h
              have hc := of_getD g3 (fun z => nomatch z)
              obtain ⟨a, u0, e1, h1, n1, k1⟩ := w2.cell i _ _ hc hv0
              cases e1
              exact hr a u0 d u dx v dv d' H2 F2 _ w2.sub h1 n1 k1 (.of w2 l2 g4) (r1.mono s2) g5 fun H' F' u' st hu k' => h σ H' F' (w2.step hc hv0 st hu k') (((s1'.trans s1).trans s2).trans st.fz)
def cAug (k : Op2) (i : Nat) (c : CE) : CS := fun env => match env.getD i .emp with
  | .frz d0 => match c env with
    | .ok c1 env1 => match c1.val, isLck (env1.getD i .emp) with
      | some dv, false => match k d0 dv with
        | .val (.frz d) => .nx (env1.set i (.frz d))
        | _ => .no
      | _, _ => .no
    | .ex x env1 => .ex x env1
    | .no => .no
  | _ => .no

def tgGo : List Nat → List PyData → Cs → Option Cs
  | [], [], env => some env
  | i :: is, d :: ds, env => match isLck (env.getD i .emp) with
    | true => none
    | false => tgGo is ds (env.set i (.frz d))
  | _, _, _ => none
theorem tgGo_len : ∀ {is : List Nat} {ds : List PyData} {env env' : Cs}, tgGo is ds env = some env' → ds.length = is.length
  | [], [], _, _, _ => rfl
  | [], _ :: _, _, _, p => nomatch p
  | _ :: _, [], _, _, p => nomatch p
  | i :: is, d :: ds, env, env', p => by
    unfold tgGo at p
    cases g : isLck (env.getD i .emp) with
    | true => rw [g] at p; cases p
    | false => rw [g] at p; rw [List.length_cons, List.length_cons, tgGo_len p]
inductive Tg where
  | one (i : Nat)
  | many (is : List Nat)
  | nest (i : Nat) (is : List Nat)
def Tg.put : Tg → PyData → Cs → Option Cs
  | .one i, d, env => match isLck (env.getD i .emp) with
    | true => none
    | false => some (env.set i (.frz d))
  | .many is, .tuple ds, env => tgGo is ds env
  | .many _, _, _ => none
  | .nest i is, .tuple [d, .tuple ds], env => match isLck (env.getD i .emp) with
    | true => none
    | false => tgGo is ds (env.set i (.frz d))
  | .nest _ _, _, _ => none
def Tg.slots : Tg → List Nat
  | .one i => [i]
  | .many is => is
  | .nest i is => i :: is
def Off (is : List Nat) (σ σ' : St) : Prop := σ'.length = σ.length ∧ ∀ j, j ∉ is → σ'[j]? = σ[j]?
theorem Off.refl (is : List Nat) (σ : St) : Off is σ σ := ⟨rfl, fun _ _ => rfl⟩
theorem Off.set {is : List Nat} {σ σ' : St} {i : Nat} {x : Option V} (h : Off is (σ.set i x) σ') : Off (i :: is) σ σ' :=
  ⟨by rw [h.1, List.length_set], fun j hj => by
    rw [h.2 j (fun z => hj (List.mem_cons_of_mem _ z)), List.getElem?_set_ne (fun z => hj (by rw [z]; exact List.mem_cons_self))]⟩
def DG (X : Cx) (ex : Expr) (g : Tg) (t : TG) : Prop := PG X ex t ∧ ∀ e σ H F env env' v d Q, Wl X.K e σ H F env → RD X.K F v d → g.put d env = some env' → (∀ σ', Wl X.K e σ' H F env' → Off g.slots σ σ' → Q σ' H) → t v σ H Q
theorem dg_name {i : Nat} {x : Str} {pos : Pos} (hN : X.N.Nodup) (hi : X.N[i]? = some x) (hx : Loc X.env.scope x) (hf : X.fn x = true ∨ X.env.scope.names.lookup x = some .local := by first | exact .inl rfl | exact .inr rfl | assumption) :
    DG X (.Name x pos) (.one i) (gName i) := by
  refine ⟨pg_name hN hi hx hf, fun e σ H F env env' v d Q w r p q => ?_⟩
  unfold Tg.put at p
  dsimp only at p
  cases g : isLck (env.getD i .emp) with
  | true => rw [g] at p; cases p
  | false => rw [g] at p; cases p; exact q _ (w.putF (nolck w g) r) (Off.set (Off.refl [] _))
inductive DGs (X : Cx) : List Expr → List Nat → TGs → Prop
  | nil : DGs X [] [] gNil
  | cons {ex : Expr} {es : List Expr} {i : Nat} {is : List Nat} {u : TGs} : PG X ex (gName i) → DGs X es is u → ((assignEach (ex :: es) X.env).map (·.2) = assign ex X.env :: (assignEach es X.env).map (·.2)) → DGs X (ex :: es) (i :: is) (gCons (gName i) u)
theorem DGs.pg : ∀ {es : List Expr} {is : List Nat} {u : TGs}, DGs X es is u → PGs X es u
  | _, _, _, .nil => pgs_nil
  | _, _, _, .cons a b h => pgs_cons a b.pg h
theorem DGs.run : ∀ {es : List Expr} {is : List Nat} {u : TGs}, DGs X es is u → ∀ {e : Ent} {σ : St} {H F : Hp} {env env' : Cs} {vs : List V} {ds : List PyData} {Q : St → Hp → Prop}, Wl X.K e σ H F env → RDs X.K F vs ds → tgGo is ds env = some env' →
    (∀ σ', Wl X.K e σ' H F env' → Off is σ σ' → Q σ' H) → u vs σ H Q
  | _, _, _, .nil, e, σ, H, F, env, env', vs, ds, Q, w, r, p, q => by
    cases r with
    | nil => cases p; exact ⟨rfl, q _ w (.refl _ _)⟩
    | cons _ _ => cases p
  | _, _, _, .cons (i := i) (is := is) a b h, e, σ, H, F, env, env', vs, ds, Q, w, r, p, q => by
    cases r with
    | nil => cases p
    | cons r1 r2 =>
      unfold tgGo at p
      cases g : isLck (env.getD i .emp) with
      | true => rw [g] at p; cases p
      | false => rw [g] at p; exact ⟨_, _, rfl, b.run (w.putF (nolck w g) r1) r2 p fun σ' w' o => q σ' w' o.set⟩
theorem dg_tup {es : List Expr} {is : List Nat} {k : Nat} {t : TGs} {n : Nat} {pos : Pos} (hc : X.calm = true) (h : DGs X es is t) (hl : is.length = n := by rfl) (hn : (assignEach es X.env).length = n := by rfl) (hst : (assignEach es X.env).findIdx? (·.1) = none := by rfl) :
    DG X (.Tuple es k pos) (.many is) (gTup X.K n t) := by
  refine ⟨pg_tup hc h.pg hn hst, fun e σ H F env env' v d Q w r p q => ?_⟩
  cases d with
  | tuple ds =>
    cases r with
    | tup s r =>
      rename_i a vs
      exact ⟨a, vs, rfl, .inl (.inl (w.sub.tp _ _ s)), by rw [r.length, tgGo_len p, hl], h.run w r p q⟩
  | _ => cases p
end
end DL

namespace DL
open PySem L2
section
variable {K : PySem.W.Frag} {e : Ent} {σ : St} {H F H' F' : Hp} {env env' : Cs}

def ItOk (K : PySem.W.Frag) (J : It) (items : List PyData) (e : Ent) (F₁ : Hp) : Prop := ∀ σ H F env, Wl K e σ H F env → Sub F₁ F → ∀ i,
  (∀ d, items[i]? = some d → J.go i H ∧ ∀ x H', J.yld i H x H' → ∃ F', Grow H F H' F' ∧ RD K F' x d) ∧ (items.length = i → J.stop i H)
def PostI (K : PySem.W.Frag) (xp : XP) (W : WX) (e : Ent) (σ : St) (F : Hp) (R : It → Hp → Prop) : Res (List PyData) → Prop
  | .ok items env => ∀ J H' F', Wl K e σ H' F' env → Sub F F' → ItOk K J items e F' → items.length ≤ sizeLine → R J H'
  | .ex x env => ∀ H' F' cls d, Wl K e σ H' F' env → Sub F F' → xp x cls d H' → W cls d σ H'
  | .no => False
abbrev CI := Cs → Res (List PyData)
def DI (X : Cx) (xp : XP) (W : WX) (tg iter : Expr) (c : CI) (wi : TI) : Prop :=
  PI X tg iter wi ∧ ∀ e σ H F env R, Wl X.K e σ H F env → PostI X.K xp W e σ F R (c env) → wi σ H R
def seqOf : PyData → Option (List PyData)
  | .list ds => some ds
  | .tuple ds => some ds
  | _ => none
def iSeq (c : CE) : CI := fun env => (c env).bind fun c env1 => match c.val with
  | some d => match seqOf d with
    | some ds => .ok ds env1
    | none => .no
  | none => .no
def Fact (K : PySem.W.Frag) (H : Hp) : Prop := (∀ a xs, SqL K H a xs → xs.length ≤ sizeLine) ∧ ∀ a xs, SqT K H a xs → xs.length ≤ sizeLine
theorem fact_of {X : Cx} {pins : List (Addr × Obj)} {σ : St} {H : Hp} {s : Shared} (I : Inv X pins σ H s) : Fact X.K H := by
  refine ⟨fun a xs h => ?_, fun a xs h => ?_⟩
  · obtain ⟨its, rv, p, hz⟩ := I.list h
    first | exact hz | (rw [rv.length]; exact hz) | (rw [← rv.length] at hz; exact hz) | (have := rv.length; simp at hz this; omega)
  · obtain ⟨its, rv, p, hz⟩ := I.tuple h
    first | exact hz | (rw [rv.length]; exact hz) | (rw [← rv.length] at hz; exact hz) | (have := rv.length; simp at hz this; omega)
theorem PI.fact {X : Cx} {tg iter : Expr} {wi : TI} (h : PI X tg iter wi) : PI X tg iter (fun σ H R => wi σ H fun J H1 => Fact X.K H1 → R J H1) :=
  ⟨fun pins s σ H R I hw => thn (h.run pins s σ H _ I hw) fun v s1 q => thn q fun itv s2 ⟨it, fp, tn, J, H', e, I', T, t0, fo, r⟩ => ⟨it, fp, tn, J, H', e, I', T, t0, fo, r (fact_of I')⟩⟩
theorem PI.or {X : Cx} {tg iter : Expr} {w1 w2 : TI} (h1 : PI X tg iter w1) (h2 : PI X tg iter w2) : PI X tg iter (fun σ H R => w1 σ H R ∨ w2 σ H R) :=
  ⟨fun pins s σ H R I h => h.elim (h1.run pins s σ H R I) (h2.run pins s σ H R I)⟩
end
section
variable {X : Cx} {xp : XP} {W : WX}
theorem itl_ok {e : Ent} {F₁ : Hp} {a : Addr} {vs : List V} {ds : List PyData} {K : PySem.W.Frag} (h : SqL K F₁ a vs) (r : RDs K F₁ vs ds) : ItOk K (Itl K a) ds e F₁ := by
  intro σ H F env w s i
  have hH : SqL K H a vs := w.sub.sqL (s.sqL h)
  refine ⟨fun d hd => ?_, fun hl => ⟨vs, hH, by rw [r.length]; exact Nat.le_of_eq hl⟩⟩
  obtain ⟨v, hv, rv⟩ := r.get' hd
  refine ⟨⟨vs, v, hH, hv⟩, fun x H' y => ?_⟩
  obtain ⟨rfl, f⟩ := y
  have ev := (f vs hH).symm.trans hv
  cases ev
  exact ⟨F, .refl w.sub, rv.mono s⟩
theorem itt_ok {e : Ent} {F₁ : Hp} {a : Addr} {vs : List V} {ds : List PyData} {K : PySem.W.Frag} (h : SqT K F₁ a vs) (r : RDs K F₁ vs ds) : ItOk K (Itt K a) ds e F₁ := by
  intro σ H F env w s i
  have hH : SqT K H a vs := w.sub.sqT (s.sqT h)
  refine ⟨fun d hd => ?_, fun hl => ⟨vs, hH, by rw [r.length]; exact Nat.le_of_eq hl⟩⟩
  obtain ⟨v, hv, rv⟩ := r.get' hd
  refine ⟨⟨vs, v, hH, hv⟩, fun x H' y => ?_⟩
  obtain ⟨rfl, f⟩ := y
  have ev := (f vs hH).symm.trans hv
  cases ev
  exact ⟨F, .refl w.sub, rv.mono s⟩
theorem di_seq {tg iter : Expr} {c : CE} {t : TE} (h : DE X xp W iter c t) : DI X xp W tg iter (iSeq c) (fun σ H R => iList X.K t σ H (fun J H1 => Fact X.K H1 → R J H1) ∨ iTup X.K t σ H (fun J H1 => Fact X.K H1 → R J H1)) := by
  refine ⟨PI.or (PI.fact (pi_list h.1)) (PI.fact (pi_tup h.1)), fun e σ H F env R w p => ?_⟩
  unfold iSeq at p
  cases g : c env with
  | no => rw [g] at p; exact p.elim
  | ex x env1 =>
    rw [g] at p
    exact .inl (h.2 e σ H F env _ w (by rw [g]; exact p))
  | ok c1 env1 =>
    rw [g] at p; simp only [Res.bind] at p
    cases g2 : c1.val with
    | none => rw [g2] at p; exact p.elim
    | some d =>
      rw [g2] at p; dsimp only at p
      cases g3 : seqOf d with
      | none => rw [g3] at p; exact p.elim
      | some ds =>
        rw [g3] at p
        cases d with
        | list ds' =>
          cases g3
          refine .inl (h.2 e σ H F env _ w ?_)
          rw [g]
          intro v H' F' w' s r
          obtain ⟨F2, d2, e2, w2, s2, r2⟩ := r.freeze w'
          rw [g2] at e2; cases e2
          cases r2 with
          | lst q rs => exact ⟨_, rfl, ⟨_, w2.sub.sqL (.inl q)⟩, fun ff => p _ H' F2 w2 (s.trans s2) (itl_ok (.inl q) rs) (by rw [← rs.length]; exact ff.1 _ _ (w2.sub.sqL (.inl q)))⟩
        | tuple ds' =>
          cases g3
          refine .inr (h.2 e σ H F env _ w ?_)
          rw [g]
          intro v H' F' w' s r
          obtain ⟨F2, d2, e2, w2, s2, r2⟩ := r.freeze w'
          rw [g2] at e2; cases e2
          cases r2 with
          | tup q0 rs => exact (fun q : SqT X.K F2 _ _ => ⟨_, rfl, ⟨_, w2.sub.sqT q⟩, fun ff => p _ H' F2 w2 (s.trans s2) (itt_ok q rs) (by rw [← rs.length]; exact ff.2 _ _ (w2.sub.sqT q))⟩) (.inl (.inl q0))
        | none => cases g3
        | bool b => cases g3
        | int b => cases g3
        | str b => cases g3
        | dict b => cases g3
def rgD (lo : Int) (n : Nat) : List PyData := (List.range n).map fun i => .int (lo + (i : Nat))
theorem rgD_len (lo : Int) (n : Nat) : (rgD lo n).length = n := by unfold rgD; simp
theorem rgD_get (lo : Int) (n i : Nat) : (rgD lo n)[i]? = if i < n then some (.int (lo + (i : Nat))) else none := by
  unfold rgD
  rw [List.getElem?_map]
  by_cases h : i < n
  · rw [List.getElem?_range h, if_pos h]; rfl
  · rw [if_neg h, List.getElem?_eq_none (by simp; omega)]; rfl
theorem itr_ok {K : PySem.W.Frag} {e : Ent} {F₁ : Hp} (lo : Int) (n : Nat) : ItOk K (Itr lo n) (rgD lo n) e F₁ := by
  intro σ H F env w s i
  refine ⟨fun d hd => ?_, fun hl => by rw [rgD_len] at hl; exact Nat.le_of_eq hl⟩
  rw [rgD_get] at hd
  by_cases h : i < n
  · rw [if_pos h] at hd; cases hd
    refine ⟨h, fun x H' y => ?_⟩
    obtain ⟨rfl, rfl⟩ := y
    exact ⟨F, .refl w.sub, .int _⟩
  · rw [if_neg h] at hd; cases hd
def rg1 : List PyData → Option (List PyData)
  | [.int n] => if -1000000 ≤ n ∧ n ≤ 1000000 then some (rgD 0 n.toNat) else none
  | _ => none
def rg2 : List PyData → Option (List PyData)
  | [.int a, .int n] => if (-1000000 ≤ a ∧ a ≤ 1000000) ∧ -1000000 ≤ n ∧ n ≤ 1000000 then some (rgD a (n - a).toNat) else none
  | _ => none
def iArgs (k : List PyData → Option (List PyData)) (os : List Opd) : CI := fun env => (evs os env).bind fun ls env1 => match gets env1 ls with
  | none => .no
  | some ds => match k ds with
    | some items => .ok items env1
    | none => .no
theorem iArgs_run {es : List Expr} {os : List Opd} {ta : TA} {k : List PyData → Option (List PyData)} {wr : (It → Hp → Prop) → List V → Hp → Prop} (ha : DA X xp W es os ta)
    (hk : ∀ R vs ds items e σ H F env, Wl X.K e σ H F env → RBs X.K H F vs ds → k ds = some items → (∀ J F', Sub F F' → Wl X.K e σ H F' env → ItOk X.K J items e F' → items.length ≤ sizeLine → R J H) → wr R vs H)
    {e : Ent} {σ : St} {H F : Hp} {env : Cs} {R : It → Hp → Prop} (w : Wl X.K e σ H F env) (p : PostI X.K xp W e σ F R (iArgs k os env)) : ta σ H (fun vs H1 => wr R vs H1) := by
  refine ha.2 e σ H F env _ w ?_
  unfold iArgs at p
  cases g : evs os env with
  | no => rw [g] at p; exact p
  | ex x env1 => rw [g] at p; exact p
  | ok ls env1 =>
    rw [g] at p; simp only [Res.bind] at p
    intro vs H' F' w' s q
    cases g2 : gets env1 ls with
    | none => rw [g2] at p; exact p.elim
    | some ds =>
      rw [g2] at p; dsimp only at p
      cases g3 : k ds with
      | none => rw [g3] at p; exact p.elim
      | some items =>
        rw [g3] at p
        exact hk R vs ds items e σ H' F' env1 w' (.of w' q g2) g3 fun J F2 s2 w2 it hz => p J H' F2 w2 (s.trans s2) it hz
theorem RBs.one {K : PySem.W.Frag} {H F : Hp} {vs : List V} {d : PyData} (h : RBs K H F vs [d]) : ∃ v, vs = [v] ∧ RB K H F v d := by
  cases h with | cons a b => cases b; exact ⟨_, rfl, a⟩
theorem RBs.two {K : PySem.W.Frag} {H F : Hp} {vs : List V} {d d' : PyData} (h : RBs K H F vs [d, d']) : ∃ v v', vs = [v, v'] ∧ RB K H F v d ∧ RB K H F v' d' := by
  cases h with | cons a b => cases b with | cons c e => cases e; exact ⟨_, _, rfl, a, c⟩
theorem di_range1 {tg a : Expr} {p pos : Pos} {os : List Opd} {ta : TA} (hg : Gl X "range") (hm : X.mg "range" = none) (ha : DA X xp W [a] os ta) (hs : starEach [a] X.env = [(false, eval a X.env)] := by rfl) :
    DI X xp W tg (.Call (.Name "range" p) [a] [] pos) (iArgs rg1 os) (iRng1 ta) := by
  refine ⟨pi_range1 hg hm ha.1 hs, fun e σ H F env R w q => ?_⟩
  refine iArgs_run (wr := fun R vs H1 => ∃ j : Int, vs = [.int j] ∧ -(2 ^ 62) ≤ j ∧ j < 2 ^ 62 ∧ R (Itr 0 j.toNat) H1) ha (fun R vs ds items e σ H F env w r k h => ?_) w q
  unfold rg1 at k
  split at k
  · rename_i n
    obtain ⟨v, rfl, rv⟩ := r.one
    split at k
    · rename_i hn
      cases k
      exact ⟨n, by rw [rv.int], by omega, by omega, h _ F (.refl _) w (itr_ok 0 n.toNat) (by rw [rgD_len]; exact Nat.le_trans (show n.toNat ≤ 1000000 by omega) (by decide))⟩
    · cases k
  · cases k
theorem di_range2 {tg a b : Expr} {p pos : Pos} {os : List Opd} {ta : TA} (hg : Gl X "range") (hm : X.mg "range" = none) (ha : DA X xp W [a, b] os ta) (hs : starEach [a, b] X.env = [(false, eval a X.env), (false, eval b X.env)] := by rfl) (hs2 : starEach [b] X.env = [(false, eval b X.env)] := by rfl) :
    DI X xp W tg (.Call (.Name "range" p) [a, b] [] pos) (iArgs rg2 os) (iRng2 ta) := by
  refine ⟨pi_range2 hg hm ha.1 hs hs2, fun e σ H F env R w q => ?_⟩
  refine iArgs_run (wr := fun R vs H1 => ∃ i j : Int, vs = [.int i, .int j] ∧ (-(2 ^ 62) ≤ i ∧ i < 2 ^ 62 ∧ -(2 ^ 62) ≤ j ∧ j < 2 ^ 62) ∧ R (Itr i (j - i).toNat) H1) ha (fun R vs ds items e σ H F env w r k h => ?_) w q
  unfold rg2 at k
  split at k
  · rename_i a n
    obtain ⟨v, v', rfl, rv, rv'⟩ := r.two
    split at k
    · rename_i hn
      cases k
      exact ⟨a, n, by rw [rv.int, rv'.int], ⟨by omega, by omega, by omega, by omega⟩, h _ F (.refl _) w (itr_ok a (n - a).toNat) (by rw [rgD_len]; exact Nat.le_trans (show (n - a).toNat ≤ 2000000 by omega) (by decide))⟩
    · cases k
  · cases k

def forL (g : Tg) (body : CS) : List PyData → CS
  | [], env => .nx env
  | d :: ds, env => match g.put d env with
    | none => .no
    | some env1 => match body env1 with
      | .nx env2 => forL g body ds env2
      | .ct env2 => forL g body ds env2
      | .bk env2 => .nx env2
      | .rt c env2 => .rt c env2
      | .ex x env2 => .ex x env2
      | .no => .no
theorem body_end {K : PySem.W.Frag} {e : Ent} {F : Hp} {D : Ends} {N : St → Hp → Prop} {r : SRes} {k : CS} (h : SPost K xp W e F D (match r with
      | .nx env2 => k env2
      | .ct env2 => k env2
      | .bk env2 => .nx env2
      | .rt c env2 => .rt c env2
      | .ex x env2 => .ex x env2
      | .no => .no))
    (hN : ∀ env2 σ' H' F', SPost K xp W e F' D (k env2) → Wl K e σ' H' F' env2 → Sub F F' → N σ' H') : SPost K xp W e F { D with nx := N, ct := N, bk := D.nx } r := by
  cases r with
  | nx env2 => exact fun σ' H' F' w s => hN env2 σ' H' F' (SPost.subs s h) w s
  | ct env2 => exact fun σ' H' F' w s => hN env2 σ' H' F' (SPost.subs s h) w s
  | bk env2 => exact h
  | rt c env2 => exact h
  | ex x env2 => exact h
  | no => exact h
theorem for_run {g : Tg} {tg : Expr} {gt : TG} {body : List Stmt} {cb : CS} {tb : TS} {J : It} {items : List PyData} (hg : DG X tg g gt) (hb : ∀ e σ H F env D, Wl X.K e σ H F env → SPost X.K xp W e F D (cb env) → tb D σ H)
    {e : Ent} {σ : St} {H F : Hp} {env : Cs} {D : Ends} (w : Wl X.K e σ H F env) (it : ItOk X.K J items e F) (h : SPost X.K xp W e F D (forL g cb items env)) :
    ∃ W : Nat → Nat → St → Hp → Prop, (∃ m, W 0 m σ H) ∧ ∀ i m σ H, W i m σ H →
    (J.stop i H ∧ D.nx σ H) ∨ (J.go i H ∧ ∃ N : St → Hp → Prop, (∀ σ' H', N σ' H' → ∃ m', m' < m ∧ W (i + 1) m' σ' H') ∧ ∀ x H', J.yld i H x H' → gt x σ H' fun σ2 H2 => tb { D with nx := N, ct := N, bk := D.nx } σ2 H2) := by
  refine ⟨fun i m σ H => m = items.length - i ∧ i ≤ items.length ∧ ∃ F1 env, Wl X.K e σ H F1 env ∧ Sub F F1 ∧ SPost X.K xp W e F1 D (forL g cb (items.drop i) env), ⟨items.length, rfl, Nat.zero_le _, F, env, w, .refl _, h⟩, fun i m σ H hw => ?_⟩
  obtain ⟨rfl, hi, F1, env1, w1, s1, h1⟩ := hw
  by_cases hl : i < items.length
  · have hd : items[i]? = some items[i] := List.getElem?_eq_getElem hl
    have ed : items.drop i = items[i] :: items.drop (i + 1) := List.drop_eq_getElem_cons hl
    obtain ⟨go, yl⟩ := (it σ H F1 env1 w1 s1 i).1 _ hd
    refine .inr ⟨go, fun σ' H' => items.length - (i + 1) = items.length - (i + 1) ∧ i + 1 ≤ items.length ∧ ∃ F1 env, Wl X.K e σ' H' F1 env ∧ Sub F F1 ∧ SPost X.K xp W e F1 D (forL g cb (items.drop (i + 1)) env), fun σ' H' hN => ⟨_, by omega, hN⟩, fun x H' y => ?_⟩
    obtain ⟨F2, gr, rx⟩ := yl x H' y
    rw [ed] at h1
    unfold forL at h1
    cases gp : g.put items[i] env1 with
    | none => rw [gp] at h1; exact h1.elim
    | some env2 =>
      rw [gp] at h1
      refine hg.2 e σ H' F2 env1 env2 x items[i] _ (w1.grow gr) rx gp fun σ2 w2 _ => ?_
      refine hb e σ2 H' F2 env2 _ w2 (body_end (SPost.subs gr.fz h1) fun env3 σ3 H3 F3 h3 w3 s3 => ⟨rfl, hl, F3, env3, w3, (s1.trans gr.fz).trans s3, h3⟩)
  · have e1 : i = items.length := Nat.le_antisymm hi (Nat.le_of_not_lt hl)
    refine .inl ⟨(it σ H F1 env1 w1 s1 i).2 (by omega), ?_⟩
    rw [e1, List.drop_length] at h1
    exact h1 σ H F1 w1 (.refl _)
def cFor (g : Tg) (ci : CI) (body : CS) : CS := fun env => match ci env with
  | .ok items env1 => forL g body items env1
  | .ex x env1 => .ex x env1
  | .no => .no
theorem ds_for {tg iter : Expr} {body : List Stmt} {g : Tg} {gt : TG} {ci : CI} {wi : TI} {cb : CS} {pos : Pos} (hp : PassesOwn (PySem.model X.prog X.w) X.A X.env X.xe) (hc : X.calm = true) (hi : DI X xp W tg iter ci wi) (hg : DG X tg g gt) (hb : DSs X xp W body cb)
    (hs : ∀ x, foldedSetIterable iter X.env x = pure x := by intro _; rfl) : DS X xp W (.For tg iter body [] pos) (cFor g ci cb) := by
  obtain ⟨tb, pb, qb⟩ := hb
  refine ⟨_, ps_for hp hc hi.1 hg.1 pb hs, fun e σ H F env D w h => hi.2 e σ H F env _ w ?_⟩
  unfold cFor at h
  cases gi : ci env with
  | no => rw [gi] at h; exact h
  | ex x env1 => rw [gi] at h; exact fun H' F' cls d w' s y => h σ H' F' cls d w' s y
  | ok items env1 =>
    rw [gi] at h
    intro J H' F' w' s it _
    exact for_run (body := body) hg qb w' it (SPost.subs s h)

def whileL (c : CT) (body : CS) : Nat → CS
  | 0, _ => .no
  | n + 1, env => match c env with
    | .ok true env1 => match body env1 with
      | .nx env2 => whileL c body n env2
      | .ct env2 => whileL c body n env2
      | .bk env2 => .nx env2
      | .rt c env2 => .rt c env2
      | .ex x env2 => .ex x env2
      | .no => .no
    | .ok false env1 => .nx env1
    | .ex x env1 => .ex x env1
    | .no => .no
end
end DL

namespace DL
open PySem L2
section
variable {K : PySem.W.Frag} {e : Ent} {σ σ' : St} {H F H' F' : Hp} {env env' : Cs}
def turnE (e : Ent) (σ : St) (H F : Hp) (env : Cs) : Ent := ⟨H, F, fun a => ∃ (j : Nat) (b : Bool) (d : PyData), env[j]? = some (.own b d) ∧ σ[j]? = some (some (.ref a)), e.pin, e.lk⟩
theorem Wl.enter (w : Wl K e σ H F env) : Wl K (turnE e σ H F env) σ H F env where
  len := w.len
  sub := w.sub
  cell := w.cell
  apart := w.apart
  keep := fun a o h _ => h
  new := fun a h => .inl h
  mine := fun i b d a h hx => .inr ⟨i, b, d, h, hx⟩
  pin := w.pin
  lk := w.lk
  lk2 := w.lk2
  pl := fun a h n => absurd n h
theorem Wl.old (w : Wl K e σ H F env) {a : Addr} (h : H a = none) : e.H₀ a = none ∨ e.P a := by
  by_cases p : e.P a
  · exact .inr p
  · refine .inl ?_
    cases z : e.H₀ a with
    | none => rfl
    | some o => rw [w.keep a o z p] at h; cases h
theorem Wl.leave (w : Wl K e σ H F env) (w' : Wl K (turnE e σ H F env) σ' H' F' env') : Wl K e σ' H' F' env' where
  len := w'.len
  sub := w'.sub
  cell := w'.cell
  apart := w'.apart
  keep := fun a o h np => w'.keep a o (w.keep a o h np) fun ⟨j, b, d, hc, hx⟩ => by
    rcases w.mine j b d a hc hx with y | y
    · rw [y] at h; cases h
    · exact np y
  new := fun a h => by
    rcases w'.new a h with y | y | ⟨j, b, d, hc, hx⟩
    · exact w.new a y
    · by_cases p : e.P a
      · exact .inr (.inr p)
      · exact .inr (.inl (w.newA p y))
    · rcases w.mine j b d a hc hx with z | z
      · exact .inr (.inl (.inl z))
      · exact .inr (.inr z)
  mine := fun i b d a hc hx => by
    rcases w'.mine i b d a hc hx with y | ⟨j, b2, d2, hc2, hx2⟩
    · exact w.old y
    · exact w.mine j b2 d2 a hc2 hx2
  pin := w'.pin
  lk := w'.lk
  lk2 := w'.lk2
  pl := fun a h n => by
    cases z : F a with
    | none => exact w'.pl a h z
    | some o =>
      have hF : F a ≠ none := by rw [z]; exact fun y => nomatch y
      obtain ⟨u, h1, p1⟩ := w.pl a hF n
      exact ⟨u, w'.keep a u h1 fun ⟨j, b, d, hc, hx⟩ => by
        obtain ⟨_, _, _, n1, _⟩ := mine_cont w hc rfl hx
        exact hF n1, p1⟩
theorem Wl.clear (w : Wl K e σ H F env) {i : Nat} (hk : e.lk i = none) : Wl K e (σ.set i none) H F (env.set i .emp) := by
  have hl : ∀ {j : Nat} {x : Option V}, (σ.set i none)[j]? = some x → (j = i ∧ x = none ∧ i < env.length) ∨ (j ≠ i ∧ σ[j]? = some x) := fun {j x} h => by
    by_cases z : i = j
    · subst z
      have hj : i < σ.length := by simpa using (List.getElem?_eq_some_iff.mp h).1
      rw [List.getElem?_set_self hj] at h
      exact .inl ⟨rfl, (Option.some.inj h).symm, by rw [← w.len]; exact hj⟩
    · rw [List.getElem?_set_ne z] at h; exact .inr ⟨fun y => z y.symm, h⟩
  refine ⟨by simp [w.len], w.sub, ?_, ?_, w.keep, w.new, ?_, ?_, ?_, ?_, w.pl⟩
  · intro j c' x h hx
    rcases hl hx with ⟨rfl, rfl, hi⟩ | ⟨n, hx⟩
    · rw [List.getElem?_set_self hi] at h; cases h; trivial
    · rw [List.getElem?_set_ne (Ne.symm n)] at h; exact w.cell j c' x h hx
  · intro j k c1 c2 a n h1 h2 m1 m2 x1 x2
    rcases hl x1 with ⟨rfl, e1, hi⟩ | ⟨n1, y1⟩
    · cases e1
    · rcases hl x2 with ⟨rfl, e2, hi⟩ | ⟨n2, y2⟩
      · cases e2
      · rw [List.getElem?_set_ne (Ne.symm n1)] at h1
        rw [List.getElem?_set_ne (Ne.symm n2)] at h2
        exact w.apart j k c1 c2 a n h1 h2 m1 m2 y1 y2
  · intro j b d a h hx
    rcases hl hx with ⟨rfl, e1, hi⟩ | ⟨n, hx⟩
    · cases e1
    · rw [List.getElem?_set_ne (Ne.symm n)] at h; exact w.mine j b d a h hx
  · intro j c' h hc'
    by_cases z : i = j
    · subst z
      have hi : i < env.length := by simpa using (List.getElem?_eq_some_iff.mp h).1
      rw [List.getElem?_set_self hi] at h; cases h
      rcases hc' with ⟨d, y⟩ | ⟨d, y⟩ <;> cases y
    · rw [List.getElem?_set_ne z] at h
      obtain ⟨v', h1, h2⟩ := w.pin j c' h hc'
      exact ⟨v', h1, by rw [List.getElem?_set_ne z]; exact h2⟩
  · intro j d h
    have q := w.lk j d h
    by_cases z : i = j
    · subst z; rw [hk] at h; cases h
    · rw [List.getElem?_set_ne z]; exact q
  · intro j d h
    by_cases z : i = j
    · subst z
      have hi : i < env.length := by simpa using (List.getElem?_eq_some_iff.mp h).1
      rw [List.getElem?_set_self hi] at h; cases h
    · rw [List.getElem?_set_ne z] at h; exact w.lk2 j d h
def wipeE (env : Cs) : List Nat → Cs
  | [] => env
  | v :: vs => (wipeE env vs).set v .emp
theorem Wl.wipe : ∀ {vs : List Nat}, (∀ v ∈ vs, e.lk v = none) → Wl K e σ H F env → Wl K e (L2.wipe σ vs) H F (wipeE env vs)
  | [], _, w => w
  | v :: vs, h, w => (Wl.wipe (fun u hu => h u (List.mem_cons_of_mem _ hu)) w).clear (h v List.mem_cons_self)
theorem wipe_get {σ : St} {j : Nat} : ∀ {vs : List Nat}, j ∉ vs → (L2.wipe σ vs)[j]? = σ[j]?
  | [], _ => rfl
  | v :: vs, h => by
    show ((L2.wipe σ vs).set v none)[j]? = _
    rw [List.getElem?_set_ne (fun z => h (by rw [z]; exact List.mem_cons_self)), wipe_get fun z => h (List.mem_cons_of_mem _ z)]
theorem wipeE_get {env : Cs} {j : Nat} : ∀ {vs : List Nat}, j ∉ vs → (wipeE env vs)[j]? = env[j]?
  | [], _ => rfl
  | v :: vs, h => by
    show ((wipeE env vs).set v .emp)[j]? = _
    rw [List.getElem?_set_ne (fun z => h (by rw [z]; exact List.mem_cons_self)), wipeE_get fun z => h (List.mem_cons_of_mem _ z)]
theorem wipe_in {σ : St} {j : Nat} : ∀ {vs : List Nat}, j ∈ vs → ∀ v, (L2.wipe σ vs)[j]? ≠ some (some v) := fun {vs} h v z => (wipe_some z).2 h
theorem wipe_off {σ σ2 : St} {is vs : List Nat} (o : Off is σ σ2) (h : ∀ i ∈ is, i ∈ vs) (e : σ = L2.wipe σ vs) : L2.wipe σ2 vs = σ := by
  apply List.ext_getElem?
  intro j
  by_cases z : j ∈ vs
  · rw [e]
    have len : (L2.wipe σ2 vs).length = (L2.wipe σ vs).length := by rw [wipe_length, wipe_length, o.1]
    have p : ∀ (τ : St), (L2.wipe τ vs)[j]? = if j < τ.length then some none else none := fun τ => by
      by_cases hj : j < τ.length
      · rw [if_pos hj]
        have hl : j < (L2.wipe τ vs).length := by rw [wipe_length]; exact hj
        rw [List.getElem?_eq_getElem hl]
        cases q : (L2.wipe τ vs)[j] with
        | none => rfl
        | some v => exact (wipe_in z v (by rw [List.getElem?_eq_getElem hl, q])).elim
      · rw [if_neg hj, List.getElem?_eq_none (by rw [wipe_length]; omega)]
    rw [p σ2, p σ, o.1]
  · rw [wipe_get z, o.2 j (fun y => z (h j y))]
theorem wipe_wipe (σ : St) (vs : List Nat) : L2.wipe σ vs = L2.wipe (L2.wipe σ vs) vs := by
  apply List.ext_getElem?
  intro j
  by_cases z : j ∈ vs
  · have p : ∀ (τ : St), (L2.wipe τ vs)[j]? = if j < τ.length then some none else none := fun τ => by
      by_cases hj : j < τ.length
      · rw [if_pos hj]
        have hl : j < (L2.wipe τ vs).length := by rw [wipe_length]; exact hj
        rw [List.getElem?_eq_getElem hl]
        cases q : (L2.wipe τ vs)[j] with
        | none => rfl
        | some v => exact (wipe_in z v (by rw [List.getElem?_eq_getElem hl, q])).elim
      · rw [if_neg hj, List.getElem?_eq_none (by rw [wipe_length]; omega)]
    rw [p σ, p, wipe_length]
  · rw [wipe_get z, wipe_get z, wipe_get z]

def backE (env1 : Cs) : List Nat → Cs → Cs
  | [], env => env
  | v :: vs, env => (backE env1 vs env).set v (env1.getD v .emp)
theorem backE_len {env1 : Cs} : ∀ {vs : List Nat} {env : Cs}, (backE env1 vs env).length = env.length
  | [], _ => rfl
  | v :: vs, env => by show ((backE env1 vs env).set v _).length = _; rw [List.length_set, backE_len]
theorem backE_out {env1 : Cs} {j : Nat} : ∀ {vs : List Nat} {env : Cs}, j ∉ vs → (backE env1 vs env)[j]? = env[j]?
  | [], _, _ => rfl
  | v :: vs, env, h => by
    show ((backE env1 vs env).set v _)[j]? = _
    rw [List.getElem?_set_ne (fun z => h (by rw [z]; exact List.mem_cons_self)), backE_out fun z => h (List.mem_cons_of_mem _ z)]
theorem backE_in {env1 : Cs} {j : Nat} : ∀ {vs : List Nat} {env : Cs}, j ∈ vs → j < env.length → (backE env1 vs env)[j]? = some (env1.getD j .emp)
  | [], _, h, _ => nomatch h
  | v :: vs, env, h, hl => by
    show ((backE env1 vs env).set v _)[j]? = _
    by_cases z : v = j
    · subst z; rw [List.getElem?_set_self (by rw [backE_len]; exact hl)]
    · rw [List.getElem?_set_ne z]
      refine backE_in ?_ hl
      cases h with
      | head => exact (z rfl).elim
      | tail _ h => exact h
theorem Wl.back {vs : List Nat} {H1 F1 : Hp} {env1 : Cs} (w1 : Wl K e σ H1 F1 env1) (hm : ∀ v ∈ vs, (env1.getD v .emp).mine = false) (s : Sub F1 F) (w : Wl K e (L2.wipe σ vs) H F env) : Wl K e σ H F (backE env1 vs env) := by
  have ll : env.length = env1.length := by rw [← w.len, wipe_length, w1.len]
  have hs : ∀ {j : Nat} {c : Cell}, (backE env1 vs env)[j]? = some c → (j ∈ vs ∧ env1[j]? = some c ∧ c.mine = false) ∨ (j ∉ vs ∧ env[j]? = some c) := fun {j c} h => by
    by_cases z : j ∈ vs
    · have hj : j < env.length := by rw [← backE_len (env1 := env1) (vs := vs)]; exact (List.getElem?_eq_some_iff.mp h).1
      rw [backE_in z hj] at h
      have h' := Option.some.inj h
      refine .inl ⟨z, ?_, by rw [← h']; exact hm j z⟩
      rw [← h', List.getD_eq_getElem?_getD, List.getElem?_eq_getElem (by rw [← ll]; exact hj)]; rfl
    · rw [backE_out z] at h; exact .inr ⟨z, h⟩
  refine ⟨by rw [backE_len, w1.len, ll], w.sub, ?_, ?_, w.keep, w.new, ?_, ?_, ?_, ?_, w.pl⟩
  · intro j c x h hx
    rcases hs h with ⟨z, h, m⟩ | ⟨z, h⟩
    · have q := w1.cell j c x h hx
      cases c with
      | emp => trivial
      | frz d => obtain ⟨v, e1, r⟩ := q; exact ⟨v, e1, r.mono s⟩
      | own b d => cases m
      | lck d => cases m
      | exc x => exact q.elim
    · exact w.cell j c x h (by rw [wipe_get z]; exact hx)
  · intro j k c1 c2 a n h1 h2 m1 m2 x1 x2
    rcases hs h1 with ⟨z, h, m⟩ | ⟨z, h⟩
    · rw [m] at m1; cases m1
    · rcases hs h2 with ⟨z2, h', m⟩ | ⟨z2, h'⟩
      · rw [m] at m2; cases m2
      · exact w.apart j k c1 c2 a n h h' m1 m2 (by rw [wipe_get z]; exact x1) (by rw [wipe_get z2]; exact x2)
  · intro j b d a h hx
    rcases hs h with ⟨z, h, m⟩ | ⟨z, h⟩
    · cases m
    · exact w.mine j b d a h (by rw [wipe_get z]; exact hx)
  · intro j c h hc
    rcases hs h with ⟨z, h, m⟩ | ⟨z, h⟩
    · rcases hc with ⟨d, rfl⟩ | ⟨d, rfl⟩ <;> cases m
    · obtain ⟨v, h1, h2⟩ := w.pin j c h hc
      exact ⟨v, h1, by rw [wipe_get z] at h2; exact h2⟩
  · intro j d h
    by_cases z : j ∈ vs
    · have q := w1.lk j d h
      have m := hm j z
      rw [getD_of q] at m; cases m
    · rw [backE_out z]; exact w.lk j d h
  · intro j d h
    rcases hs h with ⟨z, h, m⟩ | ⟨z, h⟩
    · cases m
    · exact w.lk2 j d h
theorem Wl.free (w : Wl K e σ H F env) {D : Addr} {o o' : HO} (h : H D = some o) (n : F D = none) (m : e.H₀ D = none ∨ e.P D) (no : ∀ (i : Nat) (c : Cell), env[i]? = some c → c.mine = true → σ[i]? ≠ some (some (.ref D))) : Wl K e σ (upd H D o') F env where
  len := w.len
  sub := by
    refine ⟨fun a u pl r => ?_, fun a q => ?_, fun a vs r => ?_⟩
    · have z : a ≠ D := fun z => by subst z; exact rd_dom r n
      exact rd_congr (upd_ne z).symm (w.sub.rd _ _ pl r)
    · have z : a ≠ D := fun z => by subst z; exact q n
      rw [upd_ne z]; exact w.sub.dom a q
    · have z : a ≠ D := fun z => by subst z; rw [n] at r; cases r
      rw [upd_ne z]; exact w.sub.tp a vs r
  cell := fun i c x hc hx => by
    have q := w.cell i c x hc hx
    cases c with
    | emp => trivial
    | frz d => exact q
    | own b d =>
      obtain ⟨a, u, e1, h1, n1, k1⟩ := q
      have z : a ≠ D := fun z => no i _ hc rfl (by rw [hx, e1, z])
      exact ⟨a, u, e1, by rw [upd_ne z]; exact h1, n1, k1⟩
    | lck d =>
      obtain ⟨a, u, e1, h1, n1, k1⟩ := q
      have z : a ≠ D := fun z => no i _ hc rfl (by rw [hx, e1, z])
      exact ⟨a, u, e1, by rw [upd_ne z]; exact h1, n1, k1⟩
    | exc x => exact q.elim
  apart := w.apart
  keep := fun a u q np => by
    have z : a ≠ D := fun z => by
      subst z
      rcases m with m | m
      · rw [m] at q; cases q
      · exact np m
    rw [upd_ne z]; exact w.keep a u q np
  new := w.new
  mine := w.mine
  pin := w.pin
  lk := w.lk
  lk2 := w.lk2
  pl := fun a q n0 => by
    have z : a ≠ D := fun z => by subst z; exact q n
    rw [upd_ne z]; exact w.pl a q n0
end

def compL (g : Tg) (ct : CT) (ce : CE) (vs : List Nat) : List PyData → Cs → Res (List PyData)
  | [], env => .ok [] env
  | d :: ds, env => match g.put d (wipeE env vs) with
    | none => .no
    | some env1 => match ct env1 with
      | .ok true env2 => match ce env2 with
        | .ok c env3 => match c.val with
          | some x => match compL g ct ce vs ds env3 with
            | .ok xs env4 => .ok (x :: xs) env4
            | _ => .no
          | none => .no
        | _ => .no
      | .ok false env2 => compL g ct ce vs ds env2
      | _ => .no
def anyMineS (env : Cs) : List Nat → Bool
  | [] => false
  | v :: vs => (env.getD v .emp).mine || anyMineS env vs
theorem anyMineS_no {env : Cs} : ∀ {vs : List Nat}, anyMineS env vs = false → ∀ v ∈ vs, (env.getD v .emp).mine = false
  | [], _, v, h => nomatch h
  | u :: vs, e, v, h => by
    unfold anyMineS at e
    rw [Bool.or_eq_false_iff] at e
    cases h with
    | head => exact e.1
    | tail _ h => exact anyMineS_no e.2 v h
def cComp (g : Tg) (ci : CI) (ct : CT) (ce : CE) (vs : List Nat) : CE := fun env => match ci env with
  | .ok items env1 => match anyMineS env1 vs with
    | true => .no
    | false => match compL g ct ce vs items env1 with
      | .ok xs env2 => .ok (.own false (.list xs)) (backE env1 vs env2)
      | _ => .no
  | .ex x env1 => .ex x env1
  | .no => .no
def WF : WX := fun _ _ _ _ => False
def tYesC : CT := fun env => .ok true env
section
variable {X : Cx} {xp : XP} {W : WX}
def DTs (X : Cx) (xp : XP) (W : WX) (ifs : List Expr) (c : CT) (t : TT) : Prop :=
  PTs X ifs t ∧ ∀ e σ H F env Q, Wl X.K e σ H F env → PostT X.K xp W e σ F Q (c env) → t σ H Q
theorem dts_nil : DTs X xp W [] tYesC tYes := ⟨pts_nil, fun e σ H F env Q w h => h H F w (.refl _)⟩
theorem dts_one {c : Expr} {cc : CT} {t : TT} (h : DT X xp W c cc t) : DTs X xp W [c] cc t := ⟨pts_one h.1, h.2⟩
theorem comp_run {tg : Expr} {g : Tg} {gt : TG} {ct : CT} {tt : TT} {ce : CE} {te : TE} {vs : List Nat} {J : It} {items : List PyData} {D : Addr} {Q : VK} {xp' : XP}
    (hg : ∀ e σ H F env env' v d Q, Wl X.K e σ H F env → RD X.K F v d → g.put d env = some env' → (∀ σ', Wl X.K e σ' H F env' → Off g.slots σ σ' → Q σ' H) → gt v σ H Q) (hgs : ∀ i ∈ g.slots, i ∈ vs)
    (ht : ∀ e σ H F env Q, Wl X.K e σ H F env → PostT X.K xp' WF e σ F Q (ct env) → tt σ H Q) (he : ∀ e σ H F env Q, Wl X.K e σ H F env → Post X.K xp' WF e σ F Q (ce env) → te σ H Q)
    {e : Ent} {σ : St} {H F : Hp} {env env2 : Cs} {xs : List PyData} (w : Wl X.K e σ H F env) (it : ItOk X.K J items e F) (hz : items.length ≤ sizeLine) (hD : H D = none) (hm : ∀ v ∈ vs, (env.getD v .emp).mine = false) (hc : compL g ct ce vs items env = .ok xs env2)
    (hQ : ∀ H' F', Wl X.K e σ H' F' (backE env vs env2) → Sub F F' → H' D = some (.lst []) ∨ True → ∀ vx, H' D = some (.lst vx) → F' D = none → RDs X.K F' vx xs → (∀ (i : Nat) (c : Cell), (backE env vs env2)[i]? = some c → c.mine = true → σ[i]? ≠ some (some (.ref D))) → Q (.ref D) H') :
    ∃ W : Nat → Nat → Hp → Prop, (∃ m, W 0 m (upd H D (.lst []))) ∧ ∀ i m H, W i m H →
      (J.stop i H ∧ Q (.ref D) H) ∨ (J.go i H ∧ ∃ Nx : Hp → Prop, (∀ H', Nx H' → ∃ m', m' < m ∧ W (i + 1) m' H') ∧ ∀ x H', J.yld i H x H' → gt x (wipe σ vs) H' fun σ2 H2 => wipe σ2 vs = wipe σ vs ∧ tt σ2 H2 fun b H3 =>
        if b = true then te σ2 H3 fun y H4 => ∃ acc, H4 D = some (.lst acc) ∧ acc.length < sizeLine ∧ Nx (upd H4 D (.lst (acc ++ [y]))) else Nx H3) := by
  have lkn : ∀ v ∈ vs, e.lk v = none := fun v hv => w.lkn fun d z => by
    have := hm v hv
    rw [getD_of z] at this; cases this
  -- what stands at each turn
  let Inv : Nat → Hp → Prop := fun i H1 => ∃ F1 env1 acc vacc rest, Wl X.K e (wipe σ vs) H1 F1 (wipeE env1 vs) ∧ Sub F F1 ∧ H1 D = some (.lst vacc) ∧ F1 D = none ∧ (∀ (j : Nat) (c : Cell), (wipeE env1 vs)[j]? = some c → c.mine = true → (wipe σ vs)[j]? ≠ some (some (.ref D))) ∧ RDs X.K F1 vacc acc ∧ vacc.length ≤ i ∧
    compL g ct ce vs (items.drop i) env1 = .ok rest env2 ∧ acc ++ rest = xs
  have old : e.H₀ D = none ∨ e.P D := w.old hD
  have step : ∀ {i H1}, Inv i H1 → i ≤ items.length → (J.stop i H1 ∧ Q (.ref D) H1 ∧ i = items.length) ∨ (i < items.length ∧ J.go i H1 ∧ ∀ x H', J.yld i H1 x H' → gt x (wipe σ vs) H' fun σ2 H2 => wipe σ2 vs = wipe σ vs ∧ tt σ2 H2 fun b H3 =>
        if b = true then te σ2 H3 fun y H4 => ∃ acc, H4 D = some (.lst acc) ∧ acc.length < sizeLine ∧ Inv (i + 1) (upd H4 D (.lst (acc ++ [y]))) else Inv (i + 1) H3) := by
    intro i H1 hI hi
    obtain ⟨F1, env1, acc, vacc, rest, w1, s1, d1, n1, no1, r1, l1, c1, ex⟩ := hI
    by_cases hl : i < items.length
    · refine .inr ⟨hl, ?_⟩
      have hd : items[i]? = some items[i] := List.getElem?_eq_getElem hl
      have ed : items.drop i = items[i] :: items.drop (i + 1) := List.drop_eq_getElem_cons hl
      obtain ⟨go, yl⟩ := (it _ H1 F1 _ w1 s1 i).1 _ hd
      refine ⟨go, fun x H' y => ?_⟩
      obtain ⟨F2, gr, rx⟩ := yl x H' y
      have w2 := w1.grow gr
      rw [ed] at c1
      unfold compL at c1
      cases gp : g.put items[i] (wipeE env1 vs) with
      | none => rw [gp] at c1; cases c1
      | some envA =>
        rw [gp] at c1
        dsimp only at c1
        have dD : H' D = some (.lst vacc) := gr.ex _ _ d1
        have n2 : F2 D = none := by
          cases z : F2 D with
          | none => rfl
          | some o => rcases gr.new D (by rw [z]; exact fun y => nomatch y) with y | y
                      · exact absurd n1 y
                      · exact (y.no d1 trivial).elim
        refine hg (turnE e (wipe σ vs) H' F2 (wipeE env1 vs)) (wipe σ vs) H' F2 (wipeE env1 vs) envA x items[i] _ w2.enter rx gp fun σ2 w3 o => ?_
        have ew : wipe σ2 vs = wipe σ vs := wipe_off o hgs (wipe_wipe σ vs)
        refine ⟨ew, ht _ σ2 H' F2 envA _ w3 ?_⟩
        -- D lives through the turn
        have live : ∀ {σ' H3 F3 env3}, Wl X.K (turnE e (wipe σ vs) H' F2 (wipeE env1 vs)) σ' H3 F3 env3 → H3 D = some (.lst vacc) ∧ F3 D = none ∧ (∀ (j : Nat) (b : Bool) (d : PyData), env3[j]? = some (.own b d) → σ'[j]? ≠ some (some (.ref D))) := by
          intro σ' H3 F3 env3 w4
          have nP : ¬ (turnE e (wipe σ vs) H' F2 (wipeE env1 vs)).P D := fun ⟨j, b, d, hc, hx⟩ => no1 j _ hc rfl hx
          refine ⟨w4.keep D _ dD nP, ?_, fun j b d hc hx => ?_⟩
          · cases z : F3 D with
            | none => rfl
            | some o2 => rcases w4.new D (by rw [z]; exact fun y => nomatch y) with y | y | y
                         · exact absurd n2 y
                         · exact (NewA.no (H := H') y dD trivial).elim
                         · exact (nP y).elim
          · rcases w4.mine j b d D hc hx with y | y
            · have y' : H' D = none := y
              rw [dD] at y'; cases y'
            · exact nP y
        -- the next turn
        have next : ∀ {H3 F3 env3 rest3}, Wl X.K (turnE e (wipe σ vs) H' F2 (wipeE env1 vs)) σ2 H3 F3 env3 → Sub F2 F3 → compL g ct ce vs (items.drop (i + 1)) env3 = .ok rest3 env2 → ∀ {vacc' acc'}, RDs X.K F3 vacc' acc' → vacc'.length ≤ i + 1 → acc' ++ rest3 = xs →
            Inv (i + 1) (upd H3 D (.lst vacc')) := by
          intro H3 F3 env3 rest3 w4 s4 c4 vacc' acc' r4 l4 e4
          obtain ⟨dD3, n3, no3⟩ := live w4
          have wl := w2.leave w4
          have ww := Wl.wipe lkn wl
          rw [ew] at ww
          have no4 : ∀ (j : Nat) (c : Cell), (wipeE env3 vs)[j]? = some c → c.mine = true → (wipe σ vs)[j]? ≠ some (some (.ref D)) := by
            intro j c hc hmn hx
            have hj : j ∉ vs := fun z => wipe_in z _ hx
            rw [wipeE_get hj] at hc
            have hx2 : σ2[j]? = some (some (.ref D)) := by rw [← wipe_get (vs := vs) hj, ew]; exact hx
            cases c with
            | own b d => exact no3 j b d hc hx2
            | lck d =>
              have q := w4.lk2 j d hc
              have q1 := w1.lk j d q
              exact no1 j _ q1 rfl hx
            | emp => cases hmn
            | frz d => cases hmn
            | exc x => cases hmn
          exact ⟨F3, env3, acc', vacc', rest3, ww.free dD3 n3 old no4, (s1.trans gr.fz).trans s4, upd_same, n3, no4, r4, l4, c4, e4⟩
        cases gt1 : ct envA with
        | no => rw [gt1] at c1; cases c1
        | ex x env3 => rw [gt1] at c1; cases c1
        | ok b envB =>
          rw [gt1] at c1
          intro H3 F3 w4 s4
          cases b with
          | false =>
            dsimp only at c1
            obtain ⟨dD3, _, _⟩ := live w4
            have q := next w4 s4 c1 (vacc' := vacc) (r1.mono (gr.fz.trans s4)) (Nat.le_succ_of_le l1) ex
            have e5 : upd H3 D (.lst vacc) = H3 := by
              funext a
              by_cases z : a = D
              · subst z; rw [upd_same, dD3]
              · rw [upd_ne z]
            rw [e5] at q
            exact iteF q
          | true =>
            dsimp only at c1
            refine iteT (he _ σ2 H3 F3 envB _ w4 ?_)
            cases ge : ce envB with
            | no => rw [ge] at c1; cases c1
            | ex x env3 => rw [ge] at c1; cases c1
            | ok c envC =>
              rw [ge] at c1
              dsimp only at c1
              intro y H4 F4 w5 s5 rc
              obtain ⟨F5, d, ev, w6, s6, rd⟩ := rc.freeze w5
              rw [ev] at c1
              dsimp only at c1
              cases gr2 : compL g ct ce vs (items.drop (i + 1)) envC with
              | no => rw [gr2] at c1; cases c1
              | ex x env3 => rw [gr2] at c1; cases c1
              | ok rest3 env4 =>
                rw [gr2] at c1
                cases c1
                obtain ⟨dD4, _, _⟩ := live w6
                refine ⟨vacc, dD4, Nat.lt_of_le_of_lt l1 (Nat.lt_of_lt_of_le hl hz), ?_⟩
                refine next w6 ((s4.trans s5).trans s6) gr2 (acc' := acc ++ [d]) ((r1.mono (((gr.fz.trans s4).trans s5).trans s6)).append (.one rd)) (by rw [List.length_append]; simpa using l1) ?_
                rw [List.append_assoc]; exact ex
    · have e1 : i = items.length := Nat.le_antisymm hi (Nat.le_of_not_lt hl)
      refine .inl ⟨(it _ H1 F1 _ w1 s1 i).2 (by omega), ?_, e1⟩
      rw [e1, List.drop_length] at c1
      unfold compL at c1
      cases c1
      rw [List.append_nil] at ex
      subst ex
      have wb : Wl X.K e σ H1 F1 (backE env vs env2) := by
        have q := Wl.back w hm s1 w1
        have e2 : backE env vs (wipeE env2 vs) = backE env vs env2 := by
          apply List.ext_getElem?
          intro j
          by_cases z : j ∈ vs
          · by_cases hj : j < env2.length
            · have hj' : j < (wipeE env2 vs).length := by
                have := w1.len
                rw [wipe_length] at this
                have l2 := w.len
                have wl : ∀ (τ : Cs) (us : List Nat), (wipeE τ us).length = τ.length := fun τ us => by
                  induction us with
                  | nil => rfl
                  | cons u us ih => show ((wipeE τ us).set u .emp).length = _; rw [List.length_set, ih]
                rw [wl]; exact hj
              rw [backE_in z hj', backE_in z hj]
            · have wl : ∀ (τ : Cs) (us : List Nat), (wipeE τ us).length = τ.length := fun τ us => by
                induction us with
                | nil => rfl
                | cons u us ih => show ((wipeE τ us).set u .emp).length = _; rw [List.length_set, ih]
              rw [List.getElem?_eq_none (by rw [backE_len, wl]; omega), List.getElem?_eq_none (by rw [backE_len]; omega)]
          · rw [backE_out z, backE_out z, wipeE_get z]
        rw [e2] at q; exact q
      refine hQ H1 F1 wb s1 (.inr trivial) vacc d1 n1 r1 fun j c hc hmn hx => ?_
      by_cases z : j ∈ vs
      · have hj : j < env2.length := by rw [← backE_len (env1 := env) (vs := vs)]; exact (List.getElem?_eq_some_iff.mp hc).1
        rw [backE_in z hj] at hc; cases hc
        rw [hm j z] at hmn; cases hmn
      · rw [backE_out z] at hc
        exact no1 j c (by rw [wipeE_get z]; exact hc) hmn (by rw [wipe_get z]; exact hx)
  refine ⟨fun i m H1 => m = items.length - i ∧ i ≤ items.length ∧ Inv i H1, ⟨items.length, rfl, Nat.zero_le _, ?_⟩, fun i m H1 hw => ?_⟩
  · refine ⟨F, env, [], [], xs, (Wl.wipe lkn (w.grow (w.grow_new hD))), .refl _, upd_same, w.fresh hD, fun j c hc hmn hx => ?_, .nil, Nat.zero_le _, hc, rfl⟩
    have hj : j ∉ vs := fun z => wipe_in z _ hx
    rw [wipeE_get hj] at hc
    rw [wipe_get hj] at hx
    obtain ⟨u, d, h1, _, _⟩ := mine_cont w hc hmn hx
    rw [h1] at hD; cases hD
  · obtain ⟨rfl, hi, hI⟩ := hw
    rcases step hI hi with ⟨a, b, _⟩ | ⟨hl, go, h⟩
    · exact .inl ⟨a, b⟩
    · exact .inr ⟨go, fun H' => Inv (i + 1) H', fun H' h' => ⟨items.length - (i + 1), by omega, rfl, hl, h'⟩, h⟩
theorem comp_post {tg iter : Expr} {g : Tg} {gt : TG} {ci : CI} {wi : TI} {ct : CT} {tt : TT} {ce : CE} {te : TE} {vs : List Nat}
    (hi : DI X xp W tg iter ci wi)
    (hg : ∀ e σ H F env env' v d Q, Wl X.K e σ H F env → RD X.K F v d → g.put d env = some env' → (∀ σ', Wl X.K e σ' H F env' → Off g.slots σ σ' → Q σ' H) → gt v σ H Q) (hgs : ∀ i ∈ g.slots, i ∈ vs)
    (ht : ∀ e σ H F env Q, Wl X.K e σ H F env → PostT X.K xp WF e σ F Q (ct env) → tt σ H Q) (he : ∀ e σ H F env Q, Wl X.K e σ H F env → Post X.K xp WF e σ F Q (ce env) → te σ H Q)
    {e : Ent} {σ : St} {H F : Hp} {env : Cs} {Q : VK} (w : Wl X.K e σ H F env) (h : Post X.K xp W e σ F Q (cComp g ci ct ce vs env)) : tLc wi gt tt te vs σ H Q := by
  refine hi.2 e σ H F env _ w ?_
  unfold cComp at h
  cases gi : ci env with
  | no => rw [gi] at h; exact h
  | ex x env1 => rw [gi] at h; exact h
  | ok items env1 =>
    rw [gi] at h; dsimp only at h
    intro J H1 F1 w1 s1 it hz D hD
    cases ga : anyMineS env1 vs with
    | true => rw [ga] at h; exact h.elim
    | false =>
      rw [ga] at h; dsimp only at h
      cases gc : compL g ct ce vs items env1 with
      | no => rw [gc] at h; exact h.elim
      | ex x env2 => rw [gc] at h; exact h.elim
      | ok xs env2 =>
        rw [gc] at h
        refine comp_run (X := X) (tg := tg) (xp' := xp) hg hgs ht he w1 it hz hD (anyMineS_no ga) gc fun H' F' w' s' _ vx hd hn r no => ?_
        exact h (.ref D) H' F' w' (s1.trans s') ⟨D, _, rfl, hd, hn, .lst r, w1.old hD, no⟩
end
end DL

namespace DL
open PySem PySem.Spec PyProof.Rows L2
section
variable {X : Cx} {xp : XP} {W : WX}
theorem de_comp {elt tg iter : Expr} {ifs : List Expr} {scope : Scope} {own : List (Str × Nat)} {pos : Pos} {g : Tg} {gt : TG} {ci : CI} {wi : TI} {ct : CT} {tt : TT} {ce : CE} {te : TE} (hc : X.calm = true) (hN : X.N.Nodup) (hi : DI X xp W tg iter ci wi) (ok : BlkOk X.N X.env.scope scope own)
    (hg : ∀ (s : Shared) (H : Hp) (C : Addr) (cl : List (Str × Addr)) (fp : List Addr), DG (X.blk s H scope (compEnvC scope cl C X.env) fp) tg g gt) (ht : ∀ (s : Shared) (H : Hp) (C : Addr) (cl : List (Str × Addr)) (fp : List Addr), DTs (X.blk s H scope (compEnvC scope cl C X.env) fp) xp WF ifs ct tt)
    (he : ∀ (s : Shared) (H : Hp) (C : Addr) (cl : List (Str × Addr)) (fp : List Addr), DE (X.blk s H scope (compEnvC scope cl C X.env) fp) xp WF elt ce te) (hgs : ∀ i ∈ g.slots, i ∈ own.map (·.2) := by decide) (hs : ∀ x, foldedSetIterable iter X.env x = pure x := by intro _; rfl) :
    DE X xp W (.ListComp elt [⟨tg, iter, ifs, 0⟩] scope pos) (cComp g ci ct ce (own.map (·.2))) (tLc wi gt tt te (own.map (·.2))) :=
  ⟨pe_lc hc hN hi.1 ok (fun s H C cl fp => (hg s H C cl fp).1) (fun s H C cl fp => (ht s H C cl fp).1) (fun s H C cl fp => (he s H C cl fp).1) hs,
    fun e σ H F env Q w h => comp_post hi (hg X.s_0 X.H_0 0 [] []).2 hgs (ht X.s_0 X.H_0 0 [] []).2 (he X.s_0 X.H_0 0 [] []).2 w h⟩
theorem ds_setComp {i : Nat} {y : Str} {py : Pos} {elt tg iter : Expr} {ifs : List Expr} {scope : Scope} {own : List (Str × Nat)} {pos spos : Pos} {g : Tg} {gt : TG} {ci : CI} {wi : TI} {ct : CT} {tt : TT} {ce : CE} {te : TE} (hc : X.calm = true) (hN : X.N.Nodup) (hy : X.N[i]? = some y) (hyl : X.env.scope.names.lookup y = some .local)
    (hsw : swapsWith (.ListComp elt [⟨tg, iter, ifs, 0⟩] scope pos) (some (.Name y py)) spos.line X.env = pure true) (hi : DI X xp W tg iter ci wi) (ok : BlkOk X.N X.env.scope scope own)
    (hg : ∀ (s : Shared) (H : Hp) (C : Addr) (cl : List (Str × Addr)) (fp : List Addr), DG (X.blk s H scope (compEnvC scope cl C X.env) fp) tg g gt) (ht : ∀ (s : Shared) (H : Hp) (C : Addr) (cl : List (Str × Addr)) (fp : List Addr), DTs (X.blk s H scope (compEnvC scope cl C X.env) fp) xp WF ifs ct tt)
    (he : ∀ (s : Shared) (H : Hp) (C : Addr) (cl : List (Str × Addr)) (fp : List Addr), DE (X.blk s H scope (compEnvC scope cl C X.env) fp) xp WF elt ce te) (hgs : ∀ i ∈ g.slots, i ∈ own.map (·.2) := by decide) (hs : ∀ x, foldedSetIterable iter X.env x = pure x := by intro _; rfl) :
    DS X xp W (.Assign [.Name y py] (.ListComp elt [⟨tg, iter, ifs, 0⟩] scope pos) spos) (cSet i (cComp g ci ct ce (own.map (·.2)))) :=
  ⟨_, ps_setLc hc hN hy hyl hsw hi.1 ok (fun s H C cl fp => (hg s H C cl fp).1) (fun s H C cl fp => (ht s H C cl fp).1) (fun s H C cl fp => (he s H C cl fp).1) hs,
    fun e σ H F env D w h => comp_post hi (hg X.s_0 X.H_0 0 [] []).2 hgs (ht X.s_0 X.H_0 0 [] []).2 (he X.s_0 X.H_0 0 [] []).2 w (set_run h)⟩
end

def emps (n : Nat) : Cs := List.replicate n .emp
def Cell.out : Cell → Cell
  | .own _ d => .own false d
  | c => c
def runDef (n : Nat) (c : CS) : Fn := fun ds => match c (ds.map .frz ++ emps (n - ds.length)) with
  | .rt r _ => .ok r.out
  | .nx _ => .ok (.frz .none)
  | .ex x _ => .ex x
  | _ => .no
def runDefI (n : Nat) (c : CS) : Fm := fun d ds => match c (.own true d :: ds.map .frz ++ emps (n - (ds.length + 1))) with
  | .rt r env => match env.getD 0 .emp with
    | .own true d' => .ok r.out d'
    | _ => .no
  | .nx env => match env.getD 0 .emp with
    | .own true d' => .ok (.frz .none) d'
    | _ => .no
  | _ => .no
section
variable {P : Program} {w : World} {K : PySem.W.Frag} {mg : Str → Option Value} {base : Heap} {xp : XP}
theorem start_get {N : List Str} {vs : List V} {i : Nat} {x : Option V} (h : (L2.start N vs)[i]? = some x) : (i < vs.length ∧ ∃ v, vs[i]? = some v ∧ x = some v) ∨ (vs.length ≤ i ∧ x = none) := by
  unfold L2.start at h
  by_cases hi : i < vs.length
  · rw [List.getElem?_append_left (by simpa using hi), List.getElem?_map, List.getElem?_eq_getElem hi] at h
    exact .inl ⟨hi, vs[i], List.getElem?_eq_getElem hi, (Option.some.inj h).symm⟩
  · rw [List.getElem?_append_right (by simpa using hi)] at h
    exact .inr ⟨Nat.le_of_not_lt hi, (List.mem_replicate.mp (List.mem_of_getElem? h)).2⟩
theorem cells_get {ds : List PyData} {n i : Nat} {c : Cell} (h : (ds.map Cell.frz ++ emps n)[i]? = some c) : (i < ds.length ∧ ∃ d, ds[i]? = some d ∧ c = .frz d) ∨ (ds.length ≤ i ∧ c = .emp) := by
  by_cases hi : i < ds.length
  · rw [List.getElem?_append_left (by simpa using hi), List.getElem?_map, List.getElem?_eq_getElem hi] at h
    exact .inl ⟨hi, ds[i], List.getElem?_eq_getElem hi, (Option.some.inj h).symm⟩
  · rw [List.getElem?_append_right (by simpa using hi)] at h
    exact .inr ⟨Nat.le_of_not_lt hi, (List.mem_replicate.mp (List.mem_of_getElem? h)).2⟩
theorem start_wl {N : List Str} {vs : List V} {ds : List PyData} {H F : Hp} (hn : vs.length ≤ N.length) (s : Sub F H) (r : RDs K F vs ds) :
    Wl K ⟨H, F, fun _ => False, fun _ => none, fun _ => none⟩ (L2.start N vs) H F (ds.map .frz ++ emps (N.length - ds.length)) where
  len := by
    unfold L2.start emps
    simp only [List.length_append, List.length_map, List.length_replicate]
    have := r.length; omega
  sub := s
  cell := fun i c x hc hx => by
    rcases cells_get hc with ⟨h1, d, hd, rfl⟩ | ⟨h1, rfl⟩
    · rcases start_get hx with ⟨h2, v, hv, rfl⟩ | ⟨h2, rfl⟩
      · obtain ⟨d', hd', rd⟩ := r.get hv
        rw [hd] at hd'; cases hd'
        exact ⟨v, rfl, rd⟩
      · rw [r.length] at h2; omega
    · trivial
  apart := fun i j c c' a _ hc _ m _ _ _ => by
    rcases cells_get hc with ⟨_, d, _, rfl⟩ | ⟨_, rfl⟩ <;> cases m
  keep := fun a o h _ => h
  new := fun a h => .inl h
  pl := fun a h n => absurd n h
  mine := fun i b d a hc _ => by
    rcases cells_get hc with ⟨_, d, _, q⟩ | ⟨_, q⟩ <;> cases q
  pin := fun i c hc h => by
    rcases cells_get hc with ⟨_, d, _, rfl⟩ | ⟨_, rfl⟩ <;> rcases h with ⟨d, q⟩ | ⟨d, q⟩ <;> cases q
  lk := fun i d h => nomatch h
  lk2 := fun i d hc => by
    rcases cells_get hc with ⟨_, d, _, q⟩ | ⟨_, q⟩ <;> cases q
theorem okDN {x qual : Str} {st : Stmt} {f : Addr} {fd : FuncData} {N ps : List Str} {k : Nat} {sp : Sp} (F : Fun K x qual st f fd) (S : FnScope N ps (defScope st)) (hl : ∀ vs H Q E, sp vs H Q E → vs.length = ps.length)
    (hb : ∀ (cdv : Value) (A : Around) (fr : List Env) (s : Shared) (H : Hp) (vs : List V) (Q : VK) (E : XK), Room k (A.deeper (envOfC qual (defScope st) s.heap.objs.size f cdv)) → sp vs H Q E →
      ∃ t, PSs (cxOf (L2N.CX P w) P w K mg base N qual (defScope st) f cdv A fr s H E) (defBody st) t ∧ t { nx := fun _ H' => Q .non H', rt := Q } (L2.start N vs) H) :
    FnOk P w K mg base (L2N.CX P w) (k + 1) f fd ps sp := by
  rcases F.ex with ⟨_, _, _, _, _, _, cdv, _, _, rfl, lk, hcd⟩
  exact fn_of lk hcd S hl fun A fr s H vs Q E hr q => hb cdv A fr s H vs Q E hr q
abbrev bodyX (P : Program) (w : World) (K : PySem.W.Frag) (mg : Str → Option Value) (base : Heap) (N : List Str) (qual : Str) (st : Stmt) (f : Addr) (cdv : Value) (A : Around) (outer : List Env) (s : Shared) (H : Hp) (E : XK) : Cx :=
  cxOf (L2N.CX P w) P w K mg base N qual (defScope st) f cdv A outer s H E
theorem fn_B {x qual : Str} {st : Stmt} {f : Addr} {fd : FuncData} {N ps : List Str} {k n : Nat} {c : CS} (F : Fun K x qual st f fd) (S : FnScope N ps (defScope st)) (hn : ps.length = n) (hN : n ≤ N.length)
    (hb : ∀ (cdv : Value) (A : Around) (outer : List Env) (s : Shared) (H : Hp) (E : XK), Room k (A.deeper (envOfC qual (defScope st) s.heap.objs.size f cdv)) → DSs (bodyX P w K mg base N qual st f cdv A outer s H E) xp (fun cls d _ H => E cls d H) (defBody st) c) :
    FnOk P w K mg base (L2N.CX P w) (k + 1) f fd ps (spB K xp n (runDef N.length c)) := by
  refine okDN F S (fun vs H Q E h => by rw [hn]; exact h.1) (fun cdv A outer s H vs Q E hr h => ?_)
  obtain ⟨hl, F0, ds, s0, r0, p⟩ := h
  obtain ⟨t, pt, q⟩ := hb cdv A outer s H E hr
  refine ⟨t, pt, q ⟨H, F0, fun _ => False, fun _ => none, fun _ => none⟩ (L2.start N vs) H F0 (ds.map Cell.frz ++ emps (N.length - ds.length)) _ (start_wl (N := N) (by rw [hl]; exact hN) s0 r0) ?_⟩
  have gr : ∀ {σ' H' F' env}, Wl K ⟨H, F0, fun _ => False, fun _ => none, fun _ => none⟩ σ' H' F' env → Sub F0 F' → Grow H F0 H' F' := fun {σ' H' F' env} w s => ⟨fun a o h => w.keep a o h (fun z => z), s, w.sub, fun a h => by
    rcases w.new a h with y | y | y
    · exact .inl y
    · exact .inr y
    · exact y.elim, w.pl⟩
  unfold runDef at p
  cases g : c (ds.map .frz ++ emps (N.length - ds.length)) with
  | nx env => rw [g] at p; exact fun σ' H' F' w s => p .non H' F' (gr w s) .non
  | rt r env =>
    rw [g] at p
    intro v σ' H' F' w s rc
    refine p v H' F' (gr w s) ?_
    cases r with
    | frz d => exact rc
    | own b d =>
      obtain ⟨a, u, e1, h1, n1, k1, m, _⟩ := rc
      rcases m with m | m
      · exact ⟨a, u, e1, m, h1, n1, k1⟩
      · exact m.elim
    | emp => exact rc.elim
    | lck d => exact rc.elim
    | exc x => exact rc.elim
  | ex x env => rw [g] at p; exact fun σ' H' F' cls d w s y => p H' F' cls d (gr w s) y
  | bk env => rw [g] at p; exact p.elim
  | ct env => rw [g] at p; exact p.elim
  | no => rw [g] at p; exact p
theorem startI_wl {N : List Str} {a : Addr} {u : HO} {d : PyData} {vs : List V} {ds : List PyData} {H F : Hp} (hn : vs.length + 1 ≤ N.length) (s : Sub F H) (h : H a = some u) (n : F a = none) (k : Cont K F u d) (r : RDs K F vs ds) :
    Wl K ⟨H, F, fun b => b = a, fun i => if i = 0 then some (.ref a) else none, fun _ => none⟩ (L2.start N (.ref a :: vs)) H F (.own true d :: ds.map .frz ++ emps (N.length - (ds.length + 1))) where
  len := by
    unfold L2.start emps
    simp only [List.length_append, List.length_map, List.length_replicate, List.length_cons]
    have := r.length; omega
  sub := s
  cell := fun i c x hc hx => by
    cases i with
    | zero =>
      cases hc
      have e : x = some (.ref a) := by
        have q : (L2.start N (V.ref a :: vs))[0]? = some (some (.ref a)) := rfl
        rw [q] at hx; exact (Option.some.inj hx).symm
      subst e
      exact ⟨a, u, rfl, h, n, k⟩
    | succ i =>
      have hc' : (ds.map Cell.frz ++ emps (N.length - (ds.length + 1)))[i]? = some c := by simpa using hc
      rcases cells_get hc' with ⟨h1, d, hd, rfl⟩ | ⟨h1, rfl⟩
      · rcases start_get hx with ⟨h2, v, hv, rfl⟩ | ⟨h2, rfl⟩
        · obtain ⟨d', hd', rd⟩ := r.get (i := i) (v := v) (by simpa using hv)
          rw [hd] at hd'; cases hd'
          exact ⟨v, rfl, rd⟩
        · rw [List.length_cons, r.length] at h2; omega
      · trivial
  apart := fun i j c c' b ne hc hc' m m' _ _ => by
    have z : ∀ {i : Nat} {c : Cell}, (Cell.own true d :: ds.map .frz ++ emps (N.length - (ds.length + 1)))[i]? = some c → c.mine = true → i = 0 := fun {i c} hc m => by
      cases i with
      | zero => rfl
      | succ i =>
        have hc' : (ds.map Cell.frz ++ emps (N.length - (ds.length + 1)))[i]? = some c := by simpa using hc
        rcases cells_get hc' with ⟨_, d, _, rfl⟩ | ⟨_, rfl⟩ <;> cases m
    exact ne ((z hc m).trans (z hc' m').symm)
  keep := fun b o h _ => h
  new := fun b h => .inl h
  pl := fun b h n => absurd n h
  mine := fun i b d' c hc hx => by
    cases i with
    | zero =>
      have q : (L2.start N (V.ref a :: vs))[0]? = some (some (.ref a)) := rfl
      rw [q] at hx
      cases hx
      exact .inr rfl
    | succ i =>
      have hc' : (ds.map Cell.frz ++ emps (N.length - (ds.length + 1)))[i]? = some (.own b d') := by simpa using hc
      rcases cells_get hc' with ⟨_, d, _, q⟩ | ⟨_, q⟩ <;> cases q
  pin := fun i c hc h' => by
    cases i with
    | zero => exact ⟨.ref a, rfl, rfl⟩
    | succ i =>
      have hc' : (ds.map Cell.frz ++ emps (N.length - (ds.length + 1)))[i]? = some c := by simpa using hc
      rcases cells_get hc' with ⟨_, d, _, rfl⟩ | ⟨_, rfl⟩ <;> rcases h' with ⟨d, q⟩ | ⟨d, q⟩ <;> cases q
  lk := fun i d h => nomatch h
  lk2 := fun i d' hc => by
    cases i with
    | zero => cases hc
    | succ i =>
      have hc' : (ds.map Cell.frz ++ emps (N.length - (ds.length + 1)))[i]? = some (.lck d') := by simpa using hc
      rcases cells_get hc' with ⟨_, d, _, q⟩ | ⟨_, q⟩ <;> cases q
theorem fn_I {x qual : Str} {st : Stmt} {f : Addr} {fd : FuncData} {N ps : List Str} {k n : Nat} {c : CS} (F : Fun K x qual st f fd) (S : FnScope N ps (defScope st)) (hn : ps.length = n) (hN : n ≤ N.length)
    (hb : ∀ (cdv : Value) (A : Around) (outer : List Env) (s : Shared) (H : Hp) (E : XK), Room k (A.deeper (envOfC qual (defScope st) s.heap.objs.size f cdv)) → DSs (bodyX P w K mg base N qual st f cdv A outer s H E) xp (fun cls d _ H => E cls d H) (defBody st) c) :
    FnOk P w K mg base (L2N.CX P w) (k + 1) f fd ps (spI K n (runDefI N.length c)) := by
  refine okDN F S (fun vs H Q E h => by rw [hn]; exact h.1) (fun cdv A outer s H vs Q E hr h => ?_)
  obtain ⟨hl, F0, a, u, d0, vr, ds, rfl, h0, n0, k0, s0, r0, p⟩ := h
  obtain ⟨t, pt, q⟩ := hb cdv A outer s H E hr
  have hl' : vr.length + 1 = n := by simpa using hl
  let e0 : Ent := ⟨H, F0, fun b => b = a, fun i => if i = 0 then some (.ref a) else none, fun _ => none⟩
  refine ⟨t, pt, q e0 (L2.start N (.ref a :: vr)) H F0 (Cell.own true d0 :: ds.map Cell.frz ++ emps (N.length - (ds.length + 1))) _ (startI_wl (N := N) (by omega) s0 h0 n0 k0 r0) ?_⟩
  have fin : ∀ {σ' H' F' env d'}, Wl K e0 σ' H' F' env → Sub F0 F' → env.getD 0 .emp = .own true d' → Step a H F0 H' F' ∧ σ'[0]? = some (some (.ref a)) ∧ ∃ u', H' a = some u' ∧ Cont K F' u' d' := by
    intro σ' H' F' env d' w s hg
    have hc := of_getD hg (fun z => nomatch z)
    obtain ⟨v, e1, hx⟩ := w.pin 0 _ hc (.inl ⟨d', rfl⟩)
    have e2 : v = .ref a := (Option.some.inj e1).symm
    subst e2
    obtain ⟨a', u', e3, h1, n1, k1⟩ := w.cell 0 _ _ hc hx
    cases e3
    refine ⟨⟨fun b o nb hb => w.keep b o hb nb, s, w.sub, fun b hb => ?_, w.pl⟩, hx, u', h1, k1⟩
    rcases w.new b hb with y | y | y
    · exact .inl y
    · exact .inr y
    · have y' : b = a := y
      subst y'; exact (hb n1).elim
  unfold runDefI at p
  cases g : c (.own true d0 :: ds.map .frz ++ emps (N.length - (ds.length + 1))) with
  | nx env =>
    rw [g] at p; dsimp only at p
    intro σ' H' F' w s
    cases ge : env.getD 0 .emp with
    | own b d' =>
      rw [ge] at p
      cases b with
      | true =>
        obtain ⟨st, hx, u', hu, k1⟩ := fin w s ge
        exact p .non H' F' u' st hu k1 .non
      | false => exact p.elim
    | emp => rw [ge] at p; exact p.elim
    | frz d => rw [ge] at p; exact p.elim
    | lck d => rw [ge] at p; exact p.elim
    | exc x => rw [ge] at p; exact p.elim
  | rt r env =>
    rw [g] at p; dsimp only at p
    intro v σ' H' F' w s rc
    cases ge : env.getD 0 .emp with
    | own b d' =>
      rw [ge] at p
      cases b with
      | true =>
        obtain ⟨st, hx, u', hu, k1⟩ := fin w s ge
        refine p v H' F' u' st hu k1 ?_
        cases r with
        | frz d => exact rc
        | own b d =>
          obtain ⟨a2, u2, e1, h1, n1, k1, m, no⟩ := rc
          rcases m with m | m
          · exact ⟨a2, u2, e1, m, h1, n1, k1⟩
          · have m' : a2 = a := m
            subst m'
            exact (no 0 _ (of_getD ge (fun z => nomatch z)) rfl hx).elim
        | emp => exact rc.elim
        | lck d => exact rc.elim
        | exc x => exact rc.elim
      | false => exact p.elim
    | emp => rw [ge] at p; exact p.elim
    | frz d => rw [ge] at p; exact p.elim
    | lck d => rw [ge] at p; exact p.elim
    | exc x => rw [ge] at p; exact p.elim
  | ex x env => rw [g] at p; exact p.elim
  | bk env => rw [g] at p; exact p.elim
  | ct env => rw [g] at p; exact p.elim
  | no => rw [g] at p; exact p
def spLaw (K : PySem.W.Frag) : Sp := fun vs H Q _ => ∃ (a : Addr) (ns : List Int), vs = [.ref a] ∧ SqL K H a (ns.map V.int) ∧ ns.length ≤ 63 ∧ ∀ H', Q (.bl true) H'
def scriptD (ns : List Int) : PyData := .dict [(.none, .list (ns.map .int))]
theorem rds_ints {F : Hp} : ∀ ns : List Int, RDs K F (ns.map V.int) (ns.map .int)
  | [] => .nil
  | n :: ns => .cons (.int n) (rds_ints ns)
end
end DL

namespace DL
open PySem PySem.Spec PyProof.Rows L2
def frzI (i : Int) : OR := .val (.frz (.int i))
def frzB (b : Bool) : OR := .val (.frz (.bool b))
def lim : Nat := 1000000
theorem lim_le {n : Nat} (h : n ≤ lim) : n ≤ sizeLine := Nat.le_trans h (by decide)
theorem lim_lt {n : Nat} (h : n < lim) : n < sizeLine := Nat.lt_of_lt_of_le h (by decide)
section
variable {K : PySem.W.Frag} {H F : Hp} {Q : VK} {X : Cx}
theorem OPost.here {v : V} {d : PyData} (s : Sub F H) (h : OPost K H F Q (.val (.frz d))) (r : RD K F v d) : Q v H := h v H F (.refl s) r
theorem OPost.int {i : Int} (s : Sub F H) (h : OPost K H F Q (frzI i)) : Q (.int i) H := h.here s (.int i)
theorem OPost.bl {i : Bool} (s : Sub F H) (h : OPost K H F Q (frzB i)) : Q (.bl i) H := h.here s (.bl i)
theorem OPost.str {i : Str} (s : Sub F H) (h : OPost K H F Q (.val (.frz (.str i)))) : Q (.str i) H := h.here s (.str i)
theorem OPost.newL {b : Bool} {vs : List V} {ds : List PyData} (s : Sub F H) (h : OPost K H F Q (.val (.own b (.list ds)))) (r : RDs K F vs ds) : ∀ p, H p = none → Q (.ref p) (upd H p (.lst vs)) := fun p hp =>
  h (.ref p) _ F ⟨fun a u q => by rw [upd_ne (ne_of_none q hp)]; exact q, .refl _, s.trans (upd_sub hp), fun _ q => .inl q, fun _ q n => absurd n q⟩ ⟨p, _, rfl, hp, upd_same, s.none hp, .lst r⟩
theorem grow_frz {o : HO} (s : Sub F H) {p : Addr} (h : H p = none) (po : NoLk o := by trivial) : Grow H F (upd H p o) (upd F p o) where
  ex := fun a u q => by rw [upd_ne (ne_of_none q h)]; exact q
  fz := upd_sub (s.none h)
  sub := by
    refine ⟨fun a u pl r => ?_, fun a n => ?_, fun a vs r => ?_⟩
    · by_cases z : a = p
      · subst z
        exact rd_congr (by rw [upd_same, upd_same]) r
      · exact rd_congr (upd_ne z).symm (s.rd _ _ pl (rd_congr (upd_ne z) r))
    · by_cases z : a = p
      · subst z; rw [upd_same]; exact fun y => nomatch y
      · rw [upd_ne z] at n ⊢; exact s.dom _ n
    · by_cases z : a = p
      · subst z; rw [upd_same] at r ⊢; exact r
      · rw [upd_ne z] at r ⊢; exact s.tp _ _ r
  new := fun a q => by
    by_cases z : a = p
    · subst z; exact .inr (.inl h)
    · rw [upd_ne z] at q; exact .inl q
  pl := fun a q n => by
    by_cases z : a = p
    · subst z; exact ⟨o, upd_same, po⟩
    · rw [upd_ne z] at q; exact absurd n q
theorem OPost.newT {vs : List V} {ds : List PyData} (s : Sub F H) (h : OPost K H F Q (.val (.frz (.tuple ds)))) (r : RDs K F vs ds) : ∀ p, H p = none → Q (.ref p) (upd H p (.tup vs)) := fun p hp =>
  h (.ref p) _ _ (grow_frz s hp) (.tup upd_same (r.mono (upd_sub (s.none hp))))

def rCatL : R2 := fun x y H Q => ∃ a b xs zs, x = .ref a ∧ y = .ref b ∧ Rd H a (.lst xs) ∧ Rd H b (.lst zs) ∧ xs.length + zs.length ≤ sizeLine ∧ ∀ p, H p = none → Q (.ref p) (upd H p (.lst (xs ++ zs)))
theorem lst_of {pins : List (Addr × Obj)} {σ : L2.St} {H : Hp} {s : Shared} {a : Addr} {xs : List V} (I : Inv X pins σ H s) (h : Rd H a (.lst xs)) :
    xs.length ≤ sizeLine ∧ ∃ (its : List Value) (n : Nat), Vals xs its ∧ xs.length = its.length ∧ s.heap.get? a = some { cls := .type "list", data := .seq its.toArray n } := by
  obtain ⟨z, its, n, r, e⟩ := h.ok I.hok
  exact ⟨z, its, n, r, r.length, e⟩
theorem op_catL : OpR X (binaryOp .Add) rCatL := by
  intro pins s σ H x y v u Q I rx ry h
  obtain ⟨a, b, xs, zs, rfl, rfl, hA, hB, hz, q⟩ := h
  cases rx
  cases ry
  obtain ⟨z, its, n, r, l1, e⟩ := lst_of I hA
  obtain ⟨z2, its2, n2, r2, l2, e2⟩ := lst_of I hB
  refine PySem.P.add_list e e2 ?_ (by simp only [List.size_toArray]; omega)
  have j : its.toArray ++ its2.toArray = (its ++ its2).toArray := by simp
  rw [j]
  exact ⟨.ref _, _, I.lnew (t' := s.toks) (r.append r2) (by simpa using hz), rfl, q _ I.fresh⟩
abbrev rAddA (K : PySem.W.Frag) : R2 := fun x y H Q => rI0 (fun i j => .int (i + j)) x y H Q ∨ (fun x y H Q => ∃ i j, x = .str i ∧ y = .str j ∧ i.length + j.length ≤ sizeLine ∧ Q (.str (i ++ j)) H) x y H Q ∨ rCatL x y H Q ∨ rCatA K x y H Q
theorem or_add : OpR X (binaryOp .Add) (rAddA X.K) := OpR.or op_add (OpR.or op_add_str (OpR.or op_catL op_catA))
def oAdd : Op2
  | .int i, .int j => frzI (i + j)
  | .str a, .str b => if a.length + b.length ≤ lim then .val (.frz (.str (a ++ b))) else .no
  | .list a, .list b => if a.length + b.length ≤ lim then .val (.own false (.list (a ++ b))) else .no
  | .tuple a, .tuple b => if a.length + b.length ≤ lim then .val (.frz (.tuple (a ++ b))) else .no
  | _, _ => .no
theorem ok_add : Op2Ok K (rAddA K) oAdd := by
  intro x y dx dy H F Q s rx ry h
  unfold oAdd at h
  split at h
  · exact .inl ⟨_, _, rx.int, ry.int, h.int s⟩
  · split at h
    · rename_i a b hl
      exact .inr (.inl ⟨_, _, rx.str, ry.str, lim_le hl, h.str s⟩)
    · exact h.elim
  · split at h
    · rename_i a b hl
      obtain ⟨p, xs, rfl, q, r⟩ := rx.lst s
      obtain ⟨p2, ys, rfl, q2, r2⟩ := ry.lst s
      exact .inr (.inr (.inl ⟨_, _, _, _, rfl, rfl, q, q2, lim_le (by rw [r.length, r2.length]; exact hl), h.newL s (r.append r2)⟩))
    · exact h.elim
  · split at h
    · rename_i a b hl
      obtain ⟨p, xs, rfl, q, r⟩ := rx.tup s
      obtain ⟨p2, ys, rfl, q2, r2⟩ := ry.tup s
      refine .inr (.inr (.inr ⟨_, _, _, _, rfl, rfl, q, q2, lim_le (by rw [r.length, r2.length]; exact hl), fun e => ?_, fun n e => ?_, fun n n2 => h.newT s (r.append r2)⟩))
      · subst e
        cases r
        refine h _ H F (.refl s) ?_
        cases ry with
        | fz z => exact z
        | own h1 n1 k1 => cases k1
      · subst e
        cases r2
        rw [List.append_nil] at h
        refine h _ H F (.refl s) ?_
        cases rx with
        | fz z => exact z
        | own h1 n1 k1 => cases k1
    · exact h.elim
  · exact h.elim
def oSub : Op2
  | .int i, .int j => frzI (i - j)
  | _, _ => .no
def small (i : Int) : Bool := decide (-(2 ^ 64) < i) && decide (i < 2 ^ 64)
def oMul : Op2
  | .int i, .int j => if small i || small j then frzI (i * j) else .no
  | _, _ => .no
theorem ok_mul : Op2Ok K (rI CMul fun i j => .int (i * j)) oMul := by
  intro x y dx dy H F Q s rx ry h
  unfold oMul at h
  split at h
  · split at h
    · rename_i i j hs
      refine ⟨_, _, rx.int, ry.int, ?_, h.int s⟩
      unfold small at hs
      simp only [Bool.or_eq_true, Bool.and_eq_true, decide_eq_true_eq] at hs
      exact hs
    · exact h.elim
  · exact h.elim
def oFdiv : Op2
  | .int i, .int j => if 0 < j ∧ j < 1073741824 then frzI (i / j) else .no
  | _, _ => .no
theorem ok_fdiv : Op2Ok K (rI CDiv fun i j => .int (i / j)) oFdiv := by
  intro x y dx dy H F Q s rx ry h
  unfold oFdiv at h
  split at h
  · split at h
    · rename_i i j hs
      exact ⟨_, _, rx.int, ry.int, hs, h.int s⟩
    · exact h.elim
  · exact h.elim
def oMod : Op2
  | .int i, .int j => if 0 < j then frzI (i % j) else .no
  | _, _ => .no
theorem ok_mod : Op2Ok K (rI (fun _ j => j ≠ 0) fun i j => .int (i.fmod j)) oMod := by
  intro x y dx dy H F Q s rx ry h
  unfold oMod at h
  split at h
  · split at h
    · rename_i i j hs
      refine ⟨_, _, rx.int, ry.int, by omega, ?_⟩
      show Q (.int (i.fmod j)) H
      rw [Int.fmod_eq_emod_of_nonneg _ (by omega)]
      exact h.int s
    · exact h.elim
  · exact h.elim
def oPow : Op2
  | .int i, .int j => if 0 ≤ j ∧ j ≤ 1000 ∧ i.natAbs < 2 ^ 64 then frzI (i ^ j.toNat) else .no
  | _, _ => .no
theorem ok_pow : Op2Ok K (rI CPow fun i j => .int (i ^ j.toNat)) oPow := by
  intro x y dx dy H F Q s rx ry h
  unfold oPow at h
  split at h
  · split at h
    · rename_i i j hs
      exact ⟨_, _, rx.int, ry.int, ⟨hs.1, by omega, hs.2.2⟩, h.int s⟩
    · exact h.elim
  · exact h.elim

def oCmp (p : Int → Int → Bool) : Op2
  | .int i, .int j => frzB (p i j)
  | _, _ => .no
theorem ok_cmp {p : Int → Int → Bool} : Op2Ok K (rI0 fun i j => .bl (p i j)) (oCmp p) := by
  intro x y dx dy H F Q s rx ry h
  unfold oCmp at h
  split at h
  · exact ⟨_, _, rx.int, ry.int, h.bl s⟩
  · exact h.elim
abbrev oLt : Op2 := oCmp fun i j => decide (i < j)
abbrev oLe : Op2 := oCmp fun i j => decide (i ≤ j)
abbrev oGt : Op2 := oCmp fun i j => decide (j < i)
abbrev oGe : Op2 := oCmp fun i j => decide (j ≤ i)
mutual
theorem RD.dp : ∀ {v : V} {d : PyData}, d.canLay0 = true → RD K H v d → Dp K H v d
  | _, _, _, .non => .non
  | _, _, _, .bl b => .bl b
  | _, _, _, .int i => .int i
  | _, _, _, .str x => .str x
  | _, _, h, .lst q r => .lst (.inl q) (RDs.dp (by unfold PyData.canLay0 at h; exact h) r)
  | _, _, h, .tup q r => .tup (.inl (.inl q)) (RDs.dp (by unfold PyData.canLay0 at h; exact h) r)
  | _, _, h, .scr _ => by unfold PyData.canLay0 at h; cases h
  | _, _, h, .adr _ => by unfold PyData.canLay0 at h; cases h
  | _, _, h, .fn _ _ => by unfold PyData.canLay0 at h; cases h
  | _, _, h, .dK _ _ _ => by unfold PyData.canLay0 at h; cases h
  | _, _, h, .dT _ _ => by unfold PyData.canLay0 at h; cases h
  | _, _, h, .ins _ _ _ _ => by unfold PyData.canLay0 at h; cases h
theorem RDs.dp : ∀ {vs : List V} {ds : List PyData}, PyData.canLayAll0 ds = true → RDs K H vs ds → DpAll K H vs ds
  | _, _, _, .nil => .nil
  | _, _, h, .cons a b => by
    unfold PyData.canLayAll0 at h
    rw [Bool.and_eq_true] at h
    exact .cons (RD.dp h.1 a) (RDs.dp h.2 b)
end
def shp (d : PyData) : Bool := SeqAt.shaped d
def strD : PyData → Option Str
  | .str a => some a
  | _ => none
@[simp] theorem strD_str (a : Str) : strD (.str a) = some a := rfl
@[simp] theorem strD_list (a : List PyData) : strD (.list a) = none := rfl
@[simp] theorem strD_tuple (a : List PyData) : strD (.tuple a) = none := rfl
@[simp] theorem strD_int (a : Int) : strD (.int a) = none := rfl
@[simp] theorem strD_bool (a : Bool) : strD (.bool a) = none := rfl
@[simp] theorem strD_none : strD .none = none := rfl
def oEqD (k : Bool → Bool) : Op2 := fun x y => match strD x, strD y with
  | some a, some b => frzB (k (a == b))
  | _, _ => if shp x && shp y then frzB (k (PyData.eqv x y)) else .no
def oEq : Op2 := oEqD id
def oNe : Op2 := oEqD (!·)
def rEqA (K : PySem.W.Frag) : R2 := fun x y H Q => rEq x y H Q ∨ rEqD K x y H Q
def rNeA (K : PySem.W.Frag) : R2 := fun x y H Q => rNe x y H Q ∨ rNeD K x y H Q
theorem or_eq {X : Cx} (hu : X.A.units + 64 < cLine) : OpR X (compareOp .Eq) (rEqA X.K) := OpR.or op_eq (op_eqD hu)
theorem or_ne {X : Cx} (hu : X.A.units + 64 < cLine) : OpR X (compareOp .NotEq) (rNeA X.K) := OpR.or op_ne (op_neD hu)
theorem dec_strV (a b : Str) : decide (V.str a = V.str b) = (a == b) := by
  rw [Bool.eq_iff_iff]; simp
theorem eqD_run {k : Bool → Bool} {x y : V} {dx dy : PyData} (s : Sub F H) (rx : RB K H F x dx) (ry : RB K H F y dy) (h : OPost K H F Q (oEqD k dx dy)) :
    (∃ a b, x = .str a ∧ y = .str b ∧ Q (.bl (k (a == b))) H) ∨ (Dp K H x dx ∧ Dp K H y dy ∧ SeqAt.shaped dx = true ∧ SeqAt.shaped dy = true ∧ Q (.bl (k (PyData.eqv dx dy))) H) := by
  have other : OPost K H F Q (if shp dx && shp dy then frzB (k (PyData.eqv dx dy)) else .no) → Dp K H x dx ∧ Dp K H y dy ∧ SeqAt.shaped dx = true ∧ SeqAt.shaped dy = true ∧ Q (.bl (k (PyData.eqv dx dy))) H := fun h => by
    split at h
    · rename_i hs
      rw [Bool.and_eq_true] at hs
      exact ⟨RD.dp (SeqAt.canLay_of_shaped hs.1) (rx.rd s), RD.dp (SeqAt.canLay_of_shaped hs.2) (ry.rd s), hs.1, hs.2, h.bl s⟩
    · exact h.elim
  unfold oEqD at h
  cases ea : strD dx with
  | none => rw [ea] at h; exact .inr (other h)
  | some a =>
    cases eb : strD dy with
    | none => rw [ea, eb] at h; exact .inr (other h)
    | some b =>
      rw [ea, eb] at h
      have e1 : dx = .str a := by cases dx <;> first | (cases ea; rfl) | cases ea
      have e2 : dy = .str b := by cases dy <;> first | (cases eb; rfl) | cases eb
      subst e1; subst e2
      exact .inl ⟨a, b, rx.str, ry.str, h.bl s⟩
theorem ok_eq : Op2Ok K (rEqA K) oEq := by
  intro x y dx dy H F Q s rx ry h
  rcases eqD_run s rx ry h with ⟨a, b, rfl, rfl, q⟩ | ⟨h1, h2, h3, h4, q⟩
  · exact .inl ⟨rfl, by rw [dec_strV]; exact q⟩
  · exact .inr ⟨dx, dy, h1, h2, h3, h4, q⟩
theorem ok_ne : Op2Ok K (rNeA K) oNe := by
  intro x y dx dy H F Q s rx ry h
  rcases eqD_run s rx ry h with ⟨a, b, rfl, rfl, q⟩ | ⟨h1, h2, h3, h4, q⟩
  · exact .inl ⟨rfl, by rw [dec_strV]; exact q⟩
  · exact .inr ⟨dx, dy, h1, h2, h3, h4, q⟩
def isNo : PyData → Bool
  | .none => true
  | _ => false
def oIsN : Op2
  | d, .none => frzB (isNo d)
  | _, _ => .no
def oNotN : Op2
  | d, .none => frzB (!isNo d)
  | _, _ => .no
theorem isNo_of {v : V} {d : PyData} (r : RB K H F v d) : decide (v = .non) = isNo d := by
  cases r with
  | fz r => cases r <;> simp [isNo]
  | own h1 n1 k1 => cases k1 <;> simp [isNo]
theorem ok_isN : Op2Ok K (fun x y H Q => y = .non ∧ Q (.bl (decide (x = .non))) H) oIsN := by
  intro x y dx dy H F Q s rx ry h
  unfold oIsN at h
  split at h
  · exact ⟨ry.none, by rw [isNo_of rx]; exact h.bl s⟩
  · exact h.elim
def flatD : PyData → Bool
  | .none => true
  | .bool _ => true
  | .int _ => true
  | .str _ => true
  | _ => false
theorem flat_of {v : V} {d : PyData} (r : RD K F v d) (h : flatD d = true) : flatV v = true := by
  cases r <;> first | rfl | cases h
theorem eqV_of {v u : V} {d e : PyData} (r : RD K F v d) (q : RD K F u e) (h : flatD d = true) (h2 : flatD e = true) : eqV v u = PyData.eqv d e := by
  cases r <;> simp [flatD] at h <;> (cases q <;> simp [flatD] at h2 <;> simp [eqV, PyData.eqv])
def hasD (d : PyData) (ds : List PyData) : Bool := ds.any fun z => PyData.eqv z d
theorem flats_of : ∀ {vs : List V} {ds : List PyData}, RDs K F vs ds → ds.all flatD = true → vs.all flatV = true
  | _, _, .nil, _ => rfl
  | _, _, .cons a b, h => by
    rw [List.all_cons, Bool.and_eq_true] at h ⊢
    exact ⟨flat_of a h.1, flats_of b h.2⟩
theorem inV_of {v : V} {d : PyData} (r : RD K F v d) (h : flatD d = true) : ∀ {vs : List V} {ds : List PyData}, RDs K F vs ds → ds.all flatD = true → inV v vs = hasD d ds
  | _, _, .nil, _ => rfl
  | _, _, .cons (v := u) (d := e) (vs := us) (ds := es) a b, h2 => by
    rw [List.all_cons, Bool.and_eq_true] at h2
    have ih := inV_of r h b h2.2
    unfold inV hasD at ih ⊢
    rw [List.any_cons, List.any_cons, ih, eqV_of a r h2.1 h]
def oIn (neg : Bool) : Op2 := fun x y => match y with
  | .list ds => if flatD x && ds.all flatD then frzB (if neg then !hasD x ds else hasD x ds) else if shp x && shp (.list ds) then frzB (if neg then !hasD x ds else hasD x ds) else .no
  | .tuple ds => if flatD x && ds.all flatD then frzB (if neg then !hasD x ds else hasD x ds) else .no
  | _ => .no
theorem ok_notIn : Op2Ok K (fun x y H Q => rIn K true x y H Q ∨ rNotInD K x y H Q) (oIn true) := by
  intro x y dx dy H F Q s rx ry h
  unfold oIn at h
  split at h
  · split at h
    · rename_i ds hf
      rw [Bool.and_eq_true] at hf
      obtain ⟨p, xs, rfl, q, r⟩ := ry.lst s
      have rx' := rx.rd s
      have r' := r.mono s
      refine .inl ⟨p, xs, rfl, .inl (.inl q), flat_of rx' hf.1, flats_of r' hf.2, ?_⟩
      rw [inV_of rx' hf.1 r' hf.2]
      exact h.bl s
    · split at h
      · rename_i ds hf hs
        rw [Bool.and_eq_true] at hs
        exact .inr ⟨dx, ds, RD.dp (SeqAt.canLay_of_shaped hs.1) (rx.rd s), RD.dp (SeqAt.canLay_of_shaped hs.2) (ry.rd s), hs.1, hs.2, h.bl s⟩
      · exact h.elim
  · split at h
    · rename_i ds hf
      rw [Bool.and_eq_true] at hf
      obtain ⟨p, xs, rfl, q, r⟩ := ry.tup s
      have rx' := rx.rd s
      have r' := r.mono s
      refine .inl ⟨p, xs, rfl, .inr q, flat_of rx' hf.1, flats_of r' hf.2, ?_⟩
      rw [inV_of rx' hf.1 r' hf.2]
      exact h.bl s
    · exact h.elim
  · exact h.elim
theorem or_notIn (hu : X.A.units + 65 < cLine) : OpR X (compareOp .NotIn) (fun x y H Q => rIn X.K true x y H Q ∨ rNotInD X.K x y H Q) := OpR.or op_notIn_seq (op_notInD hu)

def oIx : Op2
  | .list ds, .int i => match atI ds i with
    | some d => .val (.frz d)
    | none => .no
  | .tuple ds, .int i => match atI ds i with
    | some d => .val (.frz d)
    | none => .no
  | .str z, .int i => if z.length ≤ lim then match atI z.cps.toList i with
    | some c => .val (.frz (.str ⟨#[c]⟩))
    | none => .no
    else .no
  | .dict [(.none, .list ds)], .int i => match atI ds i with
    | some d => .val (.frz d)
    | none => .no
  | _, _ => .no
theorem atI_rds {vs : List V} {ds : List PyData} {i : Int} {d : PyData} (r : RDs K F vs ds) (h : atI ds i = some d) : ∃ v, atI vs i = some v ∧ RD K F v d := by
  unfold atI at h ⊢
  rw [r.length]
  cases e : ixN ds.length i with
  | none => rw [e] at h; cases h
  | some j =>
    rw [e] at h
    exact r.get' h
theorem ok_ix : Op2Ok K (rIx K) oIx := by
  intro x y dx dy H F Q s rx ry h
  unfold oIx at h
  split at h
  · split at h
    · rename_i ds i _ d hd
      obtain ⟨p, xs, rfl, q, r⟩ := rx.lst s
      obtain ⟨v, hv, rv⟩ := atI_rds r hd
      exact .inl ⟨p, xs, i, v, rfl, ry.int, .inl q, hv, h.here s rv⟩
    · exact h.elim
  · split at h
    · rename_i ds i _ d hd
      obtain ⟨p, xs, rfl, q, r⟩ := rx.tup s
      obtain ⟨v, hv, rv⟩ := atI_rds r hd
      exact .inr (.inl ⟨p, xs, i, v, rfl, ry.int, q, hv, h.here s rv⟩)
    · exact h.elim
  · split at h
    · split at h
      · rename_i z i hl _ c hc
        exact .inr (.inr ⟨z, i, c, rx.str, ry.int, lim_le hl, hc, h.str s⟩)
      · exact h.elim
    · exact h.elim
  · split at h
    · rename_i ds i _ d hd
      cases rx with
      | own h1 n1 k1 =>
        generalize e : PyData.dict [(PyData.none, PyData.list ds)] = dd at k1
        cases k1 with
        | lst r => cases e
        | ins c r => cases e
        | dK _ r =>
          rename_i kvs es _
          injection e with e
          cases kvs with
          | nil => cases e
          | cons kv kvs =>
            cases es with
            | nil => cases e
            | cons e1 es =>
              rw [List.map_cons, List.zip_cons_cons] at e
              injection e with e _
              injection e with e _
              cases hk : kv.1 <;> rw [hk] at e <;> cases e
        | dT r =>
          rename_i kvs es
          injection e with e
          cases kvs with
          | nil => cases e
          | cons kv kvs =>
            cases es with
            | nil => cases e
            | cons e1 es =>
              rw [List.map_cons, List.zip_cons_cons] at e
              injection e with e _
              injection e with e _
              cases e
      | fz r =>
        generalize e : PyData.dict [(PyData.none, PyData.list ds)] = dd at r
        cases r with
        | scr q =>
          rename_i a ns
          injection e with e
          injection e with e _
          injection e with _ e
          injection e with e
          subst e
          obtain ⟨v, hv, rv⟩ := atI_rds (K := K) (F := F) (rds_ints ns) hd
          exact .inl ⟨a, _, i, v, rfl, ry.int, s.sqL q, hv, h.here s rv⟩
        | dK _ _ r =>
          rename_i kvs es _ _
          injection e with e
          cases kvs with
          | nil => cases e
          | cons kv kvs =>
            cases es with
            | nil => cases e
            | cons e1 es =>
              rw [List.map_cons, List.zip_cons_cons] at e
              injection e with e _
              injection e with e _
              cases hk : kv.1 <;> rw [hk] at e <;> cases e
        | dT _ r =>
          rename_i kvs es _
          injection e with e
          cases kvs with
          | nil => cases e
          | cons kv kvs =>
            cases es with
            | nil => cases e
            | cons e1 es =>
              rw [List.map_cons, List.zip_cons_cons] at e
              injection e with e _
              injection e with e _
              cases e
        | _ => cases e
    · exact h.elim
  · exact h.elim
end
end DL

namespace DL
open PySem PySem.Spec PyProof.Rows L2
section
variable {K : PySem.W.Frag} {H F : Hp} {Q : VK} {X : Cx} {xp : XP} {W : WX}
theorem rb_scr {v : V} {ds : List PyData} (s : Sub F H) (h : RB K H F v (.dict [(.none, .list ds)])) : ∃ a ns, v = .ref a ∧ ds = List.map PyData.int ns ∧ SqL K H a (ns.map V.int) := by
  have no : ∀ (ks : List PyData) (es : List PyData), ks.all (fun k => !isNo k) = true → [(PyData.none, PyData.list ds)] = ks.zip es → False := fun ks es hk e => by
    cases ks with
    | nil => cases e
    | cons k ks => cases es with
      | nil => cases e
      | cons x es =>
        rw [List.zip_cons_cons] at e
        injection e with e _
        injection e with e _
        subst e
        simp [isNo] at hk
  have hk1 : ∀ kvs : List (Key × V), (kvs.map fun p => keyD p.1).all (fun k => !isNo k) = true := fun kvs => by
    rw [List.all_map, List.all_eq_true]
    intro p _
    show (!isNo (keyD p.1)) = true
    cases p.1 <;> rfl
  have hk2 : ∀ kvs : List (List Key × V), (kvs.map fun p => tkeyD p.1).all (fun k => !isNo k) = true := fun kvs => by
    rw [List.all_map, List.all_eq_true]
    intro p _
    rfl
  cases h with
  | own h1 n1 k1 =>
    generalize e : PyData.dict [(PyData.none, PyData.list ds)] = dd at k1
    cases k1 with
    | lst r => cases e
    | ins c r => cases e
    | dK _ r => injection e with e; exact (no _ _ (hk1 _) e).elim
    | dT r => injection e with e; exact (no _ _ (hk2 _) e).elim
  | fz r =>
    generalize e : PyData.dict [(PyData.none, PyData.list ds)] = dd at r
    cases r with
    | scr q =>
      injection e with e
      injection e with e _
      injection e with _ e
      injection e with e
      exact ⟨_, _, rfl, e, s.sqL q⟩
    | dK _ _ r => injection e with e; exact (no _ _ (hk1 _) e).elim
    | dT _ r => injection e with e; exact (no _ _ (hk2 _) e).elim
    | _ => cases e

def oLen : OpN
  | [.list ds] => frzI ds.length
  | [.tuple ds] => frzI ds.length
  | [.str z] => if z.length ≤ lim then frzI z.length else .no
  | [.dict [(.none, .list ds)]] => frzI ds.length
  | _ => .no
theorem ok_len : OpNOk K (fun xs H Q => ∃ x n, xs = [x] ∧ LenV K x H n ∧ Q (.int n) H) oLen := by
  intro xs ds H F Q s r h
  unfold oLen at h
  split at h
  · obtain ⟨v, rfl, rv⟩ := r.one
    obtain ⟨p, xs, rfl, q, r'⟩ := rv.lst s
    exact ⟨_, _, rfl, .inl ⟨xs, .inl q, rfl⟩, by rw [r'.length]; exact h.int s⟩
  · obtain ⟨v, rfl, rv⟩ := r.one
    obtain ⟨p, xs, rfl, q, r'⟩ := rv.tup s
    exact ⟨_, _, rfl, .inr ⟨xs, q, rfl⟩, by rw [r'.length]; exact h.int s⟩
  · split at h
    · rename_i z hz
      obtain ⟨v, rfl, rv⟩ := r.one
      exact ⟨_, z.length, rfl, by rw [rv.str]; exact ⟨lim_le hz, rfl⟩, h.int s⟩
    · exact h.elim
  · obtain ⟨v, rfl, rv⟩ := r.one
    obtain ⟨a, ns, rfl, rfl, q⟩ := rb_scr s rv
    exact ⟨_, _, rfl, .inl ⟨_, q, rfl⟩, by rw [List.length_map] at h ⊢; exact h.int s⟩
  · exact h.elim

def oList : OpN
  | [.list ds] => .val (.own false (.list ds))
  | [.tuple ds] => .val (.own false (.list ds))
  | _ => .no
def oTuple : OpN
  | [.list ds] => .val (.frz (.tuple ds))
  | [.tuple ds] => .val (.frz (.tuple ds))
  | _ => .no
theorem ok_tuple : OpNOk K (fun xs H Q => ∃ p ys, xs = [.ref p] ∧ ((SqL K H p ys ∧ ∀ l, H l = none → Q (.ref l) (upd H l (.tup ys))) ∨ (SqT K H p ys ∧ Q (.ref p) H))) oTuple := by
  intro xs ds H F Q s r h
  unfold oTuple at h
  split at h
  · obtain ⟨v, rfl, rv⟩ := r.one
    obtain ⟨p, xs, rfl, q, r'⟩ := rv.lst s
    exact ⟨p, xs, rfl, .inl ⟨.inl q, h.newT s r'⟩⟩
  · obtain ⟨v, rfl, rv⟩ := r.one
    obtain ⟨p, xs, rfl, q, r'⟩ := rv.tup s
    refine ⟨p, xs, rfl, .inr ⟨q, h.here s ?_⟩⟩
    cases rv with
    | fz z => exact z
    | own h1 n1 k1 => cases k1
  · exact h.elim
def oMax2 : OpN
  | [.int i, .int j] => frzI (if j > i then j else i)
  | _ => .no
theorem ok_max2 : OpNOk K (fun xs H Q => ∃ i j, xs = [.int i, .int j] ∧ Q (.int (if j > i then j else i)) H) oMax2 := by
  intro xs ds H F Q s r h
  unfold oMax2 at h
  split at h
  · obtain ⟨v, u, rfl, rv, ru⟩ := r.two
    exact ⟨_, _, by rw [rv.int, ru.int], h.int s⟩
  · exact h.elim
def oMin2 : OpN
  | [.int i, .int j] => frzI (if j < i then j else i)
  | _ => .no
theorem ok_min2 : OpNOk K (fun xs H Q => ∃ i j, xs = [.int i, .int j] ∧ Q (.int (if j < i then j else i)) H) oMin2 := by
  intro xs ds H F Q s r h
  unfold oMin2 at h
  split at h
  · obtain ⟨v, u, rfl, rv, ru⟩ := r.two
    exact ⟨_, _, by rw [rv.int, ru.int], h.int s⟩
  · exact h.elim
def oAbs : OpN
  | [.int i] => frzI (if i < 0 then -i else i)
  | _ => .no
theorem ok_abs : OpNOk K (fun xs H Q => ∃ i, xs = [.int i] ∧ Q (.int (if i < 0 then -i else i)) H) oAbs := by
  intro xs ds H F Q s r h
  unfold oAbs at h
  split at h
  · obtain ⟨v, rfl, rv⟩ := r.one
    exact ⟨_, by rw [rv.int], h.int s⟩
  · exact h.elim
def oDivmod : OpN
  | [.int i, .int j] => if 0 < j ∧ j < 1073741824 then .val (.frz (.tuple [.int (i / j), .int (i % j)])) else .no
  | _ => .no
theorem ok_divmod : OpNOk K (fun xs H Q => ∃ i j, xs = [.int i, .int j] ∧ CDiv i j ∧ ∀ p, H p = none → Q (.ref p) (upd H p (.tup [.int (i / j), .int (i % j)]))) oDivmod := by
  intro xs ds H F Q s r h
  unfold oDivmod at h
  split at h
  · split at h
    · rename_i i j hj
      obtain ⟨v, u, rfl, rv, ru⟩ := r.two
      exact ⟨i, j, by rw [rv.int, ru.int], hj, h.newT s (.cons (.int _) (.one (.int _)))⟩
    · exact h.elim
  · exact h.elim
def intsOf : List PyData → Option (List Int)
  | [] => some []
  | .int i :: ds => (intsOf ds).map (i :: ·)
  | _ :: _ => none
def boolsOf : List PyData → Option (List Bool)
  | [] => some []
  | .bool i :: ds => (boolsOf ds).map (i :: ·)
  | _ :: _ => none
def strsOf : List PyData → Option (List Str)
  | [] => some []
  | .str i :: ds => (strsOf ds).map (i :: ·)
  | _ :: _ => none
theorem intsOf_rds : ∀ {vs : List V} {ds : List PyData} {ns : List Int}, RDs K F vs ds → intsOf ds = some ns → vs = ns.map V.int
  | _, _, _, .nil, h => by cases h; rfl
  | _, _, ns, .cons (d := d) (ds := ds) a b, h => by
    cases a with
    | int i =>
      unfold intsOf at h
      cases e : intsOf ds with
      | none => rw [e] at h; cases h
      | some ms => rw [e] at h; cases h; rw [List.map_cons, ← intsOf_rds b e]
    | _ => cases h
def onInts (k : List Int → OR) : OpN
  | [.list ds] => match intsOf ds with
    | some ns => k ns
    | none => .no
  | _ => .no
def onBools (k : List Bool → OR) : OpN
  | [.list ds] => match boolsOf ds with
    | some ns => k ns
    | none => .no
  | _ => .no
def oSum : OpN := onInts fun ns => frzI ns.sum
def oAll : OpN := onBools fun ns => frzB (ns.all id)
def oAny : OpN := onBools fun ns => frzB (ns.any id)
def maxI : List Int → Int
  | [] => 0
  | [x] => x
  | x :: y :: r => if x < maxI (y :: r) then maxI (y :: r) else x
def minI : List Int → Int
  | [] => 0
  | [x] => x
  | x :: y :: r => if minI (y :: r) < x then minI (y :: r) else x
def oMax : OpN := onInts fun ns => if ns.isEmpty then .no else frzI (maxI ns)
def oMin : OpN := onInts fun ns => if ns.isEmpty then .no else frzI (minI ns)
def insI (x : Int) : List Int → List Int
  | [] => [x]
  | y :: r => if x ≤ y then x :: y :: r else y :: insI x r
def sortI : List Int → List Int
  | [] => []
  | x :: r => insI x (sortI r)
theorem insI_perm (x : Int) : ∀ l : List Int, (insI x l).Perm (x :: l)
  | [] => .refl _
  | y :: r => by
    unfold insI
    split
    · exact .refl _
    · exact ((insI_perm x r).cons y).trans (.swap x y r)
theorem sortI_perm : ∀ l : List Int, (sortI l).Perm l
  | [] => .refl _
  | x :: r => (insI_perm x _).trans ((sortI_perm r).cons x)
theorem insI_sorted (x : Int) : ∀ l : List Int, l.Pairwise (· ≤ ·) → (insI x l).Pairwise (· ≤ ·)
  | [], _ => by unfold insI; exact .cons (fun _ h => nomatch h) .nil
  | y :: r, h => by
    unfold insI
    cases h with
    | cons h1 h2 =>
      split
      · rename_i hx
        refine .cons (fun z hz => ?_) (.cons h1 h2)
        cases hz with
        | head => exact hx
        | tail _ hz => exact Int.le_trans hx (h1 z hz)
      · rename_i hx
        refine .cons (fun z hz => ?_) (insI_sorted x r h2)
        rcases List.mem_cons.mp ((insI_perm x r).mem_iff.mp hz) with e | hz
        · rw [e]; omega
        · exact h1 z hz
theorem sortI_sorted : ∀ l : List Int, (sortI l).Pairwise (· ≤ ·)
  | [] => .nil
  | x :: r => insI_sorted x _ (sortI_sorted r)
theorem sorted_unique : ∀ {a b : List Int}, a.Perm b → a.Pairwise (· ≤ ·) → b.Pairwise (· ≤ ·) → a = b := fun {a b} p h1 h2 =>
  p.eq_of_pairwise (fun x y _ _ h h' => Int.le_antisymm h h') h1 h2
def oSorted : OpN := onInts fun ns => .val (.own false (.list ((sortI ns).map .int)))
def oInt : OpN
  | [.int i] => frzI i
  | [.bool b] => frzI (if b then 1 else 0)
  | _ => .no
theorem ok_int : OpNOk K (fun xs H Q => (∃ i, xs = [.int i] ∧ Q (.int i) H) ∨ ∃ k, xs = [.bl k] ∧ Q (.int (if k then 1 else 0)) H) oInt := by
  intro xs ds H F Q s r h
  unfold oInt at h
  split at h
  · obtain ⟨v, rfl, rv⟩ := r.one
    exact .inl ⟨_, by rw [rv.int], h.int s⟩
  · obtain ⟨v, rfl, rv⟩ := r.one
    exact .inr ⟨_, by rw [rv.bool], h.int s⟩
  · exact h.elim
def oStr : OpN
  | [.int i] => if i.natAbs < 2 ^ 200 then .val (.frz (.str (toString i))) else .no
  | _ => .no
theorem ok_str : OpNOk K (fun xs H Q => ∃ i, xs = [.int i] ∧ i.natAbs.log2 < 1920 ∧ Q (.str (toString i)) H) oStr := by
  intro xs ds H F Q s r h
  unfold oStr at h
  split at h
  · split at h
    · rename_i i hi
      obtain ⟨v, rfl, rv⟩ := r.one
      refine ⟨i, by rw [rv.int], ?_, h.str s⟩
      by_cases z : i.natAbs = 0
      · rw [z]; decide
      · have := (Nat.log2_lt z (k := 1920)).mpr (Nat.lt_of_lt_of_le hi (Nat.pow_le_pow_right (by decide) (by decide)))
        exact this
    · exact h.elim
  · exact h.elim

def isScr : List (PyData × PyData) → Bool
  | [(.none, _)] => true
  | _ => false
def isiD (T : String) : PyData → Option Bool
  | .none => some (T == "NoneType")
  | .bool _ => some (T == "bool" || T == "int")
  | .int _ => some (T == "int")
  | .str _ => some (T == "str")
  | .list _ => some (T == "list")
  | .tuple _ => some (T == "tuple")
  | .dict kvs => if isScr kvs then none else some (T == "dict")
def tyOf : PyData → String
  | .none => "NoneType"
  | .bool _ => "bool"
  | .int _ => "int"
  | .str _ => "str"
  | .list _ => "list"
  | .tuple _ => "tuple"
  | .dict _ => "dict"
def rIsiF : List V → Hp → VK → Prop := fun xs H Q => ∃ (a : Addr) (T : String) (ob : Obj) (kvs : List (List Key × V)) (b : Bool), xs = [.ref a, .ty T] ∧ H a = some (.frz ob (.dT kvs)) ∧ kitB "dict" T = some b ∧ Q (.bl b) H
theorem call_isiF : CallR X (.builtin "isinstance") rIsiF := by
  intro pins s σ H xs us Q I r h
  obtain ⟨a, T, ob, kvs, b, rfl, hH, e, q⟩ := h
  obtain ⟨u1, u2, rfl, r1, r2⟩ := vals2 r
  cases (show u1 = Value.ref a from r1)
  cases (show u2 = Value.type T from r2)
  obtain ⟨g, _, _, _, _, o, _, _, g1, g2, _⟩ := (show ObjOk X.prog X.w H s.heap a (.frz ob (.dT kvs)) from I.hok a _ hH)
  exact PySem.W.kia_one PySem.W.kitx_dict I.kIn ⟨o, g1, g2.1⟩ (kit_ty e) (fun z => nomatch z) fun tk => ⟨.bl b, H, I.tok tk, rfl, q⟩
def rIsiA (K : PySem.W.Frag) : List V → Hp → VK → Prop := fun xs H Q => rIsi K xs H Q ∨ rIsiF xs H Q
theorem call_isiA : CallR X (.builtin "isinstance") (rIsiA X.K) := CallR.or call_isi call_isiF
def cIsi (T : String) (o : Opd) : CE := fun env => (o.ev env).bind fun l env1 => match l.get env1 with
  | some d => match isiD T d with
    | some b => .ok (.frz (.bool b)) env1
    | none => .no
  | none => .no
def KitT (T : String) : Prop := ∀ d b, isiD T d = some b → kitB (tyOf d) T = some b
theorem kit_of_table {T : String} (h1 : kitB "NoneType" T = some (T == "NoneType")) (h2 : kitB "bool" T = some (T == "bool" || T == "int")) (h3 : kitB "int" T = some (T == "int")) (h4 : kitB "str" T = some (T == "str"))
    (h5 : kitB "list" T = some (T == "list")) (h6 : kitB "tuple" T = some (T == "tuple")) (h7 : kitB "dict" T = some (T == "dict")) : KitT T := by
  intro d b h
  cases d with
  | none => rw [← h]; exact h1
  | bool x => rw [← h]; exact h2
  | int x => rw [← h]; exact h3
  | str x => rw [← h]; exact h4
  | list x => rw [← h]; exact h5
  | tuple x => rw [← h]; exact h6
  | dict x =>
    unfold isiD at h
    dsimp only at h
    split at h
    · cases h
    · rw [← h]; exact h7
theorem kitT_int : KitT "int" := kit_of_table (by decide +kernel) (by decide +kernel) (by decide +kernel) (by decide +kernel) (by decide +kernel) (by decide +kernel) (by decide +kernel)
theorem kitT_bool : KitT "bool" := kit_of_table (by decide +kernel) (by decide +kernel) (by decide +kernel) (by decide +kernel) (by decide +kernel) (by decide +kernel) (by decide +kernel)
theorem kitT_str : KitT "str" := kit_of_table (by decide +kernel) (by decide +kernel) (by decide +kernel) (by decide +kernel) (by decide +kernel) (by decide +kernel) (by decide +kernel)
theorem kitT_tuple : KitT "tuple" := kit_of_table (by decide +kernel) (by decide +kernel) (by decide +kernel) (by decide +kernel) (by decide +kernel) (by decide +kernel) (by decide +kernel)
theorem tyx_of {v : V} {d : PyData} {T : String} {b : Bool} (r : RD K H v d) (h : isiD T d = some b) : TyX K H v (.type (tyOf d)) ∨ ∃ a ob kvs, v = .ref a ∧ H a = some (.frz ob (.dT kvs)) ∧ tyOf d = "dict" := by
  cases r with
  | non => exact .inl (.base .non)
  | bl b => exact .inl (.base (.bl b))
  | int i => exact .inl (.base (.int i))
  | str x => exact .inl (.base (.str x))
  | lst q _ =>
    rcases q with q | ⟨o, q⟩
    · exact .inl (.base (.lst q))
    · exact .inl (.base (.frz q))
  | tup q _ =>
    exact .inl (.base (.tup q))
  | scr q => cases h
  | adr a => cases h
  | fn x q => cases h
  | ins q c r => cases h
  | dK _ q _ =>
    rcases q with q | ⟨o, q⟩
    · exact .inl (.base (.dK q))
    · exact .inl (.fDict q)
  | dT q _ =>
    rcases q with q | ⟨o, q⟩
    · exact .inl (.base (.dT q))
    · exact .inr ⟨_, _, _, rfl, q, rfl⟩
theorem de_isi {T : String} {p p2 pos : Pos} {ex : Expr} {o : Opd} {te : TE} (kt : KitT T) (hg : Gl X "isinstance") (hm : X.mg "isinstance" = none) (hgT : Gl X (Str.ofString T)) (hmT : X.mg (Str.ofString T) = none) (hvT : bootBuiltins (Str.ofString T) = some (.type T)) (h : DO X xp W ex o te)
    (hnT : (Str.ofString T) ≠ "__name__" := by decide) (hdT : ((Str.ofString T) == ("__debug__" : Str)) = false := by decide)
    (he : starEach [ex, .Name (Str.ofString T) p2] X.env = (false, eval ex X.env) :: starEach [.Name (Str.ofString T) p2] X.env := by rfl) (he2 : starEach [.Name (Str.ofString T) p2] X.env = (false, eval (.Name (Str.ofString T) p2) X.env) :: starEach [] X.env := by rfl)
    (hpl : (backTo pos (starEach [.Name (Str.ofString T) p2] X.env)).any (·.1) = false := by rfl) :
    DE X xp W (.Call (.Name "isinstance" p) [ex, .Name (Str.ofString T) p2] [] pos) (cIsi T o) (tCB (rIsiA X.K) (tCons te (tCons (tC (.ty T)) tNil))) := by
  refine ⟨pe_callB call_isiA hg hm (by decide +kernel) (pa_cons h.pe (pa_cons (pe_bltn hgT hmT hvT rfl hnT hdT) pa_nil he2) he) (by decide) (by decide) he hpl, fun e σ H F env Q w q => ?_⟩
  refine h.run w (fun x env1 H' F' cls d g w' s y => ?_) (fun g => ?_) fun l env1 v H1 F1 g w1 s1 l1 => ?_
  · unfold cIsi at q; rw [g] at q; exact q H' F' cls d w' s y
  · unfold cIsi at q; rw [g] at q; exact q
  · unfold cIsi at q; rw [g] at q; simp only [Res.bind] at q
    cases g1 : l.get env1 with
    | none => rw [g1] at q; exact q.elim
    | some d =>
      rw [g1] at q; dsimp only at q
      cases g2 : isiD T d with
      | none => rw [g2] at q; exact q.elim
      | some b =>
        rw [g2] at q
        have rd := (RB.of w1 l1 g1).rd w1.sub
        have fin : Q (.bl b) H1 := q (.bl b) H1 F1 w1 s1 (.bl b)
        show rIsiA X.K [v, .ty T] H1 Q
        rcases tyx_of rd g2 with t | ⟨a, ob, kvs, rfl, hH, e⟩
        · exact .inl ⟨v, .ty T, _, _, b, rfl, .ty T, t, kit_ty (kt d b g2), fin⟩
        · exact .inr ⟨a, T, ob, kvs, b, rfl, hH, by rw [← e]; exact kt d b g2, fin⟩

inductive POp where
  | none
  | some (o : Opd)
def POp.ev : POp → Cs → Res (Option Int)
  | .none, env => .ok Option.none env
  | .some o, env => (o.ev env).bind fun l env1 => match l.get env1 with
    | Option.some (.int i) => .ok (Option.some i) env1
    | _ => .no
def cutD (ds : List PyData) (lo hi : Option Int) : List PyData := (ds.drop (HT.sIx ds.length 0 lo)).take (HT.sIx ds.length ds.length hi - HT.sIx ds.length 0 lo)
def oSl (d : PyData) (lo hi : Option Int) : OR := match d with
  | .list ds => .val (.own false (.list (cutD ds lo hi)))
  | .tuple ds => .val (.frz (.tuple (cutD ds lo hi)))
  | .str z => if z.length ≤ lim then .val (.frz (.str (cutS z lo hi))) else .no
  | _ => .no
def cSl (o : Opd) (lo hi : POp) : CE := fun env => (o.ev env).bind fun l env1 => (lo.ev env1).bind fun ll env2 => (hi.ev env2).bind fun lh env3 => match l.get env3 with
  | some d => (oSl d ll lh).fin env3
  | _ => .no
theorem cut_rds {vs : List V} {ds : List PyData} (r : RDs K F vs ds) (lo hi : Option Int) : RDs K F (cutV vs lo hi) (cutD ds lo hi) := by
  unfold cutV cutD
  rw [r.length]
  exact (r.drop _).take _
abbrev rSlA3 (K : PySem.W.Frag) : V → Option Int → Option Int → Hp → VK → Prop := fun x lo hi H Q => rSlL K x lo hi H Q ∨ (fun x lo hi H Q => rSlA K x lo hi H Q ∨ rSlS x lo hi H Q) x lo hi H Q
theorem sl_any : SlR X (rSlA3 X.K) := SlR.or sl_list (SlR.or sl_tupA sl_str)
theorem ok_sl {x : V} {d : PyData} {lo hi : Option Int} (s : Sub F H) (rx : RB K H F x d) (h : OPost K H F Q (oSl d lo hi)) : rSlA3 K x lo hi H Q := by
  unfold oSl at h
  split at h
  · obtain ⟨p, xs, rfl, q, r⟩ := rx.lst s
    exact .inl ⟨p, xs, rfl, .inl q, h.newL s (cut_rds r lo hi)⟩
  · rename_i ds
    obtain ⟨p, xs, rfl, q, r⟩ := rx.tup s
    refine .inr (.inl ⟨p, xs, rfl, q, fun e => ?_, fun _ => h.newT s (cut_rds r lo hi)⟩)
    have e2 : cutD ds lo hi = ds := by
      unfold cutD
      rw [← r.length, e.1, e.2, List.drop_zero, Nat.sub_zero, r.length, List.take_length]
    rw [e2] at h
    refine h.here s ?_
    cases rx with
    | fz z => exact z
    | own h1 n1 k1 => cases k1
  · split at h
    · rename_i z hz
      exact .inr (.inr ⟨z, rx.str, lim_le hz, h.str s⟩)
    · exact h.elim
  · exact h.elim
def DP (X : Cx) (xp : XP) (W : WX) (ex : Option Expr) : POp → TO → Prop
  | .none, t => ex = Option.none ∧ t = tNoPart
  | .some o, t => ∃ e te, ex = Option.some e ∧ DO X xp W e o te ∧ t = tPart te
theorem DP.po {ex : Option Expr} {o : POp} {t : TO} (h : DP X xp W ex o t) : PO X ex t := by
  cases o with
  | none => obtain ⟨rfl, rfl⟩ := h; exact po_none
  | some o => obtain ⟨e, te, rfl, q, rfl⟩ := h; exact po_some q.pe
theorem dp_none : DP X xp W Option.none .none tNoPart := ⟨rfl, rfl⟩
theorem dp_some {ex : Expr} {o : Opd} {te : TE} (h : DO X xp W ex o te) : DP X xp W (Option.some ex) (.some o) (tPart te) := ⟨ex, te, rfl, h, rfl⟩
theorem DP.run {ex : Option Expr} {o : POp} {t : TO} (h : DP X xp W ex o t) {e : Ent} {σ : L2.St} {H F : Hp} {env : Cs} {Q : Option Int → Hp → Prop} (w : Wl X.K e σ H F env)
    (hx : ∀ x env1 H' F' cls d, o.ev env = .ex x env1 → Wl X.K e σ H' F' env1 → Sub F F' → xp x cls d H' → W cls d σ H') (hn : o.ev env ≠ .no)
    (hq : ∀ i env1 H1 F1, o.ev env = .ok i env1 → Wl X.K e σ H1 F1 env1 → Sub F F1 → Q i H1) : t σ H Q := by
  cases o with
  | none =>
    obtain ⟨rfl, rfl⟩ := h
    exact hq Option.none env H F rfl w (.refl _)
  | some o =>
    obtain ⟨e1, te, rfl, q0, rfl⟩ := h
    have ev : (POp.some o).ev env = (o.ev env).bind fun l env1 => match l.get env1 with
      | Option.some (.int i) => .ok (Option.some i) env1
      | _ => .no := rfl
    refine q0.run w (fun x env1 H' F' cls d g w' s y => hx x env1 H' F' cls d (by rw [ev, g]; rfl) w' s y) (fun g => hn (by rw [ev, g]; rfl)) fun l env1 v H1 F1 g w1 s1 l1 => ?_
    rw [g] at ev
    simp only [Res.bind] at ev
    cases g2 : l.get env1 with
    | none => rw [g2] at ev; exact (hn ev).elim
    | some d =>
      have rb := RB.of w1 l1 g2
      rw [g2] at ev
      cases d with
      | int j => exact ⟨j, rb.int, hq (Option.some j) env1 H1 F1 ev w1 s1⟩
      | _ => exact (hn ev).elim
theorem de_sl {ex : Expr} {lo hi : Option Expr} {o : Opd} {plo phi : POp} {te : TE} {tl th : TO} {p2 pos : Pos} (h : DO X xp W ex o te) (hl : DP X xp W lo plo tl) (hh : DP X xp W hi phi th) :
    DE X xp W (.Subscript ex (.Slice lo hi none p2) pos) (cSl o plo phi) (tSl (rSlA3 X.K) te tl th) := by
  refine ⟨pe_slice sl_any h.pe hl.po hh.po, fun e σ H F env Q w q => ?_⟩
  unfold cSl at q
  refine h.run w (fun x env1 H' F' cls d g w' s y => ?_) (fun g => ?_) fun l env1 v H1 F1 g w1 s1 l1 => ?_
  · rw [g] at q; exact q H' F' cls d w' s y
  · rw [g] at q; exact q
  · rw [g] at q; simp only [Res.bind] at q
    refine hl.run w1 (fun x env1 H' F' cls d g2 w' s y => ?_) (fun g2 => ?_) fun i env2 H2 F2 g2 w2 s2 => ?_
    · rw [g2] at q; exact q H' F' cls d w' (s1.trans s) y
    · rw [g2] at q; exact q
    · rw [g2] at q; dsimp only at q
      refine hh.run w2 (fun x env1 H' F' cls d g3 w' s y => ?_) (fun g3 => ?_) fun j env3 H3 F3 g3 w3 s3 => ?_
      · rw [g3] at q; exact q H' F' cls d w' ((s1.trans s2).trans s) y
      · rw [g3] at q; exact q
      · rw [g3] at q; dsimp only at q
        cases g4 : l.get env3 with
        | none => rw [g4] at q; exact q.elim
        | some d =>
          rw [g4] at q
          exact ok_sl w3.sub (.of w3 ((l1.mono s2).mono s3) g4) (.of w3 ((s1.trans s2).trans s3) q)

theorem Step.upd {a : Addr} {u u' : HO} (s : Sub F H) (h : H a = some u) (n : F a = none) : Step a H F (upd H a u') F where
  ex := fun b o nb hb => by rw [upd_ne nb]; exact hb
  fz := .refl _
  sub := by
    refine ⟨fun b x pl r => ?_, fun b q => ?_, fun b vs r => ?_⟩
    · have z : b ≠ a := fun z => by subst z; exact rd_dom r n
      exact rd_congr (upd_ne z).symm (s.rd _ _ pl r)
    · have z : b ≠ a := fun z => by subst z; exact q n
      rw [upd_ne z]; exact s.dom b q
    · have z : b ≠ a := fun z => by subst z; rw [n] at r; cases r
      rw [upd_ne z]; exact s.tp b vs r
  new := fun b q => .inl q
  pl := fun b q n => absurd n q
theorem MPost.non {a : Addr} {u : HO} {vs : List V} {ds : List PyData} (s : Sub F H) (h : H a = some u) (n : F a = none) (p : MPost K a H F Q (.ok (.frz .none) (.list ds))) (r : RDs K F vs ds) : Q .non (upd H a (.lst vs)) :=
  p .non _ F _ (Step.upd s h n) upd_same (.lst r) .non
def mAppend : OpM
  | .list ds, [d] => if ds.length < lim then .ok (.frz .none) (.list (ds ++ [d])) else .no
  | _, _ => .no
theorem ok_append : OpMOk K rAppend mAppend := by
  intro a u d xs ds H F Q s h n k r p
  unfold mAppend at p
  split at p
  · split at p
    · rename_i ds d hl
      cases k with
      | lst rk =>
        cases r with
        | cons r1 r2 =>
          cases r2
          exact ⟨a, _, _, rfl, rfl, h, lim_lt (by rw [rk.length]; exact hl), p.non s h n (rk.append (.one r1))⟩
    · exact p.elim
  · exact p.elim
def rExtL (K : PySem.W.Frag) : V → List V → Hp → VK → Prop := fun x vs H Q => ∃ l b xs zs, x = .ref l ∧ vs = [.ref b] ∧ H l = some (.lst xs) ∧ Rd H b (.lst zs) ∧ xs.length + zs.length ≤ sizeLine ∧ Q .non (upd H l (.lst (xs ++ zs)))
def mExtend : OpM
  | .list ds, [.list es] => if ds.length + es.length ≤ lim then .ok (.frz .none) (.list (ds ++ es)) else .no
  | .list ds, [.tuple es] => if ds.length + es.length ≤ lim then .ok (.frz .none) (.list (ds ++ es)) else .no
  | _, _ => .no
def mClear : OpM
  | .list ds, [] => .ok (.frz .none) (.list [])
  | _, _ => .no
def mReverse : OpM
  | .list ds, [] => .ok (.frz .none) (.list ds.reverse)
  | _, _ => .no
def mInsert : OpM
  | .list ds, [.int i, d] => if ds.length < lim ∧ 0 ≤ i ∧ i < 1000000 then .ok (.frz .none) (.list (ds.take i.toNat ++ [d] ++ ds.drop i.toNat)) else .no
  | _, _ => .no
def mPop : OpM
  | .list ds, [] => match ds[ds.length - 1]? with
    | some d => .ok (.frz d) (.list ds.dropLast)
    | none => .no
  | _, _ => .no
theorem RDs.dropLast {vs : List V} {ds : List PyData} (r : RDs K F vs ds) : RDs K F vs.dropLast ds.dropLast := by
  rw [List.dropLast_eq_take, List.dropLast_eq_take, r.length]
  exact r.take _
def mPopAt : OpM
  | .list ds, [.int 0] => match ds with
    | d :: ds' => .ok (.frz d) (.list ds')
    | [] => .no
  | _, _ => .no
def sList : OpS
  | .list ds, .int i, d => match ixN ds.length i with
    | some j => some (.list (ds.set j d))
    | none => none
  | _, _, _ => none
theorem ok_setL : OpSOk K rSetL sList := by
  intro a u d ix dx x dv d' H F Q s h n k ri rx e q
  unfold sList at e
  split at e
  · split at e
    · rename_i ds i _ j hj
      cases e
      cases k with
      | lst rk => exact ⟨a, _, i, j, rfl, ri.int, h, by rw [rk.length]; exact hj, q _ F _ (Step.upd s h n) upd_same (.lst (RDs.set rx j rk))⟩
    · cases e
  · cases e
end
end DL

namespace PySem
open Sem (wp)
open AutoSeq1 (wpAny_loadPart')
theorem meets_enumerate_newT (t : Addr) (items : Array Value) (n : Nat) (dct : Option Addr) (sl : Array (Option Value)) :
    Meets (Builtin.«enumerate.__new__» ⟨[.type "enumerate", .ref t], []⟩) (fun _ R s => s.heap.get? t = some { cls := .type "tuple", dict := dct, data := .seq items n, slots := sl } ∧
      R (.ok (.ret (.ref (s.heap.objs.size + 1))))
        { s with heap := (s.heap.push { cls := .type "tuple_iterator", data := .fields #[.ref t, .int 0 0] }).push { cls := .type "enumerate", data := .fields #[.none, .bool false, .ref s.heap.objs.size, rawInt 0, .none, .none] } }) :=
  .of_wp fun prog w A R s h => by
    obtain ⟨hp, g, d, tk, os⟩ := s
    obtain ⟨hl, h⟩ := h
    have hsub := sub_enumerate
    have hT : Heap.IsTuple (Shared.heap ⟨hp, g, d, tk, os⟩) t items := ⟨_, hl, rfl, n, rfl⟩
    have hz : (hp.push { cls := .type "tuple_iterator", data := .fields #[.ref t, .int 0 0] }).objs.size = hp.objs.size + 1 := Heap.size_push ..
    wp_walk using wpAny_loadPart' hl
    refine wpAny_stack_any fun st => wpAny_pure ?_
    split
    · rename_i c _ _ _ _ _
      cases (c == Value.type "enumerate")
      · wp_walk using wpAny_loadPart' hl, wpAny_pyIter_tuple hT
        exact ⟨_, rfl, by rw [← hz] at h; exact h⟩
      · wp_walk using wpAny_loadPart' hl, wpAny_pyIter_tuple hT
        exact ⟨_, rfl, by rw [← hz] at h; exact h⟩
    · wp_walk using wpAny_loadPart' hl, wpAny_pyIter_tuple hT
      exact ⟨_, rfl, by rw [← hz] at h; exact h⟩
end PySem
namespace DL
open PySem PySem.Spec PyProof.Rows L2
theorem call_enum_tup {prog : Program} {w : World} {A : Around} {E : Value → Shared → Prop} {s : Shared} {t : Addr} {items : Array Value} {Q : Value → Shared → Prop} (hL : s.heap.IsTuple t items)
    (h : ∀ h', IsEnum h' (s.heap.objs.size + 1) s.heap.objs.size 0 .none → h'.IsTupleIter s.heap.objs.size t 0 → (∀ b o, s.heap.get? b = some o → h'.get? b = some o) → Q (.ref (s.heap.objs.size + 1)) { s with heap := h' }) :
    wpAny (model prog w) A (call (.type "enumerate") [.ref t]) Q E s := by
  obtain ⟨⟨c, dct, dt, sl⟩, hl, hc, n, hd⟩ := hL
  cases (show c = .type "tuple" from hc)
  cases (show dt = .seq items n from hd)
  have z1 : (s.heap.push { cls := .type "tuple_iterator", data := .fields #[.ref t, .int 0 0] }).objs.size = s.heap.objs.size + 1 := Heap.size_push ..
  have he := Heap.get?_push_size (s.heap.push { cls := .type "tuple_iterator", data := .fields #[.ref t, .int 0 0] }) (o := { cls := .type "enumerate", data := .fields #[.none, .bool false, .ref s.heap.objs.size, rawInt 0, .none, .none] }) rfl
  rw [z1] at he
  refine callType_new F.called_enumerate (by decide) (F.typeCall_enumerate_1 _) (F.newCall_enumerate_1 _) (fun obj => F.args_object_init_2 obj _) F.entry_enumerate_new (meets_enumerate_newT t items n dct sl) ⟨hl, ?_⟩
  exact ⟨⟨_, he, rfl⟩, h _ he ⟨_, Heap.get?_push_of_some _ (Heap.get?_push_size _ rfl), rfl, rfl⟩ fun b o x => Heap.get?_push_of_some _ (Heap.get?_push_of_some _ x)⟩
def IteT (K : PySem.W.Frag) (a : Addr) : It where
  go := fun i H => ∃ (xs : List V) (x : V), SqT K H a xs ∧ xs[i]? = some x
  yld := fun i H v H' => ∃ T x, v = .ref T ∧ H T = none ∧ H' = upd H T (.tup [.int (i : Nat), x]) ∧ ∀ xs, SqT K H a xs → xs[i]? = some x
  stop := fun i H => ∃ xs : List V, SqT K H a xs ∧ xs.length = i
theorem tup_inj {X : Cx} {pins : List (Addr × Obj)} {σ : L2.St} {H : Hp} {s : Shared} {a : Addr} {xs ys : List V} (I : Inv X pins σ H s) (h : SqT X.K H a xs) (h' : SqT X.K H a ys) : xs = ys := by
  exact I.tuple_inj h h'
theorem turn_enumT {P : Program} {w : World} {K : PySem.W.Frag} {elts : List Expr} {kk : Nat} {tpos : Pos} (a e it : Addr) (hea : e ≠ a) (hia : a ≠ it) :
    Turn P w K (.Tuple elts kk tpos) (IteT K a) [e, it] e (fun i h => (∃ old, IsEnum h e it ((i : Nat) : Int) old) ∧ h.IsTupleIter it a i ∧ e ≠ it) where
  mem := List.mem_cons_self
  obj := fun i h ⟨⟨old, he⟩, ⟨o, ho, hc, hd⟩, _⟩ b hb => by
    rcases List.mem_cons.mp hb with rfl | hb
    · exact ⟨_, he, fun v q => nomatch q⟩
    · cases List.mem_singleton.mp hb
      exact ⟨o, ho, fun v q => by rw [hd] at q; cases q⟩
  keep := fun i h h' ⟨⟨old, he⟩, ⟨o, ho, r⟩, ne⟩ k => ⟨⟨old, k e List.mem_cons_self _ he⟩, ⟨o, k it (List.mem_cons_of_mem _ List.mem_cons_self) o ho, r⟩, ne⟩
  item := by
    intro X hP hw hK hc i pins s σ H E I hf st hg
    subst hP hw hK
    obtain ⟨⟨old, he⟩, hit, hne⟩ := st
    obtain ⟨xs, x, hq, hx⟩ := hg
    obtain ⟨its, rv, p, hz⟩ := I.tuple hq
    obtain ⟨u, hu, ru⟩ := rv.get hx
    have hi : i < its.toArray.size := by
      rw [List.size_toArray, ← rv.length]; exact (List.getElem?_eq_some_iff.mp hx).1
    have hel : e < s.heap.objs.size := Heap.lt_size he
    have hil : it < s.heap.objs.size := by obtain ⟨_, q, _⟩ := hit; exact Heap.lt_size q
    refine wpAny_pyNext_enum_itemD (Draws.tuple (A := X.A.in1) (I.ok.hd hc) it a hia its.toArray) he ⟨hit, p⟩ hi hne (fun z => ?_) fun v h' tk hv ho hit' hT hsz hk => ?_
    · rcases List.mem_cons.mp z with z | z
      · exact hne z
      · exact hea (List.mem_singleton.mp z)
    have ev : v = u := by
      have q : its.toArray[i]? = some v := hv
      rw [List.getElem?_toArray, hu] at q; exact (Option.some.inj q).symm
    subst ev
    refine ⟨_, rfl, wpAny_letOwnedTupleGo_enum (s := { s with heap := h', toks := tk + 1 }) ho fun h2 he' sb => ?_⟩
    have hT2 : h2.get? s.heap.objs.size = some { cls := .type "tuple", data := .seq #[.int i tk, v] } := (sb.2 _ (Nat.ne_of_gt hel)).trans hT
    have I1 : Inv X pins σ (upd H s.heap.objs.size (.tup [.int (i : Nat), x])) { s with heap := h2, toks := tk + 1 } :=
      I.turnedNew (ch := [e, it]) (fun b ob hb q => (sb.2 b (fun z => hb (z ▸ List.mem_cons_self))).trans (hk b ob (fun z => hb (z ▸ List.mem_cons_self)) (fun z => hb (z ▸ List.mem_cons_of_mem _ List.mem_cons_self)) q)) hf (Nat.le_refl _)
        ⟨(by show 2 ≤ sizeLine; decide), [.int i tk, v], .cons ⟨_, rfl⟩ (.cons ru .nil), ⟨_, hT2, rfl, _, rfl⟩⟩
    refine ⟨.ref s.heap.objs.size, _, I1, rfl, ⟨_, x, rfl, I.hok.fresh (Nat.le_refl _), rfl, fun ys hy => by rw [tup_inj I hy hq]; exact hx⟩, ⟨⟨v, ?_⟩, ?_, hne⟩, fun b hb => ?_⟩
    · rw [show ((i + 1 : Nat) : Int) = (i : Int) + 1 by omega]; exact he'
    · obtain ⟨o, q, r⟩ := hit'.1
      exact ⟨o, (sb.2 it (Ne.symm hne)).trans q, r⟩
    · have hb' : b ≠ s.heap.objs.size := by
        rcases List.mem_cons.mp hb with z | z
        · rw [z]; exact Nat.ne_of_lt hel
        · rw [List.mem_singleton.mp z]; exact Nat.ne_of_lt hil
      rw [upd_ne hb']; exact (hf b hb).1
  done := by
    intro X hP hw hK hc i pins s σ H E I hf st hg
    subst hP hw hK
    obtain ⟨⟨old, he⟩, hit, hne⟩ := st
    obtain ⟨xs, hq, hx⟩ := hg
    obtain ⟨its, rv, p, hz⟩ := I.tuple hq
    obtain ⟨f0, f1, f2, f3, f4, f5⟩ := hf it (List.mem_cons_of_mem _ List.mem_cons_self)
    have ei : i = its.toArray.size := by rw [List.size_toArray, ← rv.length]; exact hx.symm
    subst ei
    exact wpAny_pyNext_enum_endD (Draws.tuple (A := X.A.in1) (I.ok.hd hc) it a hia its.toArray) he ⟨hit, p⟩ fun h' eb => ⟨rfl, I.turned (t' := s.toks) (fun b o hb q => eb b o hb q) f0 f1 f3 f4 f5⟩
  self := fun A i s Q E ⟨⟨_, he⟩, _⟩ h => wpAny_pyIter_enum he h
def iEnumT (K : PySem.W.Frag) (ta : TA) : TI := fun σ H R => ta σ H fun vs H1 => ∃ a xs, vs = [.ref a] ∧ SqT K H1 a xs ∧ R (IteT K a) H1
theorem pi_enumT {X : Cx} {e : Expr} {ta : TA} {p pos tpos : Pos} {elts : List Expr} {kk : Nat} (hg : Gl X "enumerate") (hm : X.mg "enumerate" = none) (ha : PA X [e] ta) (hs : starEach [e] X.env = [(false, eval e X.env)] := by rfl) :
    PI X (.Tuple elts kk tpos) (.Call (.Name "enumerate" p) [e] [] pos) (iEnumT X.K ta) := by
  refine ⟨fun pins s σ H R I h => Call_ (ld_blt I hg hm boot_enumerate (PyProof.Rows.callWith_type1 (thn (ha.run pos pins s σ H _ I h) fun us s1 ⟨vs, H1, I1, r1, a, xs, ex, hq, q⟩ => ?_) hs rfl))⟩
  subst ex
  cases r1 with
  | cons r rr =>
    cases rr
    cases (show _ = Value.ref a from r)
    obtain ⟨its, rv, p', hz⟩ := I1.tuple hq
    have al : a < s1.heap.objs.size := by obtain ⟨_, q', _⟩ := p'; exact Heap.lt_size q'
    refine call_enum_tup p' fun h' he hit hk => wpAny_pyIter_enum he ?_
    have I2 : Inv X pins σ H1 { s1 with heap := h' } := I1.kept (t' := s1.toks) hk
    refine ⟨s1.heap.objs.size + 1, [s1.heap.objs.size + 1, s1.heap.objs.size], _, _, H1, rfl, I2, turn_enumT a (s1.heap.objs.size + 1) s1.heap.objs.size (Nat.ne_of_gt (Nat.lt_succ_of_lt al)) (Nat.ne_of_lt al), ⟨⟨.none, he⟩, hit, Nat.succ_ne_self _⟩, fun b hb => ?_, q⟩
    have hle : s1.heap.objs.size ≤ b := by
      rcases List.mem_cons.mp hb with z | z
      · rw [z]; exact Nat.le_succ _
      · rw [List.mem_singleton.mp z]; exact Nat.le_refl _
    exact I1.fpOk hle (I1.hok.fresh hle)
section
variable {X : Cx} {xp : XP} {W : WX} {K : PySem.W.Frag}
def enumD (k : Nat) : List PyData → List PyData
  | [] => []
  | d :: ds => .tuple [.int (k : Nat), d] :: enumD (k + 1) ds
theorem enumD_len : ∀ (k : Nat) (ds : List PyData), (enumD k ds).length = ds.length
  | _, [] => rfl
  | k, d :: ds => by unfold enumD; rw [List.length_cons, List.length_cons, enumD_len]
theorem enumD_get : ∀ (k : Nat) (ds : List PyData) (i : Nat), (enumD k ds)[i]? = (ds[i]?).map fun d => .tuple [.int ((k + i : Nat) : Int), d]
  | _, [], i => by unfold enumD; simp
  | k, d :: ds, 0 => rfl
  | k, d :: ds, i + 1 => by
    unfold enumD
    rw [List.getElem?_cons_succ, List.getElem?_cons_succ, enumD_get, show k + 1 + i = k + (i + 1) by omega]
def enumOf : List PyData → Option (List PyData)
  | [.list ds] => some (enumD 0 ds)
  | [.tuple ds] => some (enumD 0 ds)
  | _ => none
theorem pair_grow {e : Ent} {σ : L2.St} {H F : Hp} {env : Cs} {T : Addr} {x : V} {d : PyData} {i : Nat} (w : Wl K e σ H F env) (hT : H T = none) (r : RD K F x d) :
    ∃ F', Grow H F (upd H T (.tup [.int (i : Nat), x])) F' ∧ RD K F' (.ref T) (.tuple [.int (i : Nat), d]) :=
  ⟨_, w.grow_frz hT, .tup upd_same (.cons (.int _) (.one (r.mono (upd_sub (w.fresh hT)))))⟩
theorem ite_ok {e : Ent} {F₁ : Hp} {a : Addr} {vs : List V} {ds : List PyData} (h : SqL K F₁ a vs) (r : RDs K F₁ vs ds) : ItOk K (Ite K a) (enumD 0 ds) e F₁ := by
  intro σ H F env w s i
  have hH : SqL K H a vs := w.sub.sqL (s.sqL h)
  refine ⟨fun d hd => ?_, fun hl => ⟨vs, hH, by rw [enumD_len] at hl; rw [r.length]; exact Nat.le_of_eq hl⟩⟩
  rw [enumD_get] at hd
  cases g : ds[i]? with
  | none => rw [g] at hd; cases hd
  | some d0 =>
    rw [g] at hd; cases hd
    obtain ⟨v, hv, rv⟩ := r.get' g
    refine ⟨⟨vs, v, hH, hv⟩, fun x H' y => ?_⟩
    obtain ⟨T, x0, rfl, hT, rfl, f⟩ := y
    have ev := (f vs hH).symm.trans hv
    cases ev
    rw [Nat.zero_add]
    exact pair_grow w hT (rv.mono s)
theorem iteT_ok {e : Ent} {F₁ : Hp} {a : Addr} {vs : List V} {ds : List PyData} (h : SqT K F₁ a vs) (r : RDs K F₁ vs ds) : ItOk K (IteT K a) (enumD 0 ds) e F₁ := by
  intro σ H F env w s i
  have hH : SqT K H a vs := w.sub.sqT (s.sqT h)
  refine ⟨fun d hd => ?_, fun hl => ⟨vs, hH, by rw [enumD_len] at hl; rw [r.length]; exact hl⟩⟩
  rw [enumD_get] at hd
  cases g : ds[i]? with
  | none => rw [g] at hd; cases hd
  | some d0 =>
    rw [g] at hd; cases hd
    obtain ⟨v, hv, rv⟩ := r.get' g
    refine ⟨⟨vs, v, hH, hv⟩, fun x H' y => ?_⟩
    obtain ⟨T, x0, rfl, hT, rfl, f⟩ := y
    have ev := (f vs hH).symm.trans hv
    cases ev
    rw [Nat.zero_add]
    exact pair_grow w hT (rv.mono s)
def iEnumC (c : CE) : CI := fun env => (c env).bind fun c env1 => match c.val with
  | some d => match seqOf d with
    | some ds => .ok (enumD 0 ds) env1
    | none => .no
  | none => .no
theorem di_enum {elts : List Expr} {kk : Nat} {ex : Expr} {p pos tpos : Pos} {c : CE} {t : TE} (hg : Gl X "enumerate") (hm : X.mg "enumerate" = none) (h : DE X xp W ex c t) (hs : starEach [ex] X.env = (false, eval ex X.env) :: starEach [] X.env := by rfl) :
    DI X xp W (.Tuple elts kk tpos) (.Call (.Name "enumerate" p) [ex] [] pos) (iEnumC c) (fun σ H R => iEnum X.K (tCons t tNil) σ H (fun J H1 => Fact X.K H1 → R J H1) ∨ iEnumT X.K (tCons t tNil) σ H (fun J H1 => Fact X.K H1 → R J H1)) := by
  refine ⟨PI.or (PI.fact (pi_enum hg hm (pa_cons h.1 pa_nil hs) hs)) (PI.fact (pi_enumT hg hm (pa_cons h.1 pa_nil hs) hs)), fun e σ H F env R w p => ?_⟩
  unfold iEnumC at p
  cases g : c env with
  | no => rw [g] at p; exact p.elim
  | ex x env1 => rw [g] at p; exact .inl (h.2 e σ H F env _ w (by rw [g]; exact p))
  | ok c1 env1 =>
    rw [g] at p; simp only [Res.bind] at p
    cases g2 : c1.val with
    | none => rw [g2] at p; exact p.elim
    | some d =>
      rw [g2] at p; dsimp only at p
      cases g3 : seqOf d with
      | none => rw [g3] at p; exact p.elim
      | some ds =>
        rw [g3] at p
        cases d with
        | list ds' =>
          cases g3
          refine .inl (h.2 e σ H F env _ w ?_)
          rw [g]
          intro v H' F' w' s r
          obtain ⟨F2, d2, e2, w2, s2, r2⟩ := r.freeze w'
          rw [g2] at e2; cases e2
          cases r2 with
          | lst q rs => exact ⟨_, _, rfl, w2.sub.sqL (.inl q), fun ff => p _ H' F2 w2 (s.trans s2) (ite_ok (.inl q) rs) (by rw [enumD_len, ← rs.length]; exact ff.1 _ _ (w2.sub.sqL (.inl q)))⟩
        | tuple ds' =>
          cases g3
          refine .inr (h.2 e σ H F env _ w ?_)
          rw [g]
          intro v H' F' w' s r
          obtain ⟨F2, d2, e2, w2, s2, r2⟩ := r.freeze w'
          rw [g2] at e2; cases e2
          cases r2 with
          | tup q0 rs => exact (fun q : SqT X.K F2 _ _ => ⟨_, _, rfl, w2.sub.sqT q, fun ff => p _ H' F2 w2 (s.trans s2) (iteT_ok q rs) (by rw [enumD_len, ← rs.length]; exact ff.2 _ _ (w2.sub.sqT q))⟩) (.inl (.inl q0))
        | none => cases g3
        | bool b => cases g3
        | int b => cases g3
        | str b => cases g3
        | dict b => cases g3

def rExtT (K : PySem.W.Frag) : V → List V → Hp → VK → Prop := fun x vs H Q => ∃ l b xs zs, x = .ref l ∧ vs = [.ref b] ∧ H l = some (.lst xs) ∧ SqT K H b zs ∧ xs.length + zs.length ≤ sizeLine ∧ Q .non (upd H l (.lst (xs ++ zs)))
end
end DL

namespace DL
open PySem PySem.Spec PyProof.Rows L2
section
variable {X : Cx} {xp : XP} {W : WX} {K : PySem.W.Frag}
theorem hu64 {k : Nat} {A : Around} (hr : Room k A) : A.units + 64 < cLine := by have := hr.un; omega
theorem hu65 {k : Nat} {A : Around} (hr : Room k A) : A.units + 65 < cLine := by have := hr.un; omega
def cUnp (g : Tg) (c : CE) : CS := fun env => match c env with
  | .ok c env1 => match c.val with
    | some d => match g.put d env1 with
      | some env2 => .nx env2
      | none => .no
    | none => .no
  | .ex x env1 => .ex x env1
  | .no => .no
theorem ds_unp {tg ex : Expr} {g : Tg} {gt : TG} {c : CE} {t : TE} {pos : Pos} (h : DE X xp W ex c t) (hg : DG X tg g gt) (hs : swapsWithSole [tg] ex pos.line X.env = pure false := by rfl) (hw : swappedStores [tg] ex X.env = pure none := by rfl)
    (h1 : (assignEach [tg] X.env).map (·.2) = [assign tg X.env] := by rfl) : DS X xp W (.Assign [tg] ex pos) (cUnp g c) := by
  refine ⟨_, ps_asg h.1 hg.1 hs hw h1, fun e σ H F env D w q => h.2 e σ H F env _ w ?_⟩
  unfold cUnp at q
  cases gc : c env with
  | no => rw [gc] at q; exact q
  | ex x env1 => rw [gc] at q; exact fun H' F' cls d w' s y => q σ H' F' cls d w' s y
  | ok c1 env1 =>
    rw [gc] at q; dsimp only at q
    intro v H' F' w' s r
    obtain ⟨F2, d, ev, w2, s2, r2⟩ := r.freeze w'
    rw [ev] at q; dsimp only at q
    cases gp : g.put d env1 with
    | none => rw [gp] at q; exact q.elim
    | some env2 =>
      rw [gp] at q
      exact hg.2 e σ H' F2 env1 env2 v d _ w2 r2 gp fun σ' w3 _ => q σ' H' F2 w3 (s.trans s2)
def cPar (i j : Nat) (c d : CE) : CS := fun env => match c env with
  | .ok c1 env1 => match d env1 with
    | .ok d1 env2 => match isLck (env2.getD i .emp) || isLck (env2.getD j .emp) with
      | true => .no
      | false => .nx ((env2.set i c1.asg).set j d1.asg)
    | .ex x env2 => .ex x env2
    | .no => .no
  | .ex x env1 => .ex x env1
  | .no => .no
theorem RC.live {e : Ent} {σ : L2.St} {H F H' F' : Hp} {env env' : Cs} {v : V} {c : Cell} (w : Wl K e σ H F env) (w' : Wl K (turnE e σ H F env) σ H' F' env') (s : Sub F F') (h : RC K e σ H F env v c) : RC K e σ H' F' env' v c := by
  cases c with
  | frz d => exact RD.mono s h
  | own b d =>
    obtain ⟨p, u, rfl, h1, n1, k1, m, no⟩ := h
    have np : ¬ (turnE e σ H F env).P p := fun ⟨j, b, d, hc, hx⟩ => no j _ hc rfl hx
    refine ⟨p, u, rfl, w'.keep p u h1 np, ?_, k1.mono s, m, fun j c hc hm hx => ?_⟩
    · cases z : F' p with
      | none => rfl
      | some o =>
        rcases w'.new p (by rw [z]; exact fun y => nomatch y) with y | y | y
        · exact absurd n1 y
        · exact (NewA.no (H := H) y h1 k1.mut).elim
        · exact (np y).elim
    · cases c with
      | own b2 d2 =>
        rcases w'.mine j b2 d2 p hc hx with y | y
        · have y' : H p = none := y
          rw [h1] at y'; cases y'
        · exact np y
      | lck d2 => exact no j _ (w.lk j d2 (w'.lk2 j d2 hc)) rfl hx
      | emp => cases hm
      | frz d2 => cases hm
      | exc x => cases hm
  | emp => exact h.elim
  | lck d => exact h.elim
  | exc x => exact h.elim
theorem RC.set {e : Ent} {σ : L2.St} {H F : Hp} {env : Cs} {v u : V} {c c2 : Cell} {i : Nat} (h : RC K e σ H F env v c) (h2 : RC K e σ H F env u c2) (ne : ∀ b d b2 d2, c = .own b d → c2 = .own b2 d2 → v ≠ u) : RC K e (σ.set i (some u)) H F (env.set i c2.asg) v c := by
  cases c with
  | frz d => exact h
  | own b d =>
    obtain ⟨p, o, rfl, h1, n1, k1, m, no⟩ := h
    refine ⟨p, o, rfl, h1, n1, k1, m, fun j c hc hm hx => ?_⟩
    by_cases z : i = j
    · subst z
      have hi : i < env.length := by simpa using (List.getElem?_eq_some_iff.mp hc).1
      have hj : i < σ.length := by simpa using (List.getElem?_eq_some_iff.mp hx).1
      rw [List.getElem?_set_self hi] at hc
      rw [List.getElem?_set_self hj] at hx
      cases hc
      cases hx
      cases c2 with
      | own b2 d2 => exact ne b d b2 d2 rfl rfl rfl
      | frz d2 => cases hm
      | emp => exact h2.elim
      | lck d2 => exact h2.elim
      | exc x => exact h2.elim
    · rw [List.getElem?_set_ne z] at hc hx
      exact no j c hc hm hx
  | emp => exact h.elim
  | lck d => exact h.elim
  | exc x => exact h.elim
theorem de_glI {x : Str} {i : Int} {pos : Pos} (hg : Gl X x) (hm : ∃ t, X.mg x = some (.int i t)) (hd : (x == ("__debug__" : Str)) = false := by decide) : DE X xp W (.Name x pos) (cK (.int i)) (tC (.int i)) :=
  let ⟨t, h⟩ := hm; de_k (pe_glob hg h ⟨t, rfl⟩ hd) fun _ => .int i
theorem de_glS {x : Str} {i : Str} {pos : Pos} (hg : Gl X x) (hm : ∃ t, X.mg x = some (.str i t)) (hd : (x == ("__debug__" : Str)) = false := by decide) : DE X xp W (.Name x pos) (cK (.str i)) (tC (.str i)) :=
  let ⟨t, h⟩ := hm; de_k (pe_glob hg h ⟨t, rfl⟩ hd) fun _ => .str i
def cNeg (o : Opd) : CE := fun env => (o.ev env).bind fun l env1 => match l.get env1 with
  | some (.int i) => .ok (.frz (.int (-i))) env1
  | _ => .no
theorem de_neg {a : Expr} {o : Opd} {ta : TE} {pos : Pos} (ha : DO X xp W a o ta) : DE X xp W (.UnaryOp .USub a pos) (cNeg o) (tUn (rU fun i => .int (-i)) ta) := by
  refine ⟨pe_un un_neg ha.pe, fun e σ H F env Q w q => ?_⟩
  unfold cNeg at q
  refine ha.run w (fun x env1 H' F' cls d g w' s y => ?_) (fun g => ?_) fun l env1 v H1 F1 g w1 s1 l1 => ?_
  · rw [g] at q; exact q H' F' cls d w' s y
  · rw [g] at q; exact q
  · rw [g] at q; simp only [Res.bind] at q
    cases g1 : l.get env1 with
    | none => rw [g1] at q; exact q.elim
    | some d =>
      rw [g1] at q
      cases d with
      | int i => exact ⟨i, (RB.of w1 l1 g1).int, q _ H1 F1 w1 s1 (.int _)⟩
      | _ => exact q.elim
end
def xp0 : XP := fun _ _ _ _ => False
theorem bt_abs : bootBuiltins "abs" = some (.builtin "abs") := by decide +kernel
theorem bt_max : bootBuiltins "max" = some (.builtin "max") := by decide +kernel
theorem bt_min : bootBuiltins "min" = some (.builtin "min") := by decide +kernel
theorem bt_len : bootBuiltins "len" = some (.builtin "len") := by decide +kernel
theorem bt_divmod : bootBuiltins "divmod" = some (.builtin "divmod") := by decide +kernel
theorem bt_repr : bootBuiltins "repr" = some (.builtin "repr") := by decide +kernel
theorem bt_tuple : bootBuiltins "tuple" = some (.type "tuple") := by decide +kernel
theorem bt_int : bootBuiltins "int" = some (.type "int") := by decide +kernel
theorem bt_str : bootBuiltins "str" = some (.type "str") := by decide +kernel
theorem bt_bool : bootBuiltins "bool" = some (.type "bool") := by decide +kernel
end DL

namespace DL
open PySem PySem.Spec PyProof.Rows L2
section
variable {X : Cx} {xp : XP} {W : WX} {K : PySem.W.Frag}
def rgDown (a : Int) (n : Nat) : List PyData := (List.range n).map fun i => .int (a - (i : Nat))
def rg3 : List PyData → Option (List PyData)
  | [.int a, .int b, .int c] => if c = -1 ∧ (-1000000 ≤ a ∧ a ≤ 1000000) ∧ -1000000 ≤ b ∧ b ≤ 1000000 then some (rgDown a (a - b).toNat) else none
  | _ => none
theorem RBs.three {H F : Hp} {vs : List V} {d d' d2 : PyData} (h : RBs K H F vs [d, d', d2]) : ∃ v v' u, vs = [v, v', u] ∧ RB K H F v d ∧ RB K H F v' d' ∧ RB K H F u d2 := by
  cases h with | cons a b => cases b with | cons c e => cases e with | cons f g => cases g; exact ⟨_, _, _, rfl, a, c, f⟩
def rgL (a b : Int) : List PyData := rgD a (b - a).toNat
def cRg1 (k : List PyData → OR) (o : Opd) : CE := fun env => (o.ev env).bind fun l env1 => match l.get env1 with
  | some (.int n) => if -1000000 ≤ n ∧ n ≤ 1000000 then (k (rgL 0 n)).fin env1 else .no
  | _ => .no
def lockE (e : Ent) (i : Nat) (d : PyData) (v : V) : Ent := { e with pin := fun j => if j = i then some v else e.pin j, lk := fun j => if j = i then some d else e.lk j }
section
variable {e : Ent} {σ σ' : L2.St} {H F H' F' : Hp} {env env' : Cs} {i : Nat} {b : Bool} {d : PyData} {v : V}
theorem Wl.lock (w : Wl K e σ H F env) (h : env[i]? = some (.own b d)) (hx : σ[i]? = some (some v)) : Wl K (lockE e i d v) σ H F (env.set i (.lck d)) := by
  have hl : i < env.length := (List.getElem?_eq_some_iff.mp h).1
  have mn : ∀ {j : Nat} {c : Cell}, (env.set i (.lck d))[j]? = some c → c.mine = true → ∃ c', env[j]? = some c' ∧ c'.mine = true := fun {j c} hc hm => by
    by_cases z : i = j
    · subst z; exact ⟨_, h, rfl⟩
    · rw [List.getElem?_set_ne z] at hc; exact ⟨c, hc, hm⟩
  refine ⟨by rw [List.length_set]; exact w.len, w.sub, ?_, ?_, w.keep, w.new, ?_, ?_, ?_, ?_, w.pl⟩
  · intro j c x hc hx'
    by_cases z : i = j
    · subst z; rw [List.getElem?_set_self hl] at hc; cases hc; have q := w.cell i _ x h hx'; exact q
    · rw [List.getElem?_set_ne z] at hc; exact w.cell j c x hc hx'
  · intro j k c1 c2 a n h1 h2 m1 m2 x1 x2
    obtain ⟨c1', g1, n1⟩ := mn h1 m1
    obtain ⟨c2', g2, n2⟩ := mn h2 m2
    exact w.apart j k c1' c2' a n g1 g2 n1 n2 x1 x2
  · intro j b2 d2 a hc hx'
    by_cases z : i = j
    · subst z; rw [List.getElem?_set_self hl] at hc; cases hc
    · rw [List.getElem?_set_ne z] at hc; exact w.mine j b2 d2 a hc hx'
  · intro j c hc hk
    by_cases z : i = j
    · subst z; exact ⟨v, if_pos rfl, hx⟩
    · rw [List.getElem?_set_ne z] at hc
      obtain ⟨u, h1, h2⟩ := w.pin j c hc hk
      exact ⟨u, (if_neg (Ne.symm z)).trans h1, h2⟩
  · intro j d2 hj
    by_cases z : j = i
    · have hj' : some d = some d2 := (if_pos z).symm.trans hj
      cases hj'
      rw [z, List.getElem?_set_self hl]
    · have hj' : e.lk j = some d2 := (if_neg z).symm.trans hj
      rw [List.getElem?_set_ne (Ne.symm z)]; exact w.lk j d2 hj'
  · intro j d2 hc
    by_cases z : j = i
    · rw [z, List.getElem?_set_self hl] at hc; cases hc
      exact if_pos z
    · rw [List.getElem?_set_ne (Ne.symm z)] at hc
      exact (if_neg z).trans (w.lk2 j d2 hc)
theorem Wl.unlock (w : Wl K e σ H F env) (h : env[i]? = some (.own b d)) (hx : σ[i]? = some (some v)) (w' : Wl K (lockE e i d v) σ' H' F' env') : Wl K e σ' H' F' (env'.set i (.own b d)) := by
  have hi : env'[i]? = some (.lck d) := w'.lk i d (if_pos rfl)
  have hl : i < env'.length := (List.getElem?_eq_some_iff.mp hi).1
  obtain ⟨u0, p1, p2⟩ := w'.pin i _ hi (.inr ⟨d, rfl⟩)
  have ev : u0 = v := (Option.some.inj ((if_pos rfl).symm.trans p1)).symm
  subst ev
  have nk : e.lk i = none := w.lkn fun d z => by rw [h] at z; cases z
  have mn : ∀ {j : Nat} {c : Cell}, (env'.set i (.own b d))[j]? = some c → c.mine = true → ∃ c', env'[j]? = some c' ∧ c'.mine = true := fun {j c} hc hm => by
    by_cases z : i = j
    · subst z; exact ⟨_, hi, rfl⟩
    · rw [List.getElem?_set_ne z] at hc; exact ⟨c, hc, hm⟩
  refine ⟨by rw [List.length_set]; exact w'.len, w'.sub, ?_, ?_, w'.keep, w'.new, ?_, ?_, ?_, ?_, w'.pl⟩
  · intro j c x hc hx'
    by_cases z : i = j
    · subst z; rw [List.getElem?_set_self hl] at hc; cases hc; have q := w'.cell i _ x hi hx'; exact q
    · rw [List.getElem?_set_ne z] at hc; exact w'.cell j c x hc hx'
  · intro j k c1 c2 a n h1 h2 m1 m2 x1 x2
    obtain ⟨c1', g1, n1⟩ := mn h1 m1
    obtain ⟨c2', g2, n2⟩ := mn h2 m2
    exact w'.apart j k c1' c2' a n g1 g2 n1 n2 x1 x2
  · intro j b2 d2 a hc hx'
    by_cases z : i = j
    · subst z
      rw [p2] at hx'; cases hx'
      exact w.mine i b d a h hx
    · rw [List.getElem?_set_ne z] at hc; exact w'.mine j b2 d2 a hc hx'
  · intro j c hc hk
    by_cases z : i = j
    · subst z
      rw [List.getElem?_set_self hl] at hc; cases hc
      rcases hk with ⟨d2, q⟩ | ⟨d2, q⟩
      · cases q
        obtain ⟨v2, q1, q2⟩ := w.pin i _ h (.inl ⟨d, rfl⟩)
        rw [hx] at q2; cases q2
        exact ⟨u0, q1, p2⟩
      · cases q
    · rw [List.getElem?_set_ne z] at hc
      obtain ⟨u, h1, h2⟩ := w'.pin j c hc hk
      exact ⟨u, (if_neg (Ne.symm z)).symm.trans h1, h2⟩
  · intro j d2 hj
    have z : j ≠ i := fun z => by rw [z, nk] at hj; cases hj
    rw [List.getElem?_set_ne (Ne.symm z)]
    exact w'.lk j d2 ((if_neg z).trans hj)
  · intro j d2 hc
    by_cases z : j = i
    · rw [z, List.getElem?_set_self hl] at hc; cases hc
    · rw [List.getElem?_set_ne (Ne.symm z)] at hc
      exact (if_neg z).symm.trans (w'.lk2 j d2 hc)
theorem itlck_ok {a : Addr} {ds : List PyData} {F₁ : Hp} (hk : e.lk i = some (.list ds)) (hp : e.pin i = some (.ref a)) : ItOk K (Itl K a) ds e F₁ := by
  intro σ H F env w s j
  have hc := w.lk i _ hk
  obtain ⟨u, p1, p2⟩ := w.pin i _ hc (.inr ⟨_, rfl⟩)
  rw [hp] at p1; cases p1
  obtain ⟨a', o, e1, h1, n1, k1⟩ := w.cell i _ _ hc p2
  cases e1
  cases k1 with
  | lst r =>
    rename_i vs
    have hH : SqL K H a vs := .inl (.inl h1)
    refine ⟨fun d hd => ?_, fun hl => ⟨vs, hH, by rw [r.length]; exact Nat.le_of_eq hl⟩⟩
    obtain ⟨v, hv, rv⟩ := r.get' hd
    refine ⟨⟨vs, v, hH, hv⟩, fun x H' y => ?_⟩
    obtain ⟨rfl, f⟩ := y
    have ev := (f vs hH).symm.trans hv
    cases ev
    exact ⟨F, .refl w.sub, rv⟩
end
def cCompO (i : Nat) (g : Tg) (ct : CT) (ce : CE) (vs : List Nat) : CE := fun env => match anyMineS env vs || vs.contains i with
  | true => .no
  | false => match env.getD i .emp with
    | .frz d => match seqOf d with
      | some ds => match compL g ct ce vs ds env with
        | .ok xs env2 => .ok (.own false (.list xs)) (backE env vs env2)
        | _ => .no
      | none => .no
    | .own b (.list ds) => match compL g ct ce vs ds (env.set i (.lck (.list ds))) with
      | .ok xs env2 => .ok (.own false (.list xs)) ((backE (env.set i (.lck (.list ds))) vs env2).set i (.own b (.list ds)))
      | _ => .no
    | .lck (.list ds) => match compL g ct ce vs ds env with
      | .ok xs env2 => .ok (.own false (.list xs)) (backE env vs env2)
      | _ => .no
    | _ => .no
theorem compO_post {tg iter : Expr} {i : Nat} {g : Tg} {gt : TG} {ct : CT} {tt : TT} {ce : CE} {te : TE} {vs : List Nat}
    (hg : ∀ e σ H F env env' v d Q, Wl X.K e σ H F env → RD X.K F v d → g.put d env = some env' → (∀ σ', Wl X.K e σ' H F env' → Off g.slots σ σ' → Q σ' H) → gt v σ H Q) (hgs : ∀ i ∈ g.slots, i ∈ vs)
    (ht : ∀ e σ H F env Q, Wl X.K e σ H F env → PostT X.K xp WF e σ F Q (ct env) → tt σ H Q) (he : ∀ e σ H F env Q, Wl X.K e σ H F env → Post X.K xp WF e σ F Q (ce env) → te σ H Q)
    {e : Ent} {σ : L2.St} {H F : Hp} {env : Cs} {Q : VK} (w : Wl X.K e σ H F env) (h : Post X.K xp W e σ F Q (cCompO i g ct ce vs env)) :
    tLc (fun σ H R => iList X.K (tVar i) σ H (fun J H1 => Fact X.K H1 → R J H1) ∨ iTup X.K (tVar i) σ H (fun J H1 => Fact X.K H1 → R J H1)) gt tt te vs σ H Q := by
  unfold cCompO at h
  cases ga : anyMineS env vs || vs.contains i with
  | true => rw [ga] at h; exact h.elim
  | false =>
    rw [ga] at h; dsimp only at h
    rw [Bool.or_eq_false_iff] at ga
    have hiv : i ∉ vs := fun z => by
      have := List.contains_iff_mem.mpr z
      rw [ga.2] at this; cases this
    cases gi : env.getD i .emp with
    | emp => rw [gi] at h; exact h.elim
    | exc x => rw [gi] at h; exact h.elim
    | frz d =>
      rw [gi] at h; dsimp only at h
      have hc := of_getD gi (fun z => nomatch z)
      obtain ⟨x, hx⟩ := w.slot hc
      obtain ⟨v, rfl, r⟩ := w.cell i _ _ hc hx
      cases gs : seqOf d with
      | none => rw [gs] at h; exact h.elim
      | some ds =>
        rw [gs] at h; dsimp only at h
        cases gc : compL g ct ce vs ds env with
        | no => rw [gc] at h; exact h.elim
        | ex x env2 => rw [gc] at h; exact h.elim
        | ok xs env2 =>
          rw [gc] at h
          have fin : ∀ J, ItOk X.K J ds e F → ds.length ≤ sizeLine → ∀ D, H D = none → _ := fun J it hz D hD =>
            comp_run (X := X) (tg := tg) (xp' := xp) (Q := Q) hg hgs ht he w it hz hD (anyMineS_no ga.1) gc fun H' F' w' s' _ vx hd hn r no => h (.ref D) H' F' w' s' ⟨D, _, rfl, hd, hn, .lst r, w.old hD, no⟩
          cases d with
          | list ds' =>
            cases gs
            cases r with
            | lst q rs => exact .inl ⟨_, hx, _, rfl, ⟨_, w.sub.sqL (.inl q)⟩, fun ff D hD => fin _ (itl_ok (.inl q) rs) (by rw [← rs.length]; exact ff.1 _ _ (w.sub.sqL (.inl q))) D hD⟩
          | tuple ds' =>
            cases gs
            cases r with
            | tup q0 rs => exact (fun q : SqT X.K F _ _ => .inr ⟨_, hx, _, rfl, ⟨_, w.sub.sqT q⟩, fun ff D hD => fin _ (itt_ok q rs) (by rw [← rs.length]; exact ff.2 _ _ (w.sub.sqT q)) D hD⟩) (.inl (.inl q0))
          | _ => cases gs
    | own b d =>
      rw [gi] at h
      have hc := of_getD gi (fun z => nomatch z)
      obtain ⟨x, hx⟩ := w.slot hc
      obtain ⟨a, u, rfl, h1, n1, k1⟩ := w.cell i _ _ hc hx
      cases d with
      | list ds =>
        dsimp only at h
        cases gc : compL g ct ce vs ds (env.set i (.lck (.list ds))) with
        | no => rw [gc] at h; exact h.elim
        | ex x env2 => rw [gc] at h; exact h.elim
        | ok xs env2 =>
          rw [gc] at h
          cases k1 with
          | lst rs =>
            have wk := w.lock hc hx
            have hm : ∀ v ∈ vs, ((env.set i (.lck (.list ds))).getD v .emp).mine = false := fun v hv => by
              have ne : i ≠ v := fun z => hiv (by rw [z]; exact hv)
              rw [List.getD_eq_getElem?_getD, List.getElem?_set_ne ne, ← List.getD_eq_getElem?_getD]; exact anyMineS_no ga.1 v hv
            refine .inl ⟨_, hx, a, rfl, ⟨_, .inl (.inl h1)⟩, fun ff D hD => ?_⟩
            refine comp_run (X := X) (tg := tg) (xp' := xp) hg hgs ht he wk (itlck_ok (i := i) (if_pos rfl) (if_pos rfl)) (by rw [← rs.length]; exact ff.1 _ _ (.inl (.inl h1))) hD hm gc fun H' F' w' s' _ vx hd hn r no => ?_
            have wu := w.unlock hc hx w'
            refine h (.ref D) H' F' wu s' ⟨D, _, rfl, hd, hn, .lst r, w.old hD, fun j c hj hmn hxj => ?_⟩
            have hi : (backE (env.set i (.lck (.list ds))) vs env2)[i]? = some (.lck (.list ds)) := w'.lk i _ (if_pos rfl)
            by_cases z : i = j
            · subst z; exact no i _ hi rfl hxj
            · rw [List.getElem?_set_ne z] at hj; exact no j c hj hmn hxj
      | _ => exact h.elim
    | lck d =>
      rw [gi] at h
      have hc := of_getD gi (fun z => nomatch z)
      obtain ⟨x, hx⟩ := w.slot hc
      obtain ⟨a, u, rfl, h1, n1, k1⟩ := w.cell i _ _ hc hx
      cases d with
      | list ds =>
        dsimp only at h
        cases gc : compL g ct ce vs ds env with
        | no => rw [gc] at h; exact h.elim
        | ex x env2 => rw [gc] at h; exact h.elim
        | ok xs env2 =>
          rw [gc] at h
          cases k1 with
          | lst rs =>
            obtain ⟨u2, p1, p2⟩ := w.pin i _ hc (.inr ⟨_, rfl⟩)
            rw [hx] at p2; cases p2
            refine .inl ⟨_, hx, a, rfl, ⟨_, .inl (.inl h1)⟩, fun ff D hD => ?_⟩
            exact comp_run (X := X) (tg := tg) (xp' := xp) hg hgs ht he w (itlck_ok (w.lk2 i _ hc) p1) (by rw [← rs.length]; exact ff.1 _ _ (.inl (.inl h1))) hD (anyMineS_no ga.1) gc fun H' F' w' s' _ vx hd hn r no => h (.ref D) H' F' w' s' ⟨D, _, rfl, hd, hn, .lst r, w.old hD, no⟩
      | _ => exact h.elim
theorem de_compO {elt tg iter : Expr} {ifs : List Expr} {scope : Scope} {own : List (Str × Nat)} {pos : Pos} {i : Nat} {g : Tg} {gt : TG} {ct : CT} {tt : TT} {ce : CE} {te : TE} (hc : X.calm = true) (hN : X.N.Nodup) (hi : PE X iter (tVar i)) (ok : BlkOk X.N X.env.scope scope own)
    (hg : ∀ (s : Shared) (H : Hp) (C : Addr) (cl : List (Str × Addr)) (fp : List Addr), DG (X.blk s H scope (compEnvC scope cl C X.env) fp) tg g gt) (ht : ∀ (s : Shared) (H : Hp) (C : Addr) (cl : List (Str × Addr)) (fp : List Addr), DTs (X.blk s H scope (compEnvC scope cl C X.env) fp) xp WF ifs ct tt)
    (he : ∀ (s : Shared) (H : Hp) (C : Addr) (cl : List (Str × Addr)) (fp : List Addr), DE (X.blk s H scope (compEnvC scope cl C X.env) fp) xp WF elt ce te) (hgs : ∀ i ∈ g.slots, i ∈ own.map (·.2) := by decide) (hs : ∀ x, foldedSetIterable iter X.env x = pure x := by intro _; rfl) :
    DE X xp W (.ListComp elt [⟨tg, iter, ifs, 0⟩] scope pos) (cCompO i g ct ce (own.map (·.2))) (tLc (fun σ H R => iList X.K (tVar i) σ H (fun J H1 => Fact X.K H1 → R J H1) ∨ iTup X.K (tVar i) σ H (fun J H1 => Fact X.K H1 → R J H1)) gt tt te (own.map (·.2))) :=
  ⟨pe_lc hc hN (PI.or (PI.fact (pi_list hi)) (PI.fact (pi_tup hi))) ok (fun s H C cl fp => (hg s H C cl fp).1) (fun s H C cl fp => (ht s H C cl fp).1) (fun s H C cl fp => (he s H C cl fp).1) hs,
    fun e σ H F env Q w h => compO_post (tg := tg) (iter := iter) (hg X.s_0 X.H_0 0 [] []).2 hgs (ht X.s_0 X.H_0 0 [] []).2 (he X.s_0 X.H_0 0 [] []).2 w h⟩
end
theorem takesF {X : Cx} : L2N.Takes X WF := fun _ _ q => by
  obtain ⟨_, _, _, _, _, _, _, _, _, _, _, _, _, _, _, _, z⟩ := q
  exact z.elim
section
variable {K : PySem.W.Frag} {X : Cx} {xp : XP}
theorem de_callK {k n : Nat} {m : Fn} {f : Addr} {fd : FuncData} {ps : List Str} {x : Str} {p pos : Pos} {ex : Expr} {es : List Expr} {os : List Opd} {t : TA}
    (F : FnOk X.prog X.w X.K X.mg X.base (L2N.CX X.prog X.w) k f fd ps (spB K xp n m)) (hr : Room k X.A) (hg : Gl X x) (hm : X.mg x = some (.ref f)) (hk : PySem.W.keepIn X.K (.ref f) = true) (hb : Binds X.K fd ps [])
    (ha : DA X xp WF (ex :: es) os t) (eK : X.K = K := by rfl) (hn : os.length = n := by rfl) (hdb : (x == ("__debug__" : Str)) = false := by decide) (he : starEach (ex :: es) X.env = (false, eval ex X.env) :: starEach es X.env := by rfl) (hpl : (backTo pos (starEach es X.env)).any (·.1) = false := by rfl) :
    DE X xp WF (.Call (.Name x p) (ex :: es) [] pos) (cCall m os) (tCallS (spB K xp n m) (WE WF) t) := by
  subst eK
  exact de_call takesF F hr hg hm hk hb ha hn hdb he hpl
theorem de_callIK {k n : Nat} {m : Fm} {f : Addr} {fd : FuncData} {ps : List Str} {x : Str} {p pos : Pos} {ex : Expr} {es : List Expr} {i : Nat} {os : List Opd} {t : TA}
    (F : FnOk X.prog X.w X.K X.mg X.base (L2N.CX X.prog X.w) k f fd ps (spI K n m)) (hr : Room k X.A) (hg : Gl X x) (hm : X.mg x = some (.ref f)) (hk : PySem.W.keepIn X.K (.ref f) = true) (hb : Binds X.K fd ps [])
    (ho : PE X ex (tVar i)) (ha : DA X xp WF es os t) (eK : X.K = K := by rfl) (hn : os.length + 1 = n := by rfl) (hdb : (x == ("__debug__" : Str)) = false := by decide) (he : starEach (ex :: es) X.env = (false, eval ex X.env) :: starEach es X.env := by rfl) (hpl : (backTo pos (starEach es X.env)).any (·.1) = false := by rfl) :
    DE X xp WF (.Call (.Name x p) (ex :: es) [] pos) (cCallI m i os) (tCallS (spI K n m) (WE WF) (tCons (tVar i) t)) := by
  subst eK
  exact de_callI takesF F hr hg hm hk hb ho ha hn hdb he hpl
end
end DL

namespace SrtO
open PySem PyProof.Rows Srt
section
variable {prog : Program} {w : World} {A : Around} {E : Value → Shared → Prop} {s : Shared}
end
end SrtO
namespace DL
open PySem PySem.Spec PyProof.Rows L2
section
variable {X : Cx} {xp : XP} {W : WX} {K : PySem.W.Frag}
def rSortedTI (K : PySem.W.Frag) : List V → Hp → VK → Prop := fun vs H Q => ∃ (a : Addr) (ns : List Int), vs = [V.ref a] ∧ SqT K H a (ns.map V.int) ∧
  ∀ (ns' : List Int) (p : Addr), ns'.Perm ns → ns'.Pairwise (· ≤ ·) → H p = none → Q (.ref p) (upd H p (.lst (ns'.map V.int)))
def oSortedA : OpN
  | [.list ds] => match intsOf ds with
    | some ns => .val (.own false (.list ((sortI ns).map .int)))
    | none => .no
  | [.tuple ds] => match intsOf ds with
    | some ns => .val (.own false (.list ((sortI ns).map .int)))
    | none => .no
  | _ => .no
end
end DL

namespace DL
open PySem PySem.Spec PyProof.Rows L2
section
variable {X : Cx} {xp : XP} {W : WX} {K : PySem.W.Frag}
def openR (i : Nat) (c : Cell) : SRes → SRes
  | .nx env => .nx (env.set i c)
  | .rt r env => .rt r (env.set i c)
  | .bk env => .bk (env.set i c)
  | .ct env => .ct (env.set i c)
  | .ex x env => .ex x (env.set i c)
  | .no => .no
def cForO (i : Nat) (g : Tg) (body : CS) : CS := fun env => match g.slots.contains i with
  | true => .no
  | false => match env.getD i .emp with
    | .frz d => match seqOf d with
      | some ds => forL g body ds env
      | none => .no
    | .own b (.list ds) => openR i (.own b (.list ds)) (forL g body ds (env.set i (.lck (.list ds))))
    | .lck (.list ds) => forL g body ds env
    | _ => .no
theorem RC.unlock {e : Ent} {σ' : L2.St} {H' F' : Hp} {env env' : Cs} {i : Nat} {b : Bool} {d : PyData} {a : Addr} {v : V} {c : Cell} (h : env[i]? = some (.own b d)) (w' : Wl K (lockE e i d (.ref a)) σ' H' F' env') (r : RC K (lockE e i d (.ref a)) σ' H' F' env' v c) : RC K e σ' H' F' (env'.set i (.own b d)) v c := by
  cases c with
  | frz d => exact r
  | own b2 d2 =>
    obtain ⟨p, u, rfl, h1, n1, k1, m, no⟩ := r
    refine ⟨p, u, rfl, h1, n1, k1, m, fun j c hc hm hx => ?_⟩
    have hi : env'[i]? = some (.lck d) := w'.lk i d (if_pos rfl)
    by_cases z : i = j
    · subst z; exact no i _ hi rfl hx
    · rw [List.getElem?_set_ne z] at hc; exact no j c hc hm hx
  | emp => exact r.elim
  | lck d => exact r.elim
  | exc x => exact r.elim
theorem SPost.unlock {e : Ent} {σ : L2.St} {H F F0 : Hp} {env : Cs} {i : Nat} {b : Bool} {d : PyData} {a : Addr} {D : Ends} {r : SRes} (w : Wl K e σ H F env) (h : env[i]? = some (.own b d)) (hx : σ[i]? = some (some (.ref a))) (q : SPost K xp W e F0 D (openR i (.own b d) r)) : SPost K xp W (lockE e i d (.ref a)) F0 D r := by
  cases r with
  | nx env' => exact fun σ' H' F' w' s => q σ' H' F' (w.unlock h hx w') s
  | rt c env' => exact fun v σ' H' F' w' s r => q v σ' H' F' (w.unlock h hx w') s (RC.unlock h w' r)
  | bk env' => exact fun σ' H' F' w' s => q σ' H' F' (w.unlock h hx w') s
  | ct env' => exact fun σ' H' F' w' s => q σ' H' F' (w.unlock h hx w') s
  | ex x env' => exact fun σ' H' F' cls d w' s y => q σ' H' F' cls d (w.unlock h hx w') s y
  | no => exact q
theorem ds_forO {tg iter : Expr} {body : List Stmt} {i : Nat} {g : Tg} {gt : TG} {cb : CS} {pos : Pos} (hp : PassesOwn (PySem.model X.prog X.w) X.A X.env X.xe) (hc : X.calm = true) (hi : PE X iter (tVar i)) (hg : DG X tg g gt) (hb : DSs X xp W body cb)
    (hs : ∀ x, foldedSetIterable iter X.env x = pure x := by intro _; rfl) : DS X xp W (.For tg iter body [] pos) (cForO i g cb) := by
  obtain ⟨tb, pb, qb⟩ := hb
  refine ⟨_, ps_for hp hc (PI.or (PI.fact (pi_list hi)) (PI.fact (pi_tup hi))) hg.1 pb hs, fun e σ H F env D w h => ?_⟩
  unfold cForO at h
  cases gs : g.slots.contains i with
  | true => rw [gs] at h; exact h.elim
  | false =>
    rw [gs] at h; dsimp only at h
    cases gi : env.getD i .emp with
    | emp => rw [gi] at h; exact h.elim
    | exc x => rw [gi] at h; exact h.elim
    | frz d =>
      rw [gi] at h; dsimp only at h
      have hc := of_getD gi (fun z => nomatch z)
      obtain ⟨x, hx⟩ := w.slot hc
      obtain ⟨v, rfl, r⟩ := w.cell i _ _ hc hx
      cases g3 : seqOf d with
      | none => rw [g3] at h; exact h.elim
      | some ds =>
        rw [g3] at h; dsimp only at h
        cases d with
        | list ds' =>
          cases g3
          cases r with
          | lst q rs => exact .inl ⟨_, hx, _, rfl, ⟨_, w.sub.sqL (.inl q)⟩, fun ff => for_run (body := body) hg qb w (itl_ok (.inl q) rs) h⟩
        | tuple ds' =>
          cases g3
          cases r with
          | tup q0 rs => exact (fun q : SqT X.K F _ _ => .inr ⟨_, hx, _, rfl, ⟨_, w.sub.sqT q⟩, fun ff => for_run (body := body) hg qb w (itt_ok q rs) h⟩) (.inl (.inl q0))
        | _ => cases g3
    | own b d =>
      rw [gi] at h
      have hc := of_getD gi (fun z => nomatch z)
      obtain ⟨x, hx⟩ := w.slot hc
      obtain ⟨a, u, rfl, h1, n1, k1⟩ := w.cell i _ _ hc hx
      cases d with
      | list ds =>
        dsimp only at h
        cases k1 with
        | lst rs =>
          have wk := w.lock hc hx
          refine .inl ⟨_, hx, a, rfl, ⟨_, .inl (.inl h1)⟩, fun ff => ?_⟩
          exact for_run (body := body) hg qb wk (itlck_ok (i := i) (if_pos rfl) (if_pos rfl)) (SPost.unlock w hc hx h)
      | _ => exact h.elim
    | lck d =>
      rw [gi] at h
      have hc := of_getD gi (fun z => nomatch z)
      obtain ⟨x, hx⟩ := w.slot hc
      obtain ⟨a, u, rfl, h1, n1, k1⟩ := w.cell i _ _ hc hx
      cases d with
      | list ds =>
        dsimp only at h
        cases k1 with
        | lst rs =>
          obtain ⟨u2, p1, p2⟩ := w.pin i _ hc (.inr ⟨_, rfl⟩)
          rw [hx] at p2; cases p2
          exact .inl ⟨_, hx, a, rfl, ⟨_, .inl (.inl h1)⟩, fun ff => for_run (body := body) hg qb w (itlck_ok (w.lk2 i _ hc) p1) h⟩
      | _ => exact h.elim
end
end DL

namespace DL
open PySem PySem.Spec PyProof.Rows L2
inductive KVal : Value → PyData → Prop
  | int (i : Int) (t : Tok) : KVal (.int i t) (.int i)
  | str (x : Str) (t : Tok) : KVal (.str x t) (.str x)
  | non : KVal .none .none
def KVal.v {u : Value} {d : PyData} (h : KVal u d) : ∃ v : V, RelV v u ∧ ∀ K F, RD K F v d := by
  cases h with
  | int i t => exact ⟨.int i, ⟨t, rfl⟩, fun _ _ => .int i⟩
  | str x t => exact ⟨.str x, ⟨t, rfl⟩, fun _ _ => .str x⟩
  | non => exact ⟨.non, rfl, fun _ _ => .non⟩
inductive KEnt : List DictEntry → List (Str × PyData) → Prop
  | nil : KEnt [] []
  | cons {k : Str} {t : Tok} {e : DictEntry} {d : PyData} {r : List DictEntry} {s : List (Str × PyData)} : e.key = .str k t → KVal e.val d → KEnt r s → KEnt (e :: r) ((k, d) :: s)
def lookS (kvs : List (Str × PyData)) (x : Str) : Option PyData := match kvs with
  | [] => none
  | (k, d) :: r => if k = x then some d else lookS r x
theorem KEnt.find : ∀ {es : List DictEntry} {kvs : List (Str × PyData)} (x : Str), KEnt es kvs → match lookS kvs x with
    | some d => ∃ u, findBy Value.isStrOf es.toArray x = some u ∧ KVal u d
    | none => findBy Value.isStrOf es.toArray x = none
  | _, _, x, .nil => by simp [lookS, findBy]
  | _, _, x, .cons (k := k) (t := t) (e := e) (d := d) (r := r) (s := s) ek ev h => by
    have ih := KEnt.find x h
    have hk : Value.isStrOf x e.key = decide (k = x) := by
      rw [ek]
      show (match Value.str k t with | .str y _ => y == x | _ => false) = _
      rw [Bool.eq_iff_iff]; simp
    unfold lookS
    by_cases q : k = x
    · rw [if_pos q]
      refine ⟨e.val, ?_, ev⟩
      unfold findBy
      simp [List.find?_toArray, List.find?_cons, hk, q]
    · rw [if_neg q]
      have : findBy Value.isStrOf (e :: r).toArray x = findBy Value.isStrOf r.toArray x := by
        unfold findBy
        simp [List.find?_toArray, List.find?_cons, hk, q]
      rw [this]; exact ih
def KDc (K : PySem.W.Frag) (w : World) (a : Addr) (es : List DictEntry) (kvs : List (Str × PyData)) : Prop := ∃ n, KDict K w a es.toArray n ∧ KEnt es kvs
section
variable {X : Cx} {xp : XP} {W : WX}
def tKGet (ty : TE) (es : List DictEntry) : TE := fun σ H Q => ty σ H fun y H1 => ∃ z : Str, y = .str z ∧ ∀ v : V, L2.RelV v ((findBy Value.isStrOf es.toArray z).getD .none) → Q v H1
def cKGet (kvs : List (Str × PyData)) (o : Opd) : CE := fun env => (o.ev env).bind fun l env1 => match l.get env1 with
  | some (.str x) => .ok (.frz ((lookS kvs x).getD .none)) env1
  | _ => .no
theorem KVal.rd {u : Value} {d : PyData} {v : V} {K : PySem.W.Frag} {F : Hp} (h : KVal u d) (r : L2.RelV v u) : RD K F v d := by
  cases h with
  | int i t => cases v <;> unfold L2.RelV at r <;> first | (obtain ⟨_, e⟩ := r; cases e; exact .int i) | (obtain ⟨_, e⟩ := r; cases e; done) | (cases r; done)
  | str x t => cases v <;> unfold L2.RelV at r <;> first | (obtain ⟨_, e⟩ := r; cases e; exact .str x) | (obtain ⟨_, e⟩ := r; cases e; done) | (cases r; done)
  | non => cases v <;> unfold L2.RelV at r <;> first | exact .non | (obtain ⟨_, e⟩ := r; cases e; done) | (cases r; done)
end
end DL

namespace DL
open PySem PySem.Spec PyProof.Rows L2

structure FnG (P : Program) (w : World) (K : PySem.W.Frag) (mg : Str → Option Value) (base : Heap) (k : Nat) (f : Addr) (fd : FuncData) (ps : List Str) (sp : Sp) : Prop where
  run : ∀ (A : Around) (fr : List Env) (s : Shared) (H : Hp) (us : List Value) (vs : List V) (Q : VK) (E : XK), A.guards = some [] → Room k A → Env0 P w K mg base A fr s H → vs.length = ps.length →
    BindsTo s fd ⟨us, []⟩ (ps.zip us) → Vals vs us → sp vs H Q E → codeAny (model P w) A (.call (.ref f) ⟨us, []⟩) (CR (L2N.CX P w) fr P w H s Q E) s
section
variable {P : Program} {w : World} {K : PySem.W.Frag} {mg : Str → Option Value} {base : Heap} {xp : XP}
theorem fn_bodyG {x qual : Str} {st : Stmt} {f : Addr} {fd : FuncData} {N ps : List Str} {k : Nat} {sp : Sp} (F : Fun K x qual st f fd) (S : FnScope N ps (defScope st))
    (hb : ∀ (cdv : Value) (A : Around) (fr : List Env) (s : Shared) (H : Hp) (vs : List V) (Q : VK) (E : XK), A.guards = some [] → Room k (A.deeper (envOfC qual (defScope st) s.heap.objs.size f cdv)) → sp vs H Q E →
      ∃ t, PSs (cxOf (L2N.CX P w) P w K mg base N qual (defScope st) f cdv A fr s H E) (defBody st) t ∧ t { nx := fun _ H' => Q .non H', rt := Q } (L2.start N vs) H) :
    FnG P w K mg base (k + 1) f fd ps sp := by
  obtain ⟨oc, od, kV, doc, pm, an, cdv, ct, osl, rfl, lk, hcd⟩ := F.ex
  constructor
  intro A fr s H us vs Q E hg room env len bnd rel wish
  have inS : K.In s.heap := env.mod.kin.keeps fun b o q => (env.bs b o q).1
  have free : s.heap.NoLimit := env.mod.nolimit.keeps fun b o q => (env.bs b o q).1
  refine codeAny_call_function room.depth (inS _ _ lk) rfl S.co S.gen rfl (PySem.W.codeRec_of inS hcd) (bnd _ _ _ _ (wpAny_newFunctionEnv_cells S.kind ?kinds fun en he s1 x => ?go))
  case kinds =>
    rintro ⟨n, v⟩ hy
    have hn := S.par n (List.of_mem_zip hy).1
    exact hn.imp (fun q => q) (fun q => ⟨q, PySem.W.cellsFrom_some _ _ _ (.inl q)⟩)
  case go =>
    subst he
    refine ⟨free.keeps x.toInCall.keep, codeAny_func ?_⟩
    obtain ⟨t, body, wish2⟩ := hb cdv A fr s H vs Q E hg (room.deeper _) wish
    have J := inv_start (CX := L2N.CX P w) (E := E) S room.hd env len rel x
    refine wpAny_mono (body.run [] s1 (L2.start N vs) H _ J wish2) ?_ (fun _ _ z => z)
    intro fl s' z
    match fl, z with
    | .ret u, ⟨v, σ2, H2, I2, rv, q⟩ => exact ⟨v, H2, I2.os, I2.bare, I2.base, I2.hok, rv, q⟩
    | .next, ⟨σ2, H2, I2, q⟩ => exact ⟨.non, H2, I2.os, I2.bare, I2.base, I2.hok, rfl, q⟩
    | .brk, ⟨_, _, _, q⟩ => exact q.elim
    | .cont, ⟨_, _, _, q⟩ => exact q.elim
theorem FnG.imp {k : Nat} {f : Addr} {fd : FuncData} {ps : List Str} {sp sp' : Sp} (F : FnG P w K mg base k f fd ps sp) (h : ∀ vs H Q E, sp' vs H Q E → sp vs H Q E) : FnG P w K mg base k f fd ps sp' :=
  ⟨fun A fr s H us vs Q E g r e l b v q => F.run A fr s H us vs Q E g r e l b v (h _ _ _ _ q)⟩
theorem fn_BG {x qual : Str} {st : Stmt} {f : Addr} {fd : FuncData} {N ps : List Str} {k n : Nat} {c : CS} (F : Fun K x qual st f fd) (S : FnScope N ps (defScope st)) (hn : ps.length = n) (hN : n ≤ N.length)
    (hb : ∀ (cdv : Value) (A : Around) (outer : List Env) (s : Shared) (H : Hp) (E : XK), A.guards = some [] → Room k (A.deeper (envOfC qual (defScope st) s.heap.objs.size f cdv)) → DSs (bodyX P w K mg base N qual st f cdv A outer s H E) xp (fun cls d _ H => E cls d H) (defBody st) c) :
    FnG P w K mg base (k + 1) f fd ps (spB K xp n (runDef N.length c)) := by
  refine fn_bodyG F S (fun cdv A outer s H vs Q E hg hr h => ?_)
  obtain ⟨hl, F0, ds, s0, r0, p⟩ := h
  obtain ⟨t, pt, q⟩ := hb cdv A outer s H E hg hr
  refine ⟨t, pt, q ⟨H, F0, fun _ => False, fun _ => none, fun _ => none⟩ (L2.start N vs) H F0 (ds.map Cell.frz ++ emps (N.length - ds.length)) _ (start_wl (N := N) (by rw [hl]; exact hN) s0 r0) ?_⟩
  have gr : ∀ {σ' H' F' env}, Wl K ⟨H, F0, fun _ => False, fun _ => none, fun _ => none⟩ σ' H' F' env → Sub F0 F' → Grow H F0 H' F' := fun {σ' H' F' env} w s => ⟨fun a o h => w.keep a o h (fun z => z), s, w.sub, fun a h => by
    rcases w.new a h with y | y | y
    · exact .inl y
    · exact .inr y
    · exact y.elim, w.pl⟩
  unfold runDef at p
  cases g : c (ds.map .frz ++ emps (N.length - ds.length)) with
  | nx env => rw [g] at p; exact fun σ' H' F' w s => p .non H' F' (gr w s) .non
  | rt r env =>
    rw [g] at p
    intro v σ' H' F' w s rc
    refine p v H' F' (gr w s) ?_
    cases r with
    | frz d => exact rc
    | own b d =>
      obtain ⟨a, u, e1, h1, n1, k1, m, _⟩ := rc
      rcases m with m | m
      · exact ⟨a, u, e1, m, h1, n1, k1⟩
      · exact m.elim
    | emp => exact rc.elim
    | lck d => exact rc.elim
    | exc x => exact rc.elim
  | ex x env => rw [g] at p; exact fun σ' H' F' cls d w s y => p H' F' cls d (gr w s) y
  | bk env => rw [g] at p; exact p.elim
  | ct env => rw [g] at p; exact p.elim
  | no => rw [g] at p; exact p
theorem law_ofG {k : Nat} {f : Addr} {fd : FuncData} {ps : List Str} {m : Fn} (F : FnG P w K mg base k f fd ps (spB K xp 1 m)) (h : ∀ ns : List Int, ns.length ≤ 63 → m [scriptD ns] = .ok (.frz (.bool true))) :
    FnG P w K mg base k f fd ps (spLaw K) := F.imp fun vs H Q E q => by
  obtain ⟨a, ns, rfl, hS, hl, hq⟩ := q
  refine ⟨rfl, H, [scriptD ns], .refl _, .one (.scr hS), ?_⟩
  rw [h ns hl]
  intro v H' F' _ rn
  cases rn
  exact hq H'
theorem first_heap {s₁ : Shared} {a : Addr} {vs : List Value} {ns : List Int} (KX : K.In s₁.heap) (ha : s₁.heap.get? a = some { cls := .type "list", data := .seq vs.toArray }) (hi : IntsAre vs ns) (hl : ns.length ≤ sizeLine) :
    ∃ H : Hp, Only H ∧ SqL K H a (ns.map V.int) ∧ HOk P w H s₁.heap ∧ (∀ b, H b ≠ none → b = a ∧ K.lookup b = none) := by
  have rv := vals_ints hi
  cases hk : K.lookup a with
  | some o =>
    have e := KX a o hk
    rw [ha] at e
    injection e with e
    subst e
    refine ⟨fun _ => none, fun _ => .inl rfl, .inr ⟨_, vs.toArray, _, hk, rfl, rfl, rfl, ?_, by simpa using rv⟩, ?_, ?_⟩
    · rw [List.size_toArray, hi.length]; exact hl
    · intro b u z; cases (show (none : Option HO) = some u from z)
    · intro b z; exact (z rfl).elim
  | none =>
    let ob : Obj := { cls := .type "list", data := .seq vs.toArray }
    have at_ : ∀ b, upd (fun _ => none) a (.frz ob (.lst (ns.map V.int))) b ≠ none → b = a := fun b z => by
      apply Classical.byContradiction
      intro n
      rw [upd_ne n] at z
      exact z rfl
    refine ⟨upd (fun _ => none) a (.frz ob (.lst (ns.map V.int))), fun b => ?_, .inl (.inr ⟨ob, upd_same⟩), fun b u z => ?_, fun b z => ?_⟩
    · by_cases e : b = a
      · subst e; exact .inr ⟨_, _, upd_same⟩
      · exact .inl (by rw [upd_ne e])
    · have e := at_ b (by rw [z]; exact fun y => nomatch y)
      subst e
      rw [upd_same] at z
      cases z
      exact ⟨ha, by rw [List.length_map]; exact hl, vs, _, rv, ha⟩
    · have e := at_ b z
      subst e
      exact ⟨rfl, hk⟩
theorem law_callG {mb : Str → Option Value} {k : Nat} {fa a : Addr} {fd : FuncData} {x : Str} {s₁ : Shared} {vs : List Value} {ns : List Int} (KX : K.In s₁.heap) (hns : s₁.heap.Ns mainGlobals mg) (hb : s₁.heap.Ns builtinsNs mb)
    (hbb : ∀ x : Str, x ≠ "__name__" → mb x = bootBuiltins x) (free : s₁.heap.NoLimit) (hg : s₁.gens = #[]) (ha : s₁.heap.get? a = some { cls := .type "list", data := .seq vs.toArray }) (hi : IntsAre vs ns) (hl : ns.length ≤ 63) (hr : Room k callerA)
    (F : ∀ base : Heap, K.In base → base.Ns mainGlobals mg → FnG P w K mg base k fa fd [x] (spLaw K)) (bnd : ∀ (s : Shared) (u : Value), BindsTo s fd ⟨[u], []⟩ [(x, u)]) :
    codeAny (model P w) callerA (.call (.ref fa) ⟨[.ref a], []⟩) (fun r z => r = .ok (.ret (.bool true)) ∧ OldK s₁.heap z.heap ∧ z.os = s₁.os ∧ AllBare z.gens) s₁ := by
  obtain ⟨H, only, hS, hok, hK⟩ := first_heap (P := P) (w := w) KX ha hi (Nat.le_trans hl (by decide))
  have isl : ∀ {b : Addr} {o : Obj}, s₁.heap.get? b = some o → H b ≠ none → ∃ q n, o.data = .seq q n := fun {b o} e n => by
    obtain ⟨rfl, _⟩ := hK b n
    rw [ha] at e
    cases e
    exact ⟨_, _, rfl⟩
  have noD : ∀ {b : Addr} {o : Obj} {es : Array DictEntry} {ep : Nat}, s₁.heap.get? b = some o → o.data = .dict es ep → H b = none := fun {b o es ep} e d => by
    apply Classical.byContradiction
    intro n
    obtain ⟨q, m, z⟩ := isl e n
    rw [z] at d
    cases d
  have ns' : ∀ {b : Addr} {m : Str → Option Value}, s₁.heap.Ns b m → (hidT s₁.heap H).Ns b m := fun {b m} q => by
    obtain ⟨o, es, ep, e, d, r⟩ := q
    exact ⟨o, es, ep, hidT_get e (noD e d), d, r⟩
  have kin : K.In (hidT s₁.heap H) := fun b o e => hidT_get (KX b o e) (by
    apply Classical.byContradiction
    intro n
    rw [(hK b n).2] at e
    cases e)
  have lim : (hidT s₁.heap H).NoLimit := by
    obtain ⟨mc, h1, h2⟩ := free
    exact ⟨mc, ns' h1, h2⟩
  have env : Env0 P w K mg (hidT s₁.heap H) callerA [] s₁ H := {
    frames := rfl
    mod := ⟨kin, ns' hns, ⟨mb, ns' hb, hbb⟩, lim⟩
    bs := fun b o e => of_hidT e
    bsz := Nat.le_of_eq (hidT_size _ _)
    funs := trivial
    frf := fun b z => nomatch (show b ∈ ([] : List Addr) from z)
    hok := hok
    bare := .of_eq hg }
  have wish : spLaw K [.ref a] H (fun v _ => v = .bl true) (fun _ _ _ => False) := ⟨a, ns, rfl, hS, hl, fun _ => rfl⟩
  refine codeAny_mono ((F _ kin (ns' hns)).run callerA [] s₁ H [.ref a] [.ref a] _ _ rfl hr env rfl (bnd s₁ (.ref a)) (.cons rfl .nil) wish) ?_
  intro r z h
  match r, h with
  | .error e, h => obtain ⟨_, _, _, _, _, _, _, _, _, _, _, _, y⟩ := h; exact y.elim
  | .ok .next, h => exact h.elim
  | .ok .brk, h => exact h.elim
  | .ok .cont, h => exact h.elim
  | .ok (.ret u), ⟨v, H2, os, bare, un, hok2, rel, e⟩ =>
    subst e
    cases (show u = Value.bool true from rel)
    refine ⟨rfl, OldK.of_keep ?_, os, bare⟩
    intro b o e
    by_cases n : H b = none
    · exact un.keep b o e n (fun y => nomatch (show b ∈ ([] : List Addr) from y)) (fun y => nomatch y)
    · rcases only b with y | ⟨ob, xs, y⟩
      · exact (n y).elim
      · have e1 := (hok b _ y).1
        have e2 := (hok2 b _ (un.frzs b ob _ y)).1
        rw [e] at e1
        cases e1
        exact e2
end
theorem walk_ofG {l : PySem.W.OpenLaw} {k : Nat} {q : Program} {loose : List Str} {XP : (Str → Option Value) → Heap → Prop} {YP : World → Heap → Prop} {d : DefRec} {K : Params → PySem.W.Frag} {x : Str}
    (hn : l.most = some 63) (plain : d.params.defaults = []) (hr : Room k callerA) (hY : ∀ (w : World) (h : Heap), YP w h → (K w.params).In h)
    (F : ∀ (w : World) (mg : Str → Option Value) (fa : Addr) (h : Heap), (K w.params).In h → h.Ns mainGlobals mg → mg d.name = some (.ref fa) → ∃ fd : FuncData, (∀ (s : Shared) (v : Value), BindsTo s fd ⟨[v], []⟩ [(x, v)]) ∧
      ∀ base : Heap, (K w.params).In base → base.Ns mainGlobals mg → FnG l.prog w (K w.params) mg base k fa fd [x] (spLaw (K w.params))) :
    PySem.W.WalkO q loose XP YP l.row.toRowW d [] (fun f vs => PySem.call f vs) := by
  refine Att.attach_call hn plain ?_
  intro w s₀ s₁ mg mb fa o pm cd doc a vs ns G Y ho hd hcd hmg hobj hints hlen hg
  obtain ⟨fd, bnd, run⟩ := F w mg fa _ (hY w _ Y) G.T.g hmg
  exact law_callG (hY w _ Y) G.T.g G.T.b G.T.builtins G.T.nolimit hg hobj hints hlen hr run bnd

mutual
/-- how many nodes and signs -/
def cnt : PyData → Nat
  | .str x => x.length + 1
  | .list xs => cnts xs + 1
  | .tuple xs => cnts xs + 1
  | .dict kvs => cntk kvs + 1
  | _ => 1
def cnts : List PyData → Nat
  | [] => 0
  | x :: xs => cnt x + cnts xs
def cntk : List (PyData × PyData) → Nat
  | [] => 0
  | (a, b) :: xs => cnt a + cnt b + cntk xs
end
def showOk (d : PyData) : Bool := d.canLay0 && d.showable && decide (d.depth ≤ 40) && decide (d.shown.length ≤ lim)
def oRepr : OpN
  | [d] => if showOk d then .val (.frz (.str d.shown)) else .no
  | _ => .no
def rRepr (K : PySem.W.Frag) : List V → Hp → VK → Prop := fun xs H Q => ∃ x d, xs = [x] ∧ Dp K H x d ∧ showOk d = true ∧ Q (.str d.shown) H
theorem cr_repr {X : Cx} (hg : X.A.guards = some []) (hu : X.A.units + 64 < cLine) : CallR X (.builtin "repr") (rRepr X.K) := by
  intro pins s σ H xs us Q I r h
  obtain ⟨x, d, rfl, hd, ok, q⟩ := h
  cases r with
  | cons r1 r2 =>
    rename_i u us
    cases r2
    obtain ⟨as, rd⟩ := Dp.reads I d x u hd r1
    unfold showOk at ok
    simp only [Bool.and_eq_true, decide_eq_true_eq] at ok
    obtain ⟨⟨⟨o1, o2⟩, o3⟩, o4⟩ := ok
    have hz : d.shown.length ≤ sizeLine := lim_le o4
    have fin : ∀ h' (t : Tok) tk, (∀ b o, s.heap.get? b = some o → h'.get? b = some o) → EP X pins σ Q (.str d.shown t) { s with heap := h', toks := tk } := fun h' t tk k => ⟨.str d.shown, H, I.kept (t' := tk) k, ⟨t, rfl⟩, q⟩
    cases d with
    | none => cases rd; exact PySem.P.repr_of_none (fin s.heap _ _ (fun _ _ z => z))
    | bool b => cases rd; exact PySem.P.repr_of_bool (fin s.heap _ _ (fun _ _ z => z))
    | int i => cases rd; exact PySem.P.repr_of_int (by simpa [PyData.showable] using o2) (fin s.heap _ _ (fun _ _ z => z))
    | str y => cases rd; exact PySem.P.repr_of_str (fin s.heap _ _ (fun _ _ z => z)) hz
    | list ds => cases rd with | list h1 h2 h3 h4 => exact repr_of_reads' (.list h1 h2 h3 h4) o2 (fun e => by rw [PyData.hasDict_of_canLay _ o1] at e; cases e) hg (by omega) (fun _ _ z => z) fin hz
    | tuple ds => cases rd with | tuple h1 h2 h3 h4 => exact repr_of_reads' (.tuple h1 h2 h3 h4) o2 (fun e => by rw [PyData.hasDict_of_canLay _ o1] at e; cases e) hg (by omega) (fun _ _ z => z) fin hz
    | dict ds => simp [PyData.canLay0] at o1
theorem ok_repr {K : PySem.W.Frag} : OpNOk K (rRepr K) oRepr := by
  intro xs ds H F Q s r p
  match ds, p with
  | [], p => exact p.elim
  | _ :: _ :: _, p => exact p.elim
  | [d], p =>
    obtain ⟨v, rfl, rv⟩ := RBs.one r
    have e : oRepr [d] = if showOk d then .val (.frz (.str d.shown)) else .no := rfl
    rw [e] at p
    cases ok : showOk d with
    | false => rw [ok] at p; exact p.elim
    | true =>
      rw [ok] at p
      refine ⟨v, d, rfl, RD.dp (by unfold showOk at ok; simp only [Bool.and_eq_true] at ok; exact ok.1.1.1) (rv.rd s), ok, ?_⟩
      exact OPost.str s p
end DL

namespace DL
open PySem PySem.Spec PyProof.Rows L2

def keyOf : PyData → Option Key
  | .int i => some (.inl i)
  | .str x => some (.inr x)
  | _ => none
def keysOf : List PyData → Option (List Key)
  | [] => some []
  | d :: ds => match keyOf d, keysOf ds with
    | some k, some ks => some (k :: ks)
    | _, _ => none
def tkOf : PyData → Option (List Key)
  | .tuple ds => keysOf ds
  | _ => none
section
variable {K : PySem.W.Frag} {H F : Hp}
end

def dget : List (PyData × PyData) → List Key → Option PyData
  | [], _ => none
  | p :: r, k => if tkOf p.1 = some k then some p.2 else dget r k
def dput (kvs : List (PyData × PyData)) (k : List Key) (v : PyData) : List (PyData × PyData) :=
  if (dget kvs k).isSome then kvs.map (fun p => if tkOf p.1 = some k then (p.1, v) else p) else kvs ++ [(tkeyD k, v)]
def zipT (kvs : List (List Key × V)) (ds : List PyData) : List (PyData × PyData) := (kvs.map fun p => tkeyD p.1).zip ds
section
variable {K : PySem.W.Frag} {H F : Hp}
def isTD : List (PyData × PyData) → Bool
  | [] => true
  | (.tuple _, _) :: _ => true
  | _ => false
end

def dictOf : PyData → Option (List (PyData × PyData))
  | .dict kvd => if isTD kvd then some kvd else none
  | _ => none
def oInT (neg : Bool) : Op2 := fun x y => match dictOf y, tkOf x with
  | some kvd, some k => frzB (if neg then !(dget kvd k).isSome else (dget kvd k).isSome)
  | _, _ => .no
def oIxT : Op2 := fun x y => match dictOf x, tkOf y with
  | some kvd, some k => match dget kvd k with
    | some d => .val (.frz d)
    | none => .no
  | _, _ => .no
def rInT (neg : Bool) : R2 := fun x y H Q => ∃ a o, y = .ref a ∧ DGet H a x o ∧ Q (.bl (if neg then !o.isSome else o.isSome)) H
def rIxD : R2 := fun x y H Q => ∃ a v, x = .ref a ∧ DGet H a y (some v) ∧ Q v H
section
variable {X : Cx} {K : PySem.W.Frag} {H F : Hp} {Q : VK}
end
section
variable {X : Cx} {xp : XP} {W : WX}
def sDict : OpS := fun d dx dv => match dictOf d, tkOf dx with
  | some kvd, some k => if kvd.length < lim then some (.dict (dput kvd k dv)) else none
  | _, _ => none
def cDict0 : CE := fun env => .ok (.own false (.dict [])) env
def tDict1 (tk tv : TE) : TE := fun σ H Q => ∀ p, H p = none → tPairs [(tk, tv)] σ (upd H p (.dT [])) fun ps H2 => H2 p = some (.dT []) ∧ ∃ b k v, ps = [(.ref b, v)] ∧ H2 b = some (.tup (k.map kV)) ∧ Q (.ref p) (upd H2 p (.dT [(k, v)]))
end
section
variable {X : Cx} {xp : XP} {W : WX}
def cDict1 (k v : Opd) : CE := fun env => (k.ev env).bind fun lk env1 => (v.ev env1).bind fun lv env2 => match lk, lv with
  | .now dk, .now dv => match tkOf dk with
    | some _ => .ok (.own false (.dict [(dk, dv)])) env2
    | none => .no
  | _, _ => .no
theorem Wl.lay (w : Wl X.K e σ H F env) {p : Addr} {o : HO} (h : H p = none) : Wl X.K e σ (upd H p o) F env := w.grow (w.grow_new h)
def cGet2 (o k x : Opd) : CE := fun env => (o.ev env).bind fun lo env1 => match lo.get env1 with
  | none => .no
  | some d0 => match dictOf d0 with
    | none => .no
    | some _ => (k.ev env1).bind fun lk env2 => (x.ev env2).bind fun lx env3 => match lo.get env3, lk.get env3, lx with
      | some d, some dk, .now dx => match dictOf d, tkOf dk with
        | some kvd, some ks => .ok (.frz ((dget kvd ks).getD dx)) env3
        | _, _ => .no
      | _, _, _ => .no
end
end DL

namespace DL
open PySem PySem.Spec PyProof.Rows L2
section
variable {K : PySem.W.Frag} {e : Ent} {σ σ' : L2.St} {H F H' F' : Hp} {env env' : Cs} {a : Addr} {u : HO} {od : Obj}
theorem Wl.lockD (w : Wl K e σ H F env) (hF : F a ≠ none) (hu : H a = some u) (hm : Mut (some u)) : Wl K (turnE e σ (upd H a (.frz od u)) F env) σ (upd H a (.frz od u)) F env where
  len := w.len
  sub := by
    refine ⟨fun b v pl r => ?_, fun b n => ?_, fun b vs r => ?_⟩
    · by_cases z : b = a
      · subst z
        rcases w.sub.rd _ _ pl r with q | ⟨o, q⟩
        · rw [hu] at q; cases q; exact .inr ⟨od, upd_same⟩
        · rw [hu] at q; cases q; exact hm.elim
      · exact rd_congr (upd_ne z).symm (w.sub.rd _ _ pl r)
    · by_cases z : b = a
      · subst z; rw [upd_same]; exact fun y => nomatch y
      · rw [upd_ne z]; exact w.sub.dom _ n
    · by_cases z : b = a
      · subst z
        have q := w.sub.tp _ _ r
        rw [hu] at q; cases q; exact hm.elim
      · rw [upd_ne z]; exact w.sub.tp _ _ r
  cell := fun i c x hc hx => by
    have q := w.cell i c x hc hx
    cases c with
    | emp => trivial
    | frz d => exact q
    | own b d => obtain ⟨p, v, e1, h1, n1, k1⟩ := q; exact ⟨p, v, e1, by rw [upd_ne (fun z => hF (by rw [← z]; exact n1))]; exact h1, n1, k1⟩
    | lck d => obtain ⟨p, v, e1, h1, n1, k1⟩ := q; exact ⟨p, v, e1, by rw [upd_ne (fun z => hF (by rw [← z]; exact n1))]; exact h1, n1, k1⟩
    | exc x => exact q.elim
  apart := w.apart
  keep := fun _ _ h _ => h
  new := fun b h => .inl h
  pl := fun b h n => absurd n h
  mine := fun i b d p hc hx => .inr ⟨i, b, d, hc, hx⟩
  pin := w.pin
  lk := w.lk
  lk2 := w.lk2
end

def isKD : List (PyData × PyData) → Bool
  | (.int _, _) :: _ => true
  | (.str _, _) :: _ => true
  | _ => false
def dwalk (kvd : List (PyData × PyData)) : Option (List PyData) := if (isTD kvd || isKD kvd) && decide (kvd.length ≤ lim) then some (kvd.map (·.1)) else none
section
variable {K : PySem.W.Frag} {F : Hp}
end

def noEx : SRes → SRes
  | .ex _ _ => .no
  | r => r
def cForK (i : Nat) (g : Tg) (body : CS) : CS := fun env => match env.getD i .emp with
  | .frz (.dict kvd) => match dwalk kvd with
    | some ds => noEx (forL g body ds env)
    | none => .no
  | .own false (.dict kvd) => match dwalk kvd with
    | some ds => noEx (forL g body ds (env.set i (.frz (.dict kvd))))
    | none => .no
  | _ => .no
section
variable {X : Cx} {xp : XP} {W : WX}
theorem PS.or {st : Stmt} {t t' : TS} (h : PS X st t) (h' : PS X st t') : PS X st (fun D σ H => t D σ H ∨ t' D σ H) :=
  ⟨fun pins s σ H D I q => q.elim (h.run pins s σ H D I) (h'.run pins s σ H D I)⟩
theorem PE.or {ex : Expr} {t t' : TE} (h : PE X ex t) (h' : PE X ex t') : PE X ex (fun σ H Q => t σ H Q ∨ t' σ H Q) :=
  ⟨fun pins s σ H Q I q => q.elim (h.run pins s σ H Q I) (h'.run pins s σ H Q I)⟩
def cCompK (i : Nat) (g : Tg) (ct : CT) (ce : CE) (vs : List Nat) : CE := fun env => match anyMineS env vs || vs.contains i with
  | true => .no
  | false => match env.getD i .emp with
    | .frz (.dict kvd) => match dwalk kvd with
      | some ds => match compL g ct ce vs ds env with
        | .ok xs env2 => .ok (.own false (.list xs)) (backE env vs env2)
        | _ => .no
      | none => .no
    | .own false (.dict kvd) => match dwalk kvd with
      | some ds => match compL g ct ce vs ds (env.set i (.frz (.dict kvd))) with
        | .ok xs env2 => .ok (.own false (.list xs)) (backE (env.set i (.frz (.dict kvd))) vs env2)
        | _ => .no
      | none => .no
    | _ => .no
abbrev tCompK (X : Cx) (i : Nat) (gt : TG) (tt : TT) (te : TE) (vs : List Nat) : TE := fun σ H Q => tLockE (tLc (iKeys (tVar i)) gt tt te vs) σ H Q ∨ tLc (iKeys (tVar i)) gt tt te vs σ H Q
end
end DL

namespace DL
open PySem PySem.Spec PyProof.Rows L2
section
variable {P : Program} {w : World} {A : Around} {E : Value → Shared → Prop} {s : Shared}
abbrev setObj0 (w : World) : Obj := { cls := .type "set", dict := none, data := .set #[] 0 (.fresh 0 0 (!w.params.followText "set-order")) }
theorem set_of_listI {l : Addr} {xs : Array Value} (ns : List Int) {Q : Value → Shared → Prop} (calm : A.handled = none) (hl : s.heap.IsList l xs) (hin : IntsAre xs.toList ns) (few : ns.length + 1 < scanBound)
    (fin : ∀ (h' : Heap) (tk c : Nat), SetR w h' s.heap.objs.size (fun j => decide (j ∈ ns)) c → c ≤ ns.length → (∀ b o, s.heap.get? b = some o → h'.get? b = some o) → Q (.ref s.heap.objs.size) { s with heap := h', toks := tk }) :
    wpAny (model P w) A (call (.type "set") [Value.ref l]) Q E s := by
  have size : xs.size = ns.length := by have q := IntsAre.length hin; rw [Array.length_toList] at q; exact q
  obtain ⟨c0, tl0, mro0⟩ := F.called_set.mro
  have made0 := F.called_set.made
  have sub0 := F.called_set.sub
  refine wpAny_call (codeAny_of_tree ?_); show wpAny _ _ (callAny (.type "set") _) _ _ _
  refine wpAny_pure ⟨Code.quiet_builtin _ (by decide +kernel), codeAny_builtin F.entry_type_call ?_⟩; rw [Around.under_plain (weight_type_call_type "set" [.ref l] []) rfl]
  have nt := F.called_set.notType; have cc := F.called_set.canCreate; have ct := F.typeCall_set_1 (.ref l)
  repeat any_goals (first | assumption | wp_step)

  refine codeAny_mono (code_set_led1 (.ref l) (E := E) (Q₁ := fun x s₁ => x = .ref s.heap.objs.size ∧ s₁ = { s with heap := s.heap.push (setObj0 w) }) ⟨rfl, rfl⟩) fun r s₁ hr => ?_
  cases r with
  | error e => exact hr
  | ok fl =>
    cases fl with
    | ret obj =>
      obtain ⟨rfl, rfl⟩ := hr
      have at0 : (s.heap.push (setObj0 w)).get? s.heap.objs.size = some (setObj0 w) := Heap.get?_push_size _ rfl
      have ty0 : Shared.TypeIs { s with heap := s.heap.push (setObj0 w) } (.ref s.heap.objs.size) "set" := ⟨_, at0, rfl⟩
      have look0 := F.called_set.init.lookup; have bind0 := F.called_set.init.bind (.ref s.heap.objs.size)
      repeat any_goals (first | assumption | wp_step)

      refine codeAny_mono (codeAny_call_builtin (R := wants (fun r s₂ => r = .none ∧ ∃ h' tk c, s₂ = { s with heap := h', toks := tk } ∧ SetR w h' s.heap.objs.size (fun j => decide (j ∈ ns)) c ∧ c ≤ ns.length ∧ (∀ b o, s.heap.get? b = some o → h'.get? b = some o)) E) F.called_set.init.plain F.entry_set_init (check_set_init_1 ty0 ?_)) fun r₂ s₂ hr₂ => ?_
      · obtain ⟨ol, hol, hcl, nl, hdl⟩ := id hl
        obtain ⟨cl1, di1, da1, sl1⟩ := ol
        simp only at hcl hdl; subst hcl; subst hdl
        have at1 : (s.heap.push (setObj0 w)).get? l = some { cls := .type "list", dict := di1, data := .seq xs nl, slots := sl1 } := Heap.get?_push_of_some _ hol
        have noSet := F.sub_list_set; have noFro := F.sub_list_frozenset; have noDict : (Value.type "list" == Value.type "dict") = false := by decide
        have isl : (s.heap.push (setObj0 w)).IsList l xs := ⟨_, at1, rfl, nl, rfl⟩
        unfold Builtin.«set.__init__» noKeywords Builtin.Frozenset.updateFrom; generalize hPI : pyIter = PI
        wp_walk
        subst hPI

        refine wpAny_pyIter_list isl ?_
        refine wpAny_bind (wpAny_runValue (?_))
        have lt0 : l < s.heap.objs.size := Heap.lt_size hol
        have calm3 : A.in1.in1.in1.handled = none := by simp [calm]
        have ne0 : l ≠ (s.heap.push (setObj0 w)).objs.size := by rw [Heap.size_push]; exact Nat.ne_of_lt (Nat.lt_succ_of_lt lt0)
        have out0 : s.heap.objs.size ∉ [(s.heap.push (setObj0 w)).objs.size, l] := by
          rw [Heap.size_push]; simp only [List.mem_cons, List.mem_singleton, List.not_mem_nil, or_false, not_or]; exact ⟨Nat.ne_of_lt (Nat.lt_succ_self _), Nat.ne_of_gt lt0⟩
        have val0 : ∀ (i : Nat) (v : Value), xs[i]? = some v → ∃ k t, ns[i]? = some k ∧ v = .int k t := fun i v hv => by
          have lt1 : i < ns.length := by rw [← size]; exact (Array.getElem?_eq_some_iff.mp hv).1
          obtain ⟨t, e⟩ := IntsAre.int_at hin i v (by rw [Array.getElem?_toList]; exact hv)
          exact ⟨ns[i], t, List.getElem?_eq_getElem lt1, by rw [e, List.getD_eq_getElem?_getD, List.getElem?_eq_getElem lt1]; rfl⟩
        refine set_update_ints ((Walks.list calm3 _ l ne0 xs).toS) s.heap.objs.size out0 ns size few val0 (xs.size - 0) 0 _ (by omega) (Nat.zero_le _) ⟨⟨_, Heap.get?_push_size _ rfl, rfl, rfl⟩, (isl.push _)⟩ ?start ?rest
        case start =>
          have at2 : ((s.heap.push (setObj0 w)).push { cls := .type "list_iterator", data := .fields #[.ref l, .int 0 0] }).get? s.heap.objs.size = some (setObj0 w) := Heap.get?_push_of_some _ at0
          exact ⟨0, Nat.le_refl 0, setR_new_at at2⟩
        case rest =>
          intro s' c' hm hc' hS'
          obtain ⟨h', g2, d2, tk', os2⟩ := s'
          have e1 : g2 = s.gens := hm.gens; have e2 : d2 = s.drawn := hm.drawn; have e3 : os2 = s.os := hm.os
          subst e1; subst e2; subst e3
          show wpAny _ _ _ _ _ _
          refine wpAny_pure ?_; show wpAny _ _ (ret Value.none) _ _ _
          rw [size] at hc'
          refine wpAny_pure ⟨rfl, h', tk', c', rfl, hS', hc', (fun b o e => ?_)⟩
          have lt2 : b < s.heap.objs.size := Heap.lt_size e
          have ne1 : b ≠ s.heap.objs.size := Nat.ne_of_lt lt2
          have ne2 : b ≠ (s.heap.push (setObj0 w)).objs.size := by rw [Heap.size_push]; exact Nat.ne_of_lt (Nat.lt_succ_of_lt lt2)
          exact hm.heap b o (by simp only [List.mem_cons, List.mem_singleton, List.not_mem_nil, or_false, not_or]; exact ⟨ne1, ne2⟩) (Heap.get?_push_of_some _ (Heap.get?_push_of_some _ e))

      · cases r₂ with
        | error e => exact hr₂
        | ok fl₂ =>
          cases fl₂ with
          | ret r =>
            obtain ⟨rfl, h', tk, c', rfl, q1, q2, q3⟩ := hr₂
            repeat any_goals (first | assumption | wp_step)
            exact fin _ _ _ q1 q2 q3
          | _ => exact hr₂.elim
    | _ => exact hr.elim
end

def uniqI : List Int → List Int
  | [] => []
  | x :: r => if x ∈ uniqI r then uniqI r else x :: uniqI r
theorem mem_uniqI {k : Int} : ∀ {l : List Int}, k ∈ uniqI l ↔ k ∈ l
  | [] => .rfl
  | x :: r => by
    unfold uniqI
    by_cases h : x ∈ uniqI r
    · rw [if_pos h, mem_uniqI (l := r), List.mem_cons]
      exact ⟨.inr, fun z => z.elim (fun e => by rw [e]; exact mem_uniqI.mp h) id⟩
    · rw [if_neg h, List.mem_cons, List.mem_cons, mem_uniqI (l := r)]
theorem nodup_uniqI : ∀ l : List Int, (uniqI l).Nodup
  | [] => .nil
  | x :: r => by
    unfold uniqI
    by_cases h : x ∈ uniqI r
    · rw [if_pos h]; exact nodup_uniqI r
    · rw [if_neg h]; exact List.nodup_cons.mpr ⟨h, nodup_uniqI r⟩
section
variable {X : Cx}
def SqI (K : PySem.W.Frag) (H : Hp) (l : Addr) (ns : List Int) : Prop := SqL K H l (ns.map V.int) ∨ SqT K H l (ns.map V.int)
theorem set_of_ints {pins : List (Addr × Obj)} {σ : L2.St} {H : Hp} {s : Shared} {l : Addr} {ns : List Int} {Q : Value → Shared → Prop} (hc : X.calm = true) (I : Inv X pins σ H s) (h : SqI X.K H l ns) (few : ns.length ≤ 1000)
    (fin : ∀ (h' : Heap) (tk c : Nat), SetR X.w h' s.heap.objs.size (fun j => decide (j ∈ ns)) c → c ≤ ns.length → (∀ b o, s.heap.get? b = some o → h'.get? b = some o) → Q (.ref s.heap.objs.size) { s with heap := h', toks := tk }) :
    wpAny (model X.prog X.w) X.A (call (.type "set") [.ref l]) Q X.xe s := by
  rcases h with h | h
  · obtain ⟨its, rv, pl, hz⟩ := I.list h
    exact set_of_listI ns (I.ok.hd hc) pl.isList (ints_of_vals rv) (by unfold scanBound; omega) fin
  · obtain ⟨its, rv, pt, hz⟩ := I.tuple h
    exact call_set_tupI ns (I.ok.hd hc) (show s.heap.IsTuple l its.toArray from pt) (ints_of_vals rv) (by unfold scanBound; omega) fin
def tSortSet (K : PySem.W.Frag) (ta : TE) : TE := fun σ H Q => ta σ H fun x H1 => ∃ (l : Addr) (ns : List Int), x = .ref l ∧ SqI K H1 l ns ∧ ns.length ≤ 1000 ∧ (uniqI ns).length < 64 ∧
  ∀ (ms : List Int) (p : Addr), ms.Pairwise (· < ·) → (∀ k, k ∈ ms ↔ k ∈ ns) → H1 p = none → Q (.ref p) (upd H1 p (.lst (ms.map V.int)))
theorem pe_sortSet {a : Expr} {ta : TE} {p p2 q pos : Pos} (hc : X.calm = true) (hg : Gl X "sorted") (hm : X.mg "sorted" = none) (hg2 : Gl X "set") (hm2 : X.mg "set" = none) (ha : PE X a ta)
    (na : starEach [a] X.env = (false, eval a X.env) :: starEach [] X.env := by rfl) : PE X (.Call (.Name "sorted" p) [.Call (.Name "set" p2) [a] [] q] [] pos) (tSortSet X.K ta) := by
  refine ⟨(fun pins s σ H Q I h => ?_)⟩
  refine Call_ (ld_blt I hg hm (by rfl) ?_)
  refine callWith_builtin1 (args_cons ?_ rfl) rfl rfl
  refine Call_ (ld_blt I hg2 hm2 PyProof.Rows.boot_set (?_))
  refine callWith_type1 (args_cons (thn (ha.run pins s σ H _ I h) fun v s1 ⟨x, H1, I1, r1, q1⟩ => args_nil ?_) na) na rfl
  obtain ⟨l, ns, rfl, hq, h1k, h64, q1⟩ := q1
  cases r1
  refine set_of_ints hc I1 hq (by omega) fun h' tk c R hcn k => ?_
  refine args_nil ?_
  have I2 : Inv X pins σ H1 { s1 with heap := h', toks := tk } := I1.kept k
  have hcu : c = (uniqI ns).length := by
    obtain ⟨o, es, ep, t, ho, hex, hd, g, nd, hm, hb, hf, hn, hr, hl⟩ := R
    have pm : (es.toList.map L2.keyOf).Perm (uniqI ns) := (List.perm_ext_iff_of_nodup nd (nodup_uniqI ns)).mpr fun k => by rw [← hm k, decide_eq_true_eq, mem_uniqI]
    have := pm.length_eq
    rw [List.length_map, Array.length_toList, hn] at this; exact this
  refine sorted_set R (I2.ok.hd hc) (by omega) fun s' p out c ms k2 g o hp hg hi hs hm hl => ?_
  have hlen : (ms.map V.int).length ≤ sizeLine := by rw [List.length_map, hl, sizeLine_eq]; omega
  have hn : H1 p = none := I2.hok.fresh hp
  have J : Inv X pins σ (upd H1 p (.lst (ms.map V.int))) { { s1 with heap := h', toks := tk } with heap := s'.heap, gens := s'.gens, drawn := s'.drawn, toks := s'.toks } :=
    I2.call (ch := []) (Un.laid k2 hp hn) (I2.hok.laid k2 hp ⟨hlen, out.toList, c, vals_of_ints hi, hg⟩) (by rw [g]; exact I2.bare) (fun _ z => nomatch z)
  have e : s' = { s1 with heap := s'.heap, gens := s'.gens, drawn := s'.drawn, toks := s'.toks } := by
    cases s'; cases s1; cases o; rfl
  rw [e]
  exact ⟨.ref p, _, J, rfl, q1 ms p hs (fun j => by rw [hm j, decide_eq_true_eq]) hn⟩
end

def setI (ns : List Int) : List Int := sortI (uniqI ns)
theorem setI_mem {k : Int} {ns : List Int} : k ∈ setI ns ↔ k ∈ ns := (sortI_perm _).mem_iff.trans mem_uniqI
theorem setI_lt (ns : List Int) : (setI ns).Pairwise (· < ·) := by
  have h1 := sortI_sorted (uniqI ns)
  have h2 : (sortI (uniqI ns)).Nodup := (sortI_perm _).nodup_iff.mpr (nodup_uniqI ns)
  have h3 := h1.and h2
  exact h3.imp fun ⟨a, b⟩ => by omega
theorem ltI_unique {a b : List Int} (ha : a.Pairwise (· < ·)) (hb : b.Pairwise (· < ·)) (h : ∀ k, k ∈ a ↔ k ∈ b) : a = b := by
  have na : a.Nodup := ha.imp fun h => by omega
  have nb : b.Nodup := hb.imp fun h => by omega
  exact sorted_unique ((List.perm_ext_iff_of_nodup na nb).mpr h) (ha.imp fun h => by omega) (hb.imp fun h => by omega)
def cOp1 (k : PyData → OR) (a : Opd) : CE := fun env => (a.ev env).bind fun la env1 => match la.get env1 with
  | some x => (k x).fin env1
  | none => .no
def oSortSet : PyData → OR
  | .list ds => match intsOf ds with
    | some ns => if ns.length ≤ 1000 ∧ (uniqI ns).length < 64 then .val (.own false (.list ((setI ns).map .int))) else .no
    | none => .no
  | .tuple ds => match intsOf ds with
    | some ns => if ns.length ≤ 1000 ∧ (uniqI ns).length < 64 then .val (.own false (.list ((setI ns).map .int))) else .no
    | none => .no
  | _ => .no
section
variable {X : Cx} {xp : XP} {W : WX}
theorem de_sortSet {a : Expr} {o : Opd} {ta : TE} {p p2 q pos : Pos} (hc : X.calm = true) (hg : Gl X "sorted") (hm : X.mg "sorted" = none) (hg2 : Gl X "set") (hm2 : X.mg "set" = none) (ha : DO X xp W a o ta)
    (na : starEach [a] X.env = (false, eval a X.env) :: starEach [] X.env := by rfl) : DE X xp W (.Call (.Name "sorted" p) [.Call (.Name "set" p2) [a] [] q] [] pos) (cOp1 oSortSet o) (tSortSet X.K ta) := by
  refine ⟨pe_sortSet hc hg hm hg2 hm2 ha.pe na, fun e σ H F env Q w h => ?_⟩
  refine ha.run w (fun x env1 H' F' cls d q w' s y => ?_) (fun q => ?_) fun la env1 v H1 F1 q w1 s1 l1 => ?_
  · unfold cOp1 at h; rw [q] at h; exact h H' F' cls d w' s y
  · unfold cOp1 at h; rw [q] at h; exact h
  · unfold cOp1 at h; rw [q] at h; simp only [Res.bind] at h
    cases g1 : la.get env1 with
    | none => rw [g1] at h; exact h.elim
    | some x =>
      rw [g1] at h
      have rb := RB.of w1 l1 g1
      have fin : ∀ ns : List Int, Post X.K xp W e σ F Q ((OR.val (.own false (.list ((setI ns).map .int)))).fin env1) → ∀ (ms : List Int) (p : Addr), ms.Pairwise (· < ·) → (∀ k, k ∈ ms ↔ k ∈ ns) → H1 p = none → Q (.ref p) (upd H1 p (.lst (ms.map V.int))) := fun ns h ms p hs hm hp => by
        have e : ms = setI ns := ltI_unique hs (setI_lt ns) fun k => (hm k).trans setI_mem.symm
        subst e
        exact OPost.newL (b := false) w1.sub (.of w1 s1 h) (rds_ints _) p hp
      cases x with
      | list ds =>
        unfold oSortSet at h; dsimp only at h
        cases g : intsOf ds with
        | none => rw [g] at h; exact h.elim
        | some ns =>
          rw [g] at h; dsimp only at h
          by_cases z : ns.length ≤ 1000 ∧ (uniqI ns).length < 64
          · rw [if_pos z] at h
            obtain ⟨l, vs, rfl, r1, r2⟩ := rb.lst w1.sub
            have e := intsOf_rds r2 g
            subst e
            exact ⟨l, ns, rfl, .inl (.inl r1), z.1, z.2, fin ns h⟩
          · rw [if_neg z] at h; exact h.elim
      | tuple ds =>
        unfold oSortSet at h; dsimp only at h
        cases g : intsOf ds with
        | none => rw [g] at h; exact h.elim
        | some ns =>
          rw [g] at h; dsimp only at h
          by_cases z : ns.length ≤ 1000 ∧ (uniqI ns).length < 64
          · rw [if_pos z] at h
            obtain ⟨l, vs, rfl, r1, r2⟩ := rb.tup w1.sub
            have e := intsOf_rds r2 g
            subst e
            exact ⟨l, ns, rfl, .inr r1, z.1, z.2, fin ns h⟩
          · rw [if_neg z] at h; exact h.elim
      | _ => exact h.elim
end

def dispI (l : List (Str × Int)) : PyData := .dict (l.map fun p => (.str p.1, .int p.2))
def cDispI (l : List (Str × Int)) : CE := fun env => .ok (.own false (dispI l)) env
def tDispI (l : List (Str × Int)) : TE := tDisp (l.map fun p => (tC (.str p.1), tC (.int p.2)))
theorem tPairs_c {σ : L2.St} {H : Hp} : ∀ (l : List (Str × Int)) (Q : List (V × V) → Hp → Prop), Q (l.map fun p => (V.str p.1, V.int p.2)) H → tPairs (l.map fun p => (tC (.str p.1), tC (.int p.2))) σ H Q
  | [], _, q => q
  | p :: l, Q, q => tPairs_c l (fun ps H3 => Q ((V.str p.1, V.int p.2) :: ps) H3) q
def kvI (l : List (Str × Int)) : List (Key × V) := l.map fun p => (.inr p.1, .int p.2)
theorem merge_apart : ∀ (more kvs : List (Key × V)), ((kvs ++ more).map (·.1)).Nodup → mergeK kvs more = kvs ++ more
  | [], kvs, _ => (List.append_nil _).symm
  | p :: r, kvs, h => by
    have e : putK kvs p.1 p.2 = kvs ++ [p] := by
      unfold putK
      rw [if_neg]
      intro z
      obtain ⟨q, hq, e⟩ := List.any_eq_true.mp z
      rw [List.map_append, List.map_cons] at h
      have := (List.nodup_append.mp h).2.2 q.1 (List.mem_map.mpr ⟨q, hq, rfl⟩) p.1 List.mem_cons_self
      exact this (of_decide_eq_true e)
    show mergeK (putK kvs p.1 p.2) r = _
    rw [e, merge_apart r (kvs ++ [p]) (by rw [List.append_assoc]; exact h), List.append_assoc]; rfl
theorem rds_kvI {K : PySem.W.Frag} {F : Hp} : ∀ l : List (Str × Int), RDs K F ((kvI l).map (·.2)) (l.map fun p => .int p.2)
  | [] => .nil
  | p :: l => .cons (.int p.2) (rds_kvI l)
theorem zip_kvI : ∀ l : List (Str × Int), ((kvI l).map fun p => keyD p.1).zip (l.map fun p => PyData.int p.2) = l.map fun p => (.str p.1, .int p.2)
  | [] => rfl
  | p :: l => congrArg (((PyData.str p.1, PyData.int p.2)) :: ·) (zip_kvI l)
inductive PairsI (X : Cx) (pos : Pos) : List (Option Expr) → List Expr → List (Str × Int) → Prop
  | nil : PairsI X pos [] [] []
  | cons {x : Str} {i : Int} {j j2 : Nat} {p p2 : Pos} {ks : List (Option Expr)} {vs : List Expr} {l : List (Str × Int)} : PairsI X pos ks vs l → PairsI X pos (some (.Constant (.str x) j p) :: ks) (.Constant (.int i) j2 p2 :: vs) ((x, i) :: l)
  | neg {x : Str} {i : Int} {j j2 : Nat} {p p2 p3 : Pos} {ks : List (Option Expr)} {vs : List Expr} {l : List (Str × Int)} : PairsI X pos ks vs l → PairsI X pos (some (.Constant (.str x) j p) :: ks) (.UnaryOp .USub (.Constant (.int i) j2 p2) p3 :: vs) ((x, -i) :: l)
section
variable {X : Cx} {xp : XP} {W : WX}
theorem pe_negK {i : Int} {j : Nat} {p p2 : Pos} : PE X (.UnaryOp .USub (.Constant (.int i) j p) p2) (tC (.int (-i))) := ⟨fun pins s σ H Q I h => (pe_un un_neg pe_int).run pins s σ H Q I ⟨i, rfl, h⟩⟩
theorem PairsI.pps {pos : Pos} {ks : List (Option Expr)} {vs : List Expr} {l : List (Str × Int)} (h : PairsI X pos ks vs l) : PPs X pos ks vs (l.map fun p => (tC (.str p.1), tC (.int p.2))) ∧ ks.all (·.isSome) = true ∧ ks.length = vs.length ∧ ks.length = l.length := by
  induction h with
  | nil => exact ⟨pps_nil, rfl, rfl, rfl⟩
  | cons h ih =>
    obtain ⟨a, b, c, d⟩ := ih
    exact ⟨pps_cons pe_str pe_int a, by simp [b], by simp [c], by simp [d]⟩
  | neg h ih =>
    obtain ⟨a, b, c, d⟩ := ih
    exact ⟨pps_cons pe_str pe_negK a, by simp [b], by simp [c], by simp [d]⟩
theorem de_dispI {pos : Pos} {ks : List (Option Expr)} {vs : List Expr} {l : List (Str × Int)} (h : PairsI X pos ks vs l) (hn : (l.map (·.1)).Nodup) (h0 : l ≠ []) (h15 : l.length ≤ 15) : DE X xp W (.Dict ks vs pos) (cDispI l) (tDispI l) := by
  obtain ⟨a, b, c, d⟩ := h.pps
  refine ⟨pe_disp a b c (fun z => h0 (by rw [z] at d; exact List.eq_nil_of_length_eq_zero d.symm)) (by omega), fun e σ H F env Q w p q hq => ?_⟩
  refine tPairs_c l _ ⟨upd_same, kvI l, ?_, ?_, ?_⟩
  · unfold kvI; rw [List.map_map]; rfl
  · unfold kvI; rw [List.length_map]; exact h15
  · have e1 : mergeK [] (kvI l) = kvI l := merge_apart (kvI l) [] (by
      rw [List.nil_append]; unfold kvI; rw [List.map_map]
      have : ((fun p : Key × V => p.1) ∘ fun p : Str × Int => ((Sum.inr p.1 : Key), V.int p.2)) = (Sum.inr : Str → Key) ∘ (fun p : Str × Int => p.1) := rfl
      rw [this, ← List.map_map]
      exact hn.map _ fun x y z e => z (Sum.inr.inj e))
    rw [e1, upd_upd]
    have n0 : kvI l ≠ [] := fun z => h0 (by unfold kvI at z; exact List.map_eq_nil_iff.mp z)
    have ct : Cont X.K F (.dK (kvI l)) (dispI l) := by unfold dispI; rw [← zip_kvI]; exact .dK n0 (rds_kvI l)
    exact p _ _ _ (w.grow (w.grow_new hq)) (.refl _) (RN.rc (c := .own false (dispI l)) w (w.grow_new hq) ⟨q, _, rfl, hq, upd_same, w.fresh hq, ct⟩)
def lookK : List (PyData × PyData) → Str → Option PyData
  | [], _ => none
  | (k, d) :: r, z => if keyOf k = some (.inr z) then some d else lookK r z
def oIxK : Op2
  | .dict kvd, .str z => if isTD kvd then .no else match lookK kvd z with
    | some d => .val (.frz d)
    | none => .no
  | _, _ => .no
end
end DL

namespace DL
open PySem PySem.Spec PyProof.Rows L2
def link (k : Op2) (la lb : Lt) (C : Cs → Res Cell) : Cs → Res Cell := fun env => match la.get env, lb.get env with
  | some x, some y => match k x y with
    | .val (.frz (.bool true)) => C env
    | .val (.frz (.bool false)) => .ok (.frz (.bool false)) env
    | _ => .no
  | _, _ => .no
def linkL (k : Op2) (la lb : Lt) : Cs → Res Cell := fun env => match la.get env, lb.get env with
  | some x, some y => (k x y).fin env
  | _, _ => .no
def cChain3 (k k' k2 : Op2) (a b c d : Opd) : CE := fun env => (a.ev env).bind fun la env1 => (b.ev env1).bind fun lb env2 =>
  link k la lb (fun env2 => (c.ev env2).bind fun lc env3 => link k' lb lc (fun env3 => (d.ev env3).bind fun ld env4 => linkL k2 lc ld env4) env3) env2
section
variable {X : Cx} {xp : XP} {W : WX}
def tChain3 (r r' r2 : R2) (ta tb tc td : TE) : TE := fun σ H Q => ta σ H fun x H1 => tb σ H1 fun y H2 => r x y H2 fun z H3 => ∃ k, z = .bl k ∧
  (if k = true then tc σ H3 fun x2 H4 => r' y x2 H4 fun z H5 => ∃ k, z = .bl k ∧ (if k = true then td σ H5 fun x3 H6 => r2 x2 x3 H6 Q else Q (.bl false) H5) else Q (.bl false) H3)
end
end DL

namespace DL
open PySem PySem.Spec PyProof.Rows L2
def iterF (body : Fn → Fn) : Nat → Fn
  | 0 => fun _ => .no
  | n + 1 => body (iterF body n)
section
variable {P : Program} {w : World} {K : PySem.W.Frag} {mg : Str → Option Value} {base : Heap} {xp : XP}
end
end DL

namespace DL
open PySem PySem.Spec PyProof.Rows L2
mutual
/-- no dict in it -/
def flatE : PyData → Bool
  | .dict _ => false
  | .list xs => flatEs xs
  | .tuple xs => flatEs xs
  | .none => true
  | .bool _ => true
  | .int _ => true
  | .str _ => true
def flatEs : List PyData → Bool
  | [] => true
  | x :: xs => flatE x && flatEs xs
end
section
variable {X : Cx} {pins : List (Addr × Obj)} {σ : L2.St} {H F : Hp} {s : Shared} {h' : Heap}
mutual
/-- what the data read as in the model's heap -/
theorem reads_of (I : Inv X pins σ H s) (sf : Sub F H) (hk : ∀ b o, s.heap.get? b = some o → h'.get? b = some o) : ∀ {v : V} {d : PyData} {u : Value}, RD X.K F v d → L2.RelV v u → flatE d = true → ∃ as, Reads h' u d as
  | _, _, _, .non, r, _ => by cases r; exact ⟨_, .none⟩
  | _, _, _, .bl b, r, _ => by cases r; exact ⟨_, .bool b⟩
  | _, _, _, .int i, r, _ => by obtain ⟨t, rfl⟩ := r; exact ⟨_, .int i t⟩
  | _, _, _, .str x, r, _ => by obtain ⟨t, rfl⟩ := r; exact ⟨_, .str x t⟩
  | _, _, _, .lst h rs, r, p => by
    cases r
    obtain ⟨its, rv, pl, _⟩ := I.list (Or.inl (sf.rd _ _ trivial h))
    obtain ⟨o, ho, hc, n, hd⟩ := pl.isList
    obtain ⟨as, ra⟩ := readsAll_of I sf hk rs rv (by simpa [flatE] using p)
    exact ⟨_, .list (hk _ _ ho) hc hd (by simpa using ra)⟩
  | _, _, _, .scr h, r, p => by simp [flatE] at p
  | _, _, _, .adr a, r, p => by simp [flatE] at p
  | _, _, _, .fn x q, r, p => by simp [flatE] at p
  | _, _, _, .tup h rs, r, p => by
    cases r
    obtain ⟨its, rv, ⟨o, ho, hc, n, hd⟩, _⟩ := I.tuple (Or.inl (Or.inl (sf.tp _ _ h)))
    obtain ⟨as, ra⟩ := readsAll_of I sf hk rs rv (by simpa [flatE] using p)
    exact ⟨_, .tuple (hk _ _ ho) hc hd (by simpa using ra)⟩
  | _, _, _, .dK n h rs, r, p => by simp [flatE] at p
  | _, _, _, .dT h rs, r, p => by simp [flatE] at p
  | _, _, _, .ins h c l rs, r, p => by simp [flatE] at p
theorem readsAll_of (I : Inv X pins σ H s) (sf : Sub F H) (hk : ∀ b o, s.heap.get? b = some o → h'.get? b = some o) : ∀ {vs : List V} {ds : List PyData} {us : List Value}, RDs X.K F vs ds → Vals vs us → flatEs ds = true → ∃ as, ReadsAll h' us ds as
  | _, _, _, .nil, r, _ => by cases r; exact ⟨_, .nil⟩
  | _, _, _, .cons a b, r, p => by
    cases r with
    | cons r1 r2 =>
      rw [flatEs, Bool.and_eq_true] at p
      obtain ⟨as, h1⟩ := reads_of I sf hk a r1 p.1
      obtain ⟨bs, h2⟩ := readsAll_of I sf hk b r2 p.2
      exact ⟨_, .cons h1 h2⟩
end
end
def sortD (ds : List PyData) : List PyData := ds.mergeSort fun a b => !PySem.W.dataLt b a
def SortsD (ds : List PyData) : Prop := PySem.W.AllAlike ds ∧ PySem.W.Sortable ds ∧ (∀ d ∈ ds, flatE d = true ∧ d.depth ≤ 30)
def rSortD (K : PySem.W.Frag) : List V → Hp → VK → Prop := fun vs H Q => ∃ (F : Hp) (a : Addr) (xs : List V) (ds : List PyData), Sub F H ∧ vs = [V.ref a] ∧ SqL K H a xs ∧ RDs K F xs ds ∧ SortsD ds ∧
  ∀ (ys : List V) (p : Addr), ys.length = xs.length → RDs K F ys (sortD ds) → H p = none → Q (.ref p) (upd H p (.lst ys))
def isT1 : PyData → Bool
  | .tuple (_ :: _) => true
  | _ => false
def noT : PyData → Bool
  | .none => false
  | .tuple _ => false
  | _ => true
def okSort (ds : List PyData) : Bool := ds.all (fun d => ds.all fun d' => PySem.W.alike d d') && (ds.all isT1 || ds.all noT) && ds.all fun d => flatE d && decide (d.depth ≤ 30)
def oSortD : OpN
  | [.list ds] => if okSort ds then .val (.own false (.list (sortD ds))) else .no
  | _ => .no
def okLt (dx dy : PyData) : Bool := flatE dx && flatE dy && PySem.W.alike dx dy && decide (dx.depth ≤ 60) && (match dx with | .none => false | _ => true)
def rLtD (K : PySem.W.Frag) : R2 := fun x y H Q => ∃ F dx dy, Sub F H ∧ RB K H F x dx ∧ RB K H F y dy ∧ okLt dx dy = true ∧ Q (.bl (PySem.W.dataLt dx dy)) H
def oLtD : Op2 := fun dx dy => if okLt dx dy = true then .val (.frz (.bool (PySem.W.dataLt dx dy))) else .no
end DL

namespace DL
open PySem PySem.Spec PyProof.Rows L2
abbrev Pr := Addr × Addr × List Key × V
structure PrAt (K : PySem.W.Frag) (H : Hp) (t : Pr) : Prop where
  tup : SqT K H t.1 [.ref t.2.1, t.2.2.2]
  key : H t.2.1 = some (.tup (t.2.2.1.map kV))
def rDictP (K : PySem.W.Frag) : List V → Hp → VK → Prop := fun vs H Q => ∃ (a : Addr) (ts : List Pr), vs = [.ref a] ∧ SqL K H a (ts.map fun t => V.ref t.1) ∧ (∀ t ∈ ts, PrAt K H t) ∧ (ts.map (·.2.2.1)).Nodup ∧
  ∀ p, H p = none → Q (.ref p) (upd H p (.dT (ts.map (·.2.2))))
section
variable {X : Cx}
end
def pairsD : List PyData → Option (List (List Key × PyData))
  | [] => some []
  | .tuple [k, v] :: r => match tkOf k, pairsD r with
    | some ks, some l => some ((ks, v) :: l)
    | _, _ => none
  | _ => none
def oDictP : OpN
  | [.list ds] => match pairsD ds with
    | some kvs => if (kvs.map (·.1)).Nodup then .val (.own false (.dict (kvs.map fun p => (tkeyD p.1, p.2)))) else .no
    | none => .no
  | _ => .no
def cRepL (c : CE) (k : Nat) : CE := fun env => (c env).bind fun x env1 => match x with
  | .own false (.list ds) => if ds.length * k ≤ 1000000 ∧ k ≤ 1000000 then .ok (.own false (.list (List.replicate k ds).flatten)) env1 else .no
  | _ => .no
end DL

namespace DL
open PySem PySem.Spec PyProof.Rows L2
def uniqA {α : Type} [DecidableEq α] : List α → List α
  | [] => []
  | x :: r => if x ∈ uniqA r then uniqA r else x :: uniqA r
section
variable {α : Type} [DecidableEq α]
end
section
variable {X : Cx} {xp : XP} {W : WX}
def tLenSet (K : PySem.W.Frag) (ta : TE) : TE := fun σ H Q => ta σ H fun x H1 => ∃ (l : Addr) (n : Nat), x = .ref l ∧
  ((∃ ns : List Int, SqI K H1 l ns ∧ ns.length ≤ 1000 ∧ n = (uniqA ns).length) ∨ ∃ ks : List (Addr × List Int), SqL K H1 l (ks.map fun p => V.ref p.1) ∧ (∀ p ∈ ks, SqT K H1 p.1 (p.2.map V.int)) ∧ ks.length < 64 ∧ n = (uniqA (ks.map (·.2))).length) ∧ Q (.int (n : Nat)) H1
def tupsOf : List PyData → Option (List (List Int))
  | [] => some []
  | .tuple ds :: r => match intsOf ds, tupsOf r with
    | some ns, some l => some (ns :: l)
    | _, _ => none
  | _ => none
def oLenSet : PyData → OR
  | .list ds => match intsOf ds with
    | some ns => if ns.length ≤ 1000 then frzI ((uniqA ns).length : Nat) else .no
    | none => match tupsOf ds with
      | some ks => if ks.length < 64 then frzI ((uniqA ks).length : Nat) else .no
      | none => .no
  | _ => .no
end
end DL

namespace DL
open PySem PySem.Spec PyProof.Rows L2
def oIsB : Op2
  | .bool a, .bool b => frzB (decide (a = b))
  | _, _ => .no
def oNotB : Op2
  | .bool a, .bool b => frzB (!decide (a = b))
  | _, _ => .no
section
variable {K : PySem.W.Frag} {H F : Hp}
theorem RB.bl {v : V} {b : Bool} (h : RB K H F v (.bool b)) : v = .bl b := by
  generalize e : PyData.bool b = d at h
  cases h with
  | fz r => cases r <;> first | (cases e; rfl) | cases e
  | own h1 n1 k1 => cases k1 <;> cases e
end
end DL

namespace DL
open PySem PySem.Spec PyProof.Rows L2

structure Rz (K : PySem.W.Frag) (mg : Str → Option Value) (x : Str) (C : Addr) : Prop where
  g : mg x = some (.ref C)
  q : PySem.W.excIn K C [.type "ValueError", .type "Exception", .type "BaseException", .type "object"] "ValueError.__new__" = true
  k : PySem.W.keepIn K (.ref C) = true
  b : PySem.W.subIn K (.ref C) (.type "BaseException") = some true
  t : PySem.W.typeIn K (.ref C) = some (.type "type")
def xpC (ca : List (Str × Addr)) : XP := fun x cls d _ => ∃ C, ca.lookup x.cls = some C ∧ cls = .ref C ∧ d = none
def cRaise (x : Str) : CS := fun env => .ex ⟨x, none⟩ env
section
variable {X : Cx} {W : WX} {ca : List (Str × Addr)} {xp : XP}
def cTry (i : Nat) (hm : Exc → Option Cell) (cb : CS) : CS := fun env => match cb env with
  | .ex x env1 => match decide (i < env1.length), hm x with
    | true, some c => .rt c env1
    | _, _ => .no
  | r => r
def tSuite (K : PySem.W.Frag) (xp : XP) (hm : Exc → Option Cell) (i : Nat) (a : Addr) (cls : Value) (d : Option Addr) : TS := fun D σ H =>
  ∃ x c F, hm x = some c ∧ xp x cls d H ∧ Sub F H ∧ σ[i]? = some (some (.ref a)) ∧ ∀ v H' F', Grow H F H' F' → RN K H H' F' v c → D.rt v H'
def tSem (K : PySem.W.Frag) (xp : XP) (c : CS) (W : WX) : TS := fun D σ H => ∃ e F env, Wl K e σ H F env ∧ SPost K xp W e F D (c env)
theorem ds_try {x n : Str} {cS : Value} {i : Nat} {body suite : List Stmt} {b₀ : Stmt} {np pos pos' : Pos} {hm : Exc → Option Cell} {cb : CS}
    (hs : X.stack = X.env :: X.outer) (hf : X.env.frame = some X.env.locals) (hN : X.N.Nodup) (hi : X.N[i]? = some n) (hln : X.env.kindOf n = some .local) (hc : Names X x cS) (tk : L2N.Takes X W)
    (hk : ∀ ex cls d H', (hm ex).isSome = true → xp ex cls d H' → PySem.W.exmOne X.K cls cS = some true)
    (hb : ∀ (W' : WX) (pn : List (Addr × Obj)) (xe : Value → Shared → Prop), L2N.Takes (X.tr pn xe) W' → PassesOwn (model X.prog X.w) X.A X.env xe → DSs (X.tr pn xe) xp W' body cb)
    (hsu : ∀ (a : Addr) (oe : Obj) (cls : Value) (d : Option Addr) (pn : List (Addr × Obj)), L2N.Zn cls d oe → (∃ vs, oe.data = .fields vs) → PSs (X.suite a ((a, oe) :: pn)) (b₀ :: suite) (tSuite X.K xp hm i a cls d)) :
    DS X xp W (.Try body [.ExceptHandler (some (.Name x np)) (some n) (b₀ :: suite) pos'] [] [] pos) (cTry i hm cb) := by
  refine ⟨_, L2N.ps_try_as (tb := tSem X.K xp cb) hs hf hN hi hln hc tk (fun W' pn xe tk' po => ?_) hsu, fun e σ H F env D w h => ⟨e, F, env, w, ?_⟩⟩
  · obtain ⟨t, p, q⟩ := hb W' pn xe tk' po
    exact ⟨fun pins s σ H D I ⟨e, F, env, w, h⟩ => p.run pins s σ H D I (q e σ H F env D w h)⟩
  · unfold cTry at h
    cases g : cb env with
    | nx env1 => rw [g] at h; exact h
    | rt c env1 => rw [g] at h; exact h
    | bk env1 => rw [g] at h; exact h
    | ct env1 => rw [g] at h; exact h
    | no => rw [g] at h; exact h
    | ex ex env1 =>
      rw [g] at h; dsimp only at h
      cases gi : decide (i < env1.length) with
      | false => rw [gi] at h; exact h.elim
      | true =>
        rw [gi] at h
        have hil : i < env1.length := of_decide_eq_true gi
        cases gm : hm ex with
        | none => rw [gm] at h; exact h.elim
        | some c =>
          rw [gm] at h; dsimp only at h
          intro σ' H' F' cls d w' s' hx
          refine ⟨true, hk ex cls d H' (by rw [gm]; rfl) hx, fun _ a na => ?_, fun z => by cases z⟩
          exact ⟨ex, c, F', gm, hx, w'.sub, by rw [List.getElem?_set_self (by rw [w'.len]; exact hil)], fun v H2 F2 gr rn => h v σ' H2 F2 (w'.grow gr) (s'.trans gr.fz) (rn.rc w' gr)⟩
end
end DL

namespace DL
open PySem PySem.Spec PyProof.Rows L2

structure FnP (P : Program) (w : World) (K : PySem.W.Frag) (mg : Str → Option Value) (base : Heap) (k : Nat) (f : Addr) (fd : FuncData) (ps : List Str) (p : Addr × Obj) (sp : Sp) : Prop where
  len : ∀ vs H Q E, sp vs H Q E → vs.length = ps.length
  run : ∀ (A : Around) (fr : List Env) (s : Shared) (H : Hp) (us : List Value) (vs : List V) (Q : VK) (E : XK), L2H.RoomH k A → L2H.Hot1 A p → L2H.PinOk fr H s p → Env0 P w K mg base A fr s H → BindsTo s fd ⟨us, []⟩ (ps.zip us) → Vals vs us → sp vs H Q E →
    codeAny (model P w) A (.call (.ref f) ⟨us, []⟩) (CR (L2N.CX P w) fr P w H s Q E) s
theorem FnP.mono {P : Program} {w : World} {K : PySem.W.Frag} {mg : Str → Option Value} {base : Heap} {j k : Nat} {f : Addr} {fd : FuncData} {ps : List Str} {p : Addr × Obj} {sp : Sp} (F : FnP P w K mg base j f fd ps p sp) (h : j ≤ k) : FnP P w K mg base k f fd ps p sp :=
  ⟨F.len, fun A fr s H us vs Q E hr => F.run A fr s H us vs Q E (hr.mono h)⟩
abbrev bodyH (P : Program) (w : World) (K : PySem.W.Frag) (mg : Str → Option Value) (base : Heap) (N : List Str) (qual : Str) (st : Stmt) (f : Addr) (cdv : Value) (A : Around) (fr : List Env) (s : Shared) (H : Hp) (E : XK) (p : Addr × Obj) : Cx :=
  L2H.cxH (L2N.CX P w) P w K mg base N qual (defScope st) f cdv A fr s H E p
section
variable {P : Program} {w : World} {K : PySem.W.Frag} {mg : Str → Option Value} {base : Heap} {xp : XP}
end

section
variable {X : Cx} {W : WX} {xp : XP} {p : Addr × Obj}
def adrD (a : Addr) : PyData := .dict [(.none, .int (a : Nat))]
def isAdr (a : Addr) : PyData → Bool
  | .dict [(.none, .int i)] => decide (i = (a : Nat))
  | _ => false
@[simp] theorem isAdr_adr (a : Addr) : isAdr a (adrD a) = true := decide_eq_true rfl
def cIsE (a : Addr) (b : Bool) (i : Nat) : CE := fun env => match env.getD i .emp with
  | .frz d => match isAdr a d with
    | true => .ok (.frz (.bool b)) env
    | false => .no
  | _ => .no
end
end DL

namespace DL
open PySem PySem.Spec PyProof.Rows L2

abbrev blkP (X : Cx) (p : Addr × Obj) (s : Shared) (H : Hp) (scope : Scope) (cenv : Env) (fp : List Addr) : Cx := { X.blk s H scope cenv fp with pn := [p] }
section
variable {X : Cx} {p : Addr × Obj} {xp : XP} {W : WX}
end
end DL

namespace DL
open PySem PySem.Spec PyProof.Rows L2

section
variable {X : Cx}
def rCntF (K : PySem.W.Frag) : V → List V → Hp → VK → Prop := fun x xs H Q => ∃ (a : Addr) (ys : List V) (y : V), x = .ref a ∧ xs = [y] ∧ SqL K H a ys ∧ flatV y = true ∧ ys.all flatV = true ∧ Q (.int (ys.countP fun z => eqV z y : Nat)) H
end
def eqF : PyData → PyData → Bool
  | .none, .none => true
  | .bool a, .bool b => a == b
  | .bool a, .int b => (if a then 1 else 0) == b
  | .int a, .bool b => a == (if b then 1 else 0)
  | .int a, .int b => a == b
  | .str a, .str b => a == b
  | _, _ => false
def isFlat : PyData → Bool
  | .none => true
  | .bool _ => true
  | .int _ => true
  | .str _ => true
  | _ => false
def oCount : OpV
  | .list ds, [d] => if isFlat d && ds.all isFlat then frzI (ds.countP fun z => eqF z d : Nat) else .no
  | _, _ => .no
def oIndex : OpV
  | .list ds, [d] => if isFlat d && ds.all isFlat then match ds.findIdx? fun z => eqF z d with
    | some j => frzI (j : Nat)
    | none => .no
    else .no
  | _, _ => .no
section
variable {K : PySem.W.Frag} {H F : Hp} {Q : VK}
end

def mroD (C S : Addr) : List Value := [.ref C, .ref S, .type "ValueError", .type "Exception", .type "BaseException", .type "object"]
structure AskC (K : PySem.W.Frag) (mg : Str → Option Value) (x : Str) (C : Addr) : Prop where
  g : mg x = some (.ref C)
  t : PySem.W.typeIn K (.ref C) = some (.type "type")
  c : (PySem.W.clsIn K C).isSome = true
structure RzC (K : PySem.W.Frag) (mg : Str → Option Value) (S : Addr) (x : Str) (C : Addr) : Prop where
  a : AskC K mg x C
  q : PySem.W.excIn K C [.type "ValueError", .type "Exception", .type "BaseException", .type "object"] "ValueError.__new__" = true
  k : PySem.W.keepIn K (.ref C) = true
  m : ∃ cd, PySem.W.clsIn K C = some cd ∧ cd.mro = mroD C S
  hg : PySem.W.findIn K (.ref C) "__getattribute__" = some (some (.builtin "BaseException.__getattribute__"))
  hk : PySem.W.findIn K (.ref C) "__getattr__" = some none
  hd : PySem.W.hasDictIn K C = true
  ha : PySem.W.findIn K (.ref C) "__class__" = some (some (.builtin "object.__class__"))
structure Classes (K : PySem.W.Frag) (mg : Str → Option Value) (S : Addr) (ask rz : List (Str × Addr)) : Prop where
  s : AskC K mg "StoneError" S
  sb : PySem.W.subIn K (.ref S) (.type "BaseException") = some true
  hn : PySem.W.specialIn K (.builtin "object.__class__") "__get__" = some (some (.builtin "getset_descriptor.__get__"))
  ht : PySem.W.takesIn K (.builtin "object.__class__") = some true
  nd : (S :: ask.map (·.2)).Nodup
  one : ∀ x C, ask.lookup x = some C → AskC K mg x C
  sub : ∀ x C, rz.lookup x = some C → ask.lookup x = some C
  up : ∀ x C, rz.lookup x = some C → RzC K mg S x C
section
variable {K : PySem.W.Frag} {mg : Str → Option Value} {S : Addr} {ask rz : List (Str × Addr)}
theorem lookup_mem {α : Type} {l : List (Str × α)} {x : Str} {C : α} (h : l.lookup x = some C) : (x, C) ∈ l := PySem.mem_of_lookup h
theorem RzC.sub {x : Str} {C : Addr} (r : RzC K mg S x C) (b : Value) : PySem.W.subIn K (.ref C) b = some ((mroD C S).contains b) := by
  obtain ⟨cd, h1, h2⟩ := r.m
  show PySem.W.mroIn K C b = _
  unfold PySem.W.mroIn
  rw [h1, Option.bind_some, h2]; rfl
theorem Classes.exc (T : Classes K mg S ask rz) {x : Str} {C : Addr} (h : rz.lookup x = some C) : ExcC K C := by
  have r := T.up x C h
  refine ⟨r.hg, r.hk, by rw [r.sub]; simp [mroD], r.hd, r.ha, T.hn, T.ht, ?_⟩
  have z : PySem.W.subIn K (.ref C) (.type "object") = some true := by rw [r.sub]; simp [mroD]
  exact z
theorem kitCls_ref {D C : Addr} {b : Bool} (t : PySem.W.typeIn K (.ref C) = some (.type "type")) (c : (PySem.W.clsIn K C).isSome = true) (h : PySem.W.subIn K (.ref D) (.ref C) = some b) : PySem.W.kitCls K (.ref D) (.ref C) = some b := by
  unfold PySem.W.kitCls
  dsimp only
  rw [if_pos (by rw [c, t]; rfl)]; exact h
theorem nodup_snd : ∀ {l : List (Str × Addr)} {x y : Str} {C : Addr}, (l.map (·.2)).Nodup → (x, C) ∈ l → (y, C) ∈ l → x = y
  | [], _, _, _, _, h, _ => by cases h
  | (a, b) :: l, x, y, C, nd, h1, h2 => by
    rw [List.map_cons, List.nodup_cons] at nd
    rcases List.mem_cons.mp h1 with e1 | h1 <;> rcases List.mem_cons.mp h2 with e2 | h2
    · cases e1; cases e2; rfl
    · cases e1; exact (nd.1 (List.mem_map.mpr ⟨_, h2, rfl⟩)).elim
    · cases e2; exact (nd.1 (List.mem_map.mpr ⟨_, h1, rfl⟩)).elim
    · exact nodup_snd nd.2 h1 h2
theorem Classes.is (T : Classes K mg S ask rz) {x y : Str} {D C : Addr} (h : rz.lookup x = some D) (h' : ask.lookup y = some C) : PySem.W.kitOne K (.ref D) (.ref C) = some (x == y) := by
  have a := T.one y C h'
  have hx := lookup_mem (T.sub x D h)
  have hy := lookup_mem h'
  have nd := T.nd
  rw [List.nodup_cons] at nd
  unfold PySem.W.kitOne
  by_cases e : D = C
  · subst e
    rw [if_pos (by simp), nodup_snd nd.2 hx hy]; simp
  · have ne : x ≠ y := fun z => by
      subst z
      rw [T.sub x D h] at h'; cases h'; exact e rfl
    rw [if_neg (by simp [e]), kitCls_ref a.t a.c ((T.up x D h).sub _)]
    have nS : C ≠ S := fun z => nd.1 (by rw [← z]; exact List.mem_map.mpr ⟨_, hy, rfl⟩)
    have e1 : (x == y) = false := by simpa using ne
    rw [e1]
    have n1 : (Value.ref C == Value.ref D) = false := by simp [Ne.symm e]
    have n2 : (Value.ref C == Value.ref S) = false := by simp [nS]
    unfold mroD
    simp only [List.contains_cons, n1, n2, Bool.false_or]
    rfl
theorem Classes.met (T : Classes K mg S ask rz) {x : Str} {D : Addr} (h : rz.lookup x = some D) : PySem.W.exmOne K (.ref D) (.ref S) = some true := by
  unfold PySem.W.exmOne
  rw [if_pos (by rw [T.sb]; rfl)]
  rw [kitCls_ref T.s.t T.s.c ((T.up x D h).sub _)]; simp [mroD]
end

def hmMarks : Exc → Option Cell := fun x => (([("NoNet", "net"), ("NoSpot", "spot"), ("NoRules", "rules"), ("NoStones", "stones"), ("NoLay", "lay"), ("NoStep", "step"), ("NoPlay", "play"), ("NoTree", "tree")] : List (Str × Str)).lookup x.cls).map fun s => .frz (.str s)
def hmOnly (n : Str) : Exc → Option Cell := fun x => some (.frz (.bool (x.cls == n)))
def hmPlaces : Exc → Option Cell := fun x => (([("NoNet", 0), ("NoSpot", 1), ("NoRules", 2), ("NoStones", 3), ("NoLay", 4), ("NoStep", 5), ("NoPlay", 6), ("NoTree", 7), ("NoWay", 9), ("NoOrder", 10), ("NoGoals", 11), ("NoRow", 12)] : List (Str × Int)).lookup x.cls).map fun k => .own false (.list [.int k])
section
variable {X : Cx} {xp : XP}
def suiteEnv (n i : Nat) (a : Addr) : Cs := (List.replicate n Cell.emp).set i (.frz (adrD a))
end
end DL

namespace DL
open PySem PySem.Spec PyProof.Rows L2
section
variable {X : Cx} {xp : XP} {W : WX} {K : PySem.W.Frag}
end
end DL

namespace DL
open PySem PySem.Spec PyProof.Rows L2
def oMulT : Op2
  | .tuple (d :: ds), .int k => if 2 ≤ k ∧ k ≤ 1000 ∧ ds.length < 1000 then .val (.frz (.tuple (List.replicate k.toNat (d :: ds)).flatten)) else .no
  | _, _ => .no
end DL

namespace DL
open PySem PySem.Spec PyProof.Rows L2
section
variable {X : Cx} {pins : List (Addr × Obj)} {σ : L2.St} {H : Hp} {s : Shared}
end
section
variable {X : Cx} {W : WX} {xp : XP}
end
end DL

namespace DL
open PySem PySem.Spec PyProof.Rows L2
open PySem.SeqAt PySem.AutoSeq1 PySem.MeetsSeq PySem.MeetsSeq2 PySem.MeetsSeq3
section
variable {A : Around} {s : Shared}
end
def isDic : PyData → Bool
  | .dict ((.none, _) :: _) => false
  | .dict (_ :: _) => true
  | _ => false
def isSeqD : PyData → Bool
  | .list _ => true
  | .tuple _ => true
  | _ => false
def oNeX : Op2 := fun x y => if isDic x && isSeqD y && shp y then frzB true else oNe x y
def rNeM (K : PySem.W.Frag) : R2 := fun x y H Q => ∃ a e, x = .ref a ∧ ((∃ kvs, Rd H a (.dK kvs)) ∨ ∃ kvs, Rd H a (.dT kvs)) ∧ Dp K H y e ∧ isSeqD e = true ∧ Q (.bl true) H
def rNeX (K : PySem.W.Frag) : R2 := fun x y H Q => rNeA K x y H Q ∨ rNeM K x y H Q
end DL

namespace DL
open PySem PySem.Spec PyProof.Rows L2
def truB : PyData → Option Bool
  | .none => some false
  | .bool b => some b
  | .int i => some (i != 0)
  | .str x => if x.length ≤ lim then some ((x.length : Int) != 0) else none
  | .list ds => some (!ds.isEmpty)
  | .tuple ds => some (!ds.isEmpty)
  | .dict ((.int _, _) :: _) => some true
  | .dict ((.str _, _) :: _) => some true
  | .dict _ => none
def TruX (K : PySem.W.Frag) (x : V) (H : Hp) (k : Bool) : Prop := TruV K x H k ∨ ∃ p o kvs, x = .ref p ∧ H p = some (.frz o (.dK kvs)) ∧ k = !kvs.isEmpty
def tOrX (K : PySem.W.Frag) (ta tb : TE) : TE := fun σ H Q => ta σ H fun x H1 => ∃ k, TruX K x H1 k ∧ if k = true then Q x H1 else tb σ H1 Q
def cOrV (c d : CE) : CE := fun env => (c env).bind fun x env1 => match x with
  | .frz v => match truB v with
    | some true => .ok (.frz v) env1
    | some false => d env1
    | none => .no
  | _ => .no
section
variable {X : Cx} {xp : XP} {W : WX}
end
end DL

namespace DL
open PySem PySem.Spec PyProof.Rows L2
def cPar3 (i j l : Nat) (c d g : CE) : CS := fun env => match c env with
  | .ex x env1 => .ex x env1
  | .ok (.frz x) env1 => (match d env1 with
    | .ex x env2 => .ex x env2
    | .ok (.frz y) env2 => (match g env2 with
      | .ex x env3 => .ex x env3
      | .ok (.frz z) env3 => (match isLck (env3.getD i .emp) || isLck (env3.getD j .emp) || isLck (env3.getD l .emp) with
        | true => .no
        | false => .nx (((env3.set i (.frz x)).set j (.frz y)).set l (.frz z)))
      | _ => .no)
    | _ => .no)
  | _ => .no
section
variable {X : Cx} {xp : XP} {W : WX}
end
end DL

namespace DL
open PySem PySem.Spec PyProof.Rows L2
section
variable {X : Cx} {xp : XP} {W : WX}
theorem KEnt.isSome {es : List DictEntry} {kvs : List (Str × PyData)} (h : KEnt es kvs) (x : Str) : (findBy Value.isStrOf es.toArray x).isSome = (lookS kvs x).isSome := by
  have f := h.find x
  cases g : lookS kvs x with
  | none => rw [g] at f; dsimp only at f; rw [f]; rfl
  | some d => rw [g] at f; obtain ⟨u, e, k⟩ := f; rw [e]; rfl
def cKNotIn (kvs : List (Str × PyData)) (o : Opd) : CE := fun env => (o.ev env).bind fun l env1 => match l.get env1 with
  | some (.str x) => .ok (.frz (.bool (!(lookS kvs x).isSome))) env1
  | _ => .no
def rKNotIn (a : Addr) (es : List DictEntry) : R2 := fun x y H Q => ∃ z : Str, x = .str z ∧ y = .ref a ∧ Q (.bl (!(findBy Value.isStrOf es.toArray z).isSome)) H
def cKIx (kvs : List (Str × PyData)) (o : Opd) : CE := fun env => (o.ev env).bind fun l env1 => match l.get env1 with
  | some (.str x) => match lookS kvs x with
    | some d => .ok (.frz d) env1
    | none => .no
  | _ => .no
def rKIx (a : Addr) (es : List DictEntry) : R2 := fun x y H Q => ∃ (z : Str) (u0 : Value) (v0 : V), x = .ref a ∧ y = .str z ∧ findBy Value.isStrOf es.toArray z = some u0 ∧ RelV v0 u0 ∧ Q v0 H
def iRevC (c : CE) : CI := fun env => (c env).bind fun c env1 => match c.val with
  | some d => match seqOf d with
    | some ds => .ok ds.reverse env1
    | none => .no
  | none => .no
end
end DL

namespace DL
open PySem PySem.Spec PyProof.Rows RT
section
variable {prog : Program} {w : World} {A : Around} {E : Value → Shared → Prop} {s : Shared}
end
section
open L2
variable {X : Cx} {xp : XP} {W : WX}
def tListRev (K : PySem.W.Frag) (te : TE) : TE := fun σ H Q => te σ H fun v H1 => ∃ (a : Addr) (xs : List V), v = .ref a ∧ SqL K H1 a xs ∧ ∀ q, H1 q = none → Q (.ref q) (upd H1 q (.lst xs.reverse))
def cListRev (o : Opd) : CE := fun env => (o.ev env).bind fun l env1 => match l.get env1 with
  | some (.list ds) => .ok (.own false (.list ds.reverse)) env1
  | _ => .no
end
end DL

namespace DL
open PySem PySem.Spec PyProof.Rows L2
mutual
def canX : PyData → Bool
  | .list ds => canXs ds
  | .tuple ds => canXs ds
  | .dict [(.str _, .int _)] => true
  | .dict _ => false
  | _ => true
def canXs : List PyData → Bool
  | [] => true
  | d :: ds => canX d && canXs ds
end
theorem canX_dict {kvs : List (PyData × PyData)} (h : canX (.dict kvs) = true) : ∃ k i, kvs = [(.str k, .int i)] := by
  unfold canX at h
  split at h
  · rename_i e; cases e
  · rename_i e; cases e
  · rename_i e; injection e with e; exact ⟨_, _, e⟩
  · cases h
  · rename_i e; exact (e _ rfl).elim
def showX (d : PyData) : Bool := showOk d || (canX d && d.showable && decide (d.depth ≤ 40) && decide (d.shown.length ≤ lim))
def oReprX : OpN
  | [d] => if showX d then .val (.frz (.str d.shown)) else .no
  | _ => .no
def rReprD (K : PySem.W.Frag) : List V → Hp → VK → Prop := fun xs H Q => ∃ (x : V) (d : PyData), xs = [x] ∧ RD K H x d ∧ canX d = true ∧ d.showable = true ∧ d.depth ≤ 40 ∧ d.shown.length ≤ lim ∧ Q (.str d.shown) H
def rReprX (K : PySem.W.Frag) : List V → Hp → VK → Prop := fun xs H Q => rRepr K xs H Q ∨ rReprD K xs H Q
theorem dic1_reads {X : Cx} {pins : List (Addr × Obj)} {σ : L2.St} {H : Hp} {s : Shared} {a : Addr} {k : Str} {i : Int} (I : Inv X pins σ H s) (h : Rd H a (.dK [(.inr k, .int i)])) : (a == sysModules) = false ∧ ∃ o es n t1 t2, s.heap.get? a = some o ∧ o.cls = .type "dict" ∧ o.data = .dict es n ∧ es.toList.map (·.key) = [.str k t1] ∧ es.toList.map (·.val) = [.int i t2] := by
  obtain ⟨_, lo, vs, kv, o, es, ep, ho, hx, hd, _, hp, _⟩ := h.ok I.hok
  refine ⟨lo, o, es, ep, ?_⟩
  obtain ⟨k2, v2, rfl, e1, r1⟩ : ∃ k2 v2, vs = [(k2, v2)] ∧ Sum.inr k = k2 ∧ RelV (.int i) v2 := by
    cases kv with
    | cons h1 h2 => cases h2; exact ⟨_, _, rfl, h1.1, h1.2⟩
  subst e1
  obtain ⟨t2, rfl⟩ := r1
  have go : ∀ L : List DictEntry, PySem.Pairs (mixKind X.prog X.w) L [(Sum.inr k, Value.int i t2)] → ∃ t1, L.map (·.key) = [.str k t1] ∧ L.map (·.val) = [.int i t2] := by
    intro L hp
    cases hp with
    | cons h1 h2 h3 =>
      cases h3
      have h1' : keyIs (Sum.inr k) _ = true := h1
      rcases keyIs_shape h1' with ⟨i, t, e, _⟩ | ⟨x, t, e, e2⟩
      · cases e
      · cases e
        exact ⟨t, by rw [List.map_cons, List.map_nil]; exact congrArg (fun x => [x]) e2, by rw [List.map_cons, List.map_nil, h2]⟩
  obtain ⟨t1, g1, g2⟩ := go _ hp
  exact ⟨t1, t2, ho, hx.1, hd, g1, g2⟩
theorem dic1_rd {K : PySem.W.Frag} {H : Hp} {v : V} {k : Str} {i : Int} (rd : RD K H v (.dict [(.str k, .int i)])) : ∃ a, v = .ref a ∧ Rd H a (.dK [(.inr k, .int i)]) := by
  generalize hd : PyData.dict [(PyData.str k, PyData.int i)] = d at rd
  cases rd with
  | @dK a kvs ds n kk r =>
    injection hd with hd
    have hl := r.length
    refine ⟨a, rfl, ?_⟩
    cases kvs with
    | nil => cases hd
    | cons p kvs =>
      cases ds with
      | nil => cases hd
      | cons d2 ds =>
        rw [List.map_cons, List.zip_cons_cons] at hd
        injection hd with e1 e2
        injection e1 with e3 e4
        cases kvs with
        | cons p2 kvs =>
          cases ds with
          | nil => simp at hl
          | cons d3 ds => cases e2
        | nil =>
          obtain ⟨k2, v2⟩ := p
          have r1 : RD K H v2 d2 := by cases r with | cons a b => exact a
          rw [← e4] at r1
          have hv : v2 = .int i := by cases r1; rfl
          subst hv
          cases k2 with
          | inl j => cases e3
          | inr x =>
            have : k = x := by injection e3
            subst this
            exact kk
  | @dT a kvs ds kk r =>
    injection hd with hd
    cases kvs with
    | nil => cases hd
    | cons p kvs =>
      cases ds with
      | nil => cases hd
      | cons d2 ds =>
        rw [List.map_cons, List.zip_cons_cons] at hd
        injection hd with e1 e2
        injection e1 with e3 e4
        cases e3
  | _ => cases hd
section
variable {X : Cx} {pins : List (Addr × Obj)} {σ : L2.St} {H : Hp} {s : Shared}
mutual
theorem rk_of (I : Inv X pins σ H s) : ∀ (d : PyData) (v : V) (u : Value), RD X.K H v d → RelV v u → canX d = true → d.showable = true → d.shown.length ≤ sizeLine →
    ∃ as bs, Reads s.heap u d as ∧ ReadAtMost s.heap d.depth bs ∧ ReprK X.prog X.w bs s.heap d.depth u d.shown
  | .none, _, _, h, r, _, hs, hz => by
    cases h; cases r
    have h := ReprK.of_reads (prog := X.prog) (w := X.w) (h₀ := s.heap) Reads.none hs (fun e => by cases e) hz
    obtain ⟨bs, h1, h2⟩ := h
    exact ⟨_, bs, Reads.none, h1, h2⟩
  | .bool b, _, _, h, r, _, hs, hz => by
    cases h; cases r
    obtain ⟨bs, h1, h2⟩ := ReprK.of_reads (prog := X.prog) (w := X.w) (h₀ := s.heap) (Reads.bool b) hs (fun e => by cases e) hz
    exact ⟨_, bs, Reads.bool b, h1, h2⟩
  | .int i, _, _, h, r, _, hs, hz => by
    cases h
    obtain ⟨t, rfl⟩ := r
    obtain ⟨bs, h1, h2⟩ := ReprK.of_reads (prog := X.prog) (w := X.w) (h₀ := s.heap) (Reads.int i t) hs (fun e => by cases e) hz
    exact ⟨_, bs, Reads.int i t, h1, h2⟩
  | .str x, _, _, h, r, _, hs, hz => by
    cases h
    obtain ⟨t, rfl⟩ := r
    obtain ⟨bs, h1, h2⟩ := ReprK.of_reads (prog := X.prog) (w := X.w) (h₀ := s.heap) (Reads.str x t) hs (fun e => by cases e) hz
    exact ⟨_, bs, Reads.str x t, h1, h2⟩
  | .list ds, _, _, h, r, hc, hs, hz => by
    cases h with
    | lst hr ha =>
      cases r
      obtain ⟨its, rv, ⟨o, n, ho, hcl, _, hd⟩, _⟩ := I.list (.inl hr)
      have hz' : (listText (PyData.shownAll ds)).length ≤ sizeLine := by simpa only [PyData.shown] using hz
      obtain ⟨as, bs, h4, hb, hk⟩ := rks_of I ds _ its ha rv (by unfold canX at hc; exact hc) (by simpa [PyData.showable] using hs) (fun t ht => Nat.le_trans (listText_mem_le ht) hz')
      have rd := Reads.list ho hcl hd h4
      have hna := not_mem_of_deeper rd (by simp only [PyData.depth]; omega) hb
      refine ⟨_, _, rd, ReadAtMost.cons rd (by simp only [PyData.depth]; omega) hb, ?_⟩
      simp only [PyData.depth, PyData.shown]
      cases its with
      | nil =>
        cases h4
        simp only [PyData.shownAll, listText_nil]
        exact ReprK.listEmpty ho hcl hd
      | cons x l => exact ReprK.list ho hcl hd hna (by simpa using hk.length_eq) (fun i y e => hk.item i y (by simpa using e))
  | .tuple ds, _, _, h, r, hc, hs, hz => by
    cases h with
    | tup hr ha =>
      cases r
      obtain ⟨its, rv, ⟨o, ho, hcl, n, hd⟩, _⟩ := I.tuple (.inl (.inl hr))
      have hz' : (tupleText (PyData.shownAll ds)).length ≤ sizeLine := by simpa only [PyData.shown] using hz
      obtain ⟨as, bs, h4, hb, hk⟩ := rks_of I ds _ its ha rv (by unfold canX at hc; exact hc) (by simpa [PyData.showable] using hs) (fun t ht => Nat.le_trans (tupleText_mem_le ht) hz')
      have rd := Reads.tuple ho hcl hd h4
      have hna := not_mem_of_deeper rd (by simp only [PyData.depth]; omega) hb
      refine ⟨_, _, rd, ReadAtMost.cons rd (by simp only [PyData.depth]; omega) hb, ?_⟩
      simp only [PyData.depth, PyData.shown]
      exact ReprK.tuple ho hcl hd hna hk
  | .dict kvs, v, u, h, r, hc, hs, hz => by
    obtain ⟨k, i, rfl⟩ : ∃ k i, kvs = [(.str k, .int i)] := canX_dict hc
    obtain ⟨a, rfl, hr⟩ := dic1_rd h
    cases r
    obtain ⟨lo, o, es, n, t1, t2, h1, h2, h3, h4, h5⟩ := dic1_reads I hr
    have rd : Reads s.heap (.ref a) (.dict [(.str k, .int i)]) (a :: ([] ++ []) ++ ([] ++ [])) := .dict h1 h2 h3 (by rw [h4]; exact .cons (.str k t1) .nil) (by rw [h5]; exact .cons (.int i t2) .nil)
    obtain ⟨bs, q1, q2⟩ := ReprK.of_reads (prog := X.prog) (w := X.w) rd hs (fun _ hm => by
      simp at hm
      rw [← hm] at lo
      simp at lo) hz
    exact ⟨_, bs, rd, q1, q2⟩
theorem rks_of (I : Inv X pins σ H s) : ∀ (ds : List PyData) (vs : List V) (us : List Value), RDs X.K H vs ds → Vals vs us → canXs ds = true → PyData.showableAll ds = true → (∀ t ∈ PyData.shownAll ds, t.length ≤ sizeLine) →
    ∃ as bs, ReadsAll s.heap us ds as ∧ ReadAtMost s.heap (PyData.depthAll ds) bs ∧ ReprAllK X.prog X.w bs s.heap (PyData.depthAll ds) us (PyData.shownAll ds)
  | [], _, _, h, r, _, _, _ => by
    cases h; cases r
    exact ⟨_, [], ReadsAll.nil, (fun _ h => nomatch h), by simp only [PyData.shownAll]; exact .nil⟩
  | d :: ds, _, _, h, r, hc, hs, hz => by
    cases h with
    | cons g1 g2 =>
      cases r with
      | cons r1 r2 =>
        unfold canXs at hc
        rw [Bool.and_eq_true] at hc
        have hs' : d.showable = true ∧ PyData.showableAll ds = true := by simpa [PyData.showableAll] using hs
        obtain ⟨as, b1, a1, hb1, k1⟩ := rk_of I d _ _ g1 r1 hc.1 hs'.1 (hz _ (by simp only [PyData.shownAll]; exact List.mem_cons_self ..))
        obtain ⟨as2, b2, a2, hb2, k2⟩ := rks_of I ds _ _ g2 r2 hc.2 hs'.2 (fun t ht => hz t (by simp only [PyData.shownAll]; exact List.mem_cons_of_mem _ ht))
        refine ⟨_, b1 ++ b2, ReadsAll.cons a1 a2, ?_, ?_⟩
        · simp only [PyData.depthAll]
          exact (hb1.mono (Nat.le_max_left _ _)).append (hb2.mono (Nat.le_max_right _ _))
        · simp only [PyData.depthAll, PyData.shownAll]
          exact .cons ((k1.more fun b hb => List.mem_append_left _ hb).level_le (Nat.le_max_left _ _)) (k2.more_le (fun b hb => List.mem_append_right _ hb) (Nat.le_max_right _ _))
end
end
end DL

namespace DL
open PySem PySem.Spec PyProof.Rows L2
def strsJ : List PyData → Option (List Str)
  | [] => some []
  | .str x :: ds => (strsJ ds).map (x :: ·)
  | _ :: _ => none
theorem strsJ_rds {K : PySem.W.Frag} {F : Hp} : ∀ {vs : List V} {ds : List PyData} {ys : List Str}, RDs K F vs ds → strsJ ds = some ys → vs = ys.map V.str
  | _, _, ys, .nil, h => by cases h; rfl
  | _, _, ys, .cons (d := d) a b, h => by
    cases d with
    | str x =>
      have h : (strsJ _).map (x :: ·) = some ys := h
      obtain ⟨zs, h1, rfl⟩ := Option.map_eq_some_iff.mp h
      cases a
      rw [strsJ_rds b h1]; rfl
    | _ => cases h
def cJoin (s : Str) (o : Opd) : CE := fun env => (o.ev env).bind fun l env1 => match l.get env1 with
  | some (.list ds) => match strsJ ds with
    | some ys => if (ys.map (·.length)).sum + ys.length * s.length ≤ 16777216 then .ok (.frz (.str (Txt.join s ys))) env1 else .no
    | none => .no
  | _ => .no
def rJoin (K : PySem.W.Frag) : V → List V → Hp → VK → Prop := fun x xs H Q => ∃ a p, ∃ ys : List Str, x = .str a ∧ xs = [.ref p] ∧ (SqL K H p (ys.map V.str) ∨ SqT K H p (ys.map V.str)) ∧ (ys.map (·.length)).sum + ys.length * a.length ≤ 16777216 ∧ Q (.str (Txt.join a ys)) H
section
variable {X : Cx} {xp : XP} {W : WX} {K : PySem.W.Frag}
theorem de_join {s : Str} {oe e : Expr} {o : Opd} {to te : TE} {apos pos : Pos} (ho : DE X xp W oe (cK (.str s)) to) (he : DO X xp W e o te) (hs : starEach [e] X.env = [(false, eval e X.env)] := by rfl) (hbase : attributeBase oe "join" X.env (eval oe X.env) = eval oe X.env := by rfl) (hline : (apos.endLine == pos.line) = true := by rfl) (eK : X.K = K := by rfl) :
    DE X xp W (.Call (.Attribute oe "join" apos) [e] [] pos) (cJoin s o) (tM1 (rJoin K) to te) := by
  subst eK
  refine ⟨pe_join ho.1 he.pe hs hbase hline, fun en σ H F env Q w q => ?_⟩
  refine ho.2 en σ H F env _ w ?_
  intro v H0 F0 w0 s0 r0
  have hv : v = .str s := by cases (show RD X.K F0 v (.str s) from r0); rfl
  subst hv
  refine ⟨⟨s, rfl⟩, ?_⟩
  unfold cJoin at q
  refine he.run w0 (fun x env1 H' F' cls d g w' s y => ?_) (fun g => ?_) fun l env1 v H1 F1 g w1 s1 l1 => ?_
  · rw [g] at q; exact q H' F' cls d w' (s0.trans s) y
  · rw [g] at q; exact q
  · rw [g] at q; simp only [Res.bind] at q
    cases g1 : l.get env1 with
    | none => rw [g1] at q; exact q.elim
    | some d =>
      rw [g1] at q
      cases d with
      | list ds =>
        obtain ⟨a, vs, rfl, r1, r2⟩ := (RB.of w1 l1 g1).lst w1.sub
        dsimp only at q
        cases g2 : strsJ ds with
        | none => rw [g2] at q; exact q.elim
        | some ys =>
          rw [g2] at q
          have e := strsJ_rds r2 g2
          subst e
          dsimp only at q
          by_cases hz : (ys.map (·.length)).sum + ys.length * s.length ≤ 16777216
          · rw [if_pos hz] at q
            exact ⟨s, a, ys, rfl, rfl, .inl (.inl r1), hz, q _ H1 F1 w1 (s0.trans s1) (.str _)⟩
          · rw [if_neg hz] at q; exact q.elim
      | _ => exact q.elim
end
end DL

namespace DL
open PySem PySem.Spec PyProof.Rows L2
section
variable {X : Cx} {xp : XP} {W : WX}
end
end DL

namespace DL
open PySem PySem.Spec PyProof.Rows L2 HT
section
variable {prog : Program} {w : World} {A : Around} {E : Value → Shared → Prop} {s : Shared}
end
section
variable {X : Cx}
def tRevA (K : PySem.W.Frag) (te : TE) : TE := fun σ H Q => te σ H fun x H1 =>
  (∃ a xs, x = .ref a ∧ SqL K H1 a xs ∧ ∀ p, H1 p = none → Q (.ref p) (upd H1 p (.lst xs.reverse))) ∨
  (∃ a xs, x = .ref a ∧ SqT K H1 a xs ∧ ∀ p, H1 p = none → Q (.ref p) (upd H1 p (.tup xs.reverse)))
end
def cRevA (o : Opd) : CE := fun env => (o.ev env).bind fun l env1 => match l.get env1 with
  | some (.list ds) => .ok (.own false (.list ds.reverse)) env1
  | some (.tuple ds) => .ok (.frz (.tuple ds.reverse)) env1
  | _ => .no
section
variable {X : Cx} {xp : XP} {W : WX}
end
end DL

namespace DL
open PySem PySem.Spec PyProof.Rows L2
def rRepU (K : PySem.W.Frag) : R2 := fun x y H Q => ∃ l k xs, x = .ref l ∧ y = .int k ∧ SqT K H l xs ∧ xs ≠ [] ∧
  ((k = 1 ∧ Q (.ref l) H) ∨ (k ≤ 0 ∧ -1000 ≤ k ∧ ∀ p, H p = none → Q (.ref p) (upd H p (.tup []))))
section
variable {X : Cx}
end
abbrev rRepA (K : PySem.W.Frag) : R2 := fun x y H Q => rRepT K x y H Q ∨ rRepU K x y H Q
def oMulU : Op2
  | .tuple (d :: ds), .int k => if 2 ≤ k ∧ k ≤ 1000 ∧ ds.length < 1000 then .val (.frz (.tuple (List.replicate k.toNat (d :: ds)).flatten))
    else if k = 1 then .val (.frz (.tuple (d :: ds))) else if k ≤ 0 ∧ -1000 ≤ k then .val (.frz (.tuple [])) else .no
  | _, _ => .no
end DL

namespace DL
open PySem PySem.Spec PyProof.Rows L2
open PySem.SeqAt PySem.AutoSeq1 PySem.MeetsSeq PySem.MeetsSeq2 PySem.MeetsSeq3 PySem.SeqRoads2
def rNotInH (K : PySem.W.Frag) : R2 := fun x y H Q => ∃ (a : Addr) (v0 : V) (vs : List V) (d z : PyData), y = .ref a ∧ Rd H a (.lst (v0 :: vs)) ∧ Dp K H v0 z ∧ Dp K H x d ∧ SeqAt.shaped d = true ∧ SeqAt.shaped z = true ∧ PyData.eqv z d = true ∧ Q (.bl false) H
def rNotInX (K : PySem.W.Frag) : R2 := fun x y H Q => (rIn K true x y H Q ∨ rNotInD K x y H Q) ∨ rNotInH K x y H Q
def headIs (x : PyData) : PyData → Bool
  | .list (z :: _) => shp x && shp z && PyData.eqv z x
  | _ => false
def oNotInX : Op2 := fun x y => if headIs x y then frzB false else oIn true x y
end DL

namespace DL
open PySem PySem.Spec PyProof.Rows L2
section
variable {K : PySem.W.Frag} {e : Ent} {σ : L2.St} {H F : Hp} {env : Cs}
def withH (e : Ent) (p : Addr) (vs : List V) : Ent := ⟨upd e.H₀ p (.lst vs), e.F₀, fun a => e.P a ∧ a ≠ p, e.pin, e.lk⟩
theorem Wl.withH (w : Wl K e σ H F env) {p : Addr} {vs : List V} (h : H p = none) : Wl K (DL.withH e p vs) σ (upd H p (.lst vs)) F env := by
  have g := w.grow (w.grow_new (o := .lst vs) h)
  have hF : F p = none := w.fresh h
  refine ⟨g.len, g.sub, g.cell, g.apart, fun a o h1 h2 => ?_, fun a h1 => ?_, fun i b d a h1 h2 => ?_, g.pin, g.lk, g.lk2, g.pl⟩
  · by_cases z : a = p
    · subst z
      have h1 : upd e.H₀ a (.lst vs) a = some o := h1
      rw [upd_same] at h1; rw [upd_same]; exact h1
    · have h1 : upd e.H₀ p (.lst vs) a = some o := h1
      rw [upd_ne z] at h1
      exact g.keep a o h1 fun h3 => h2 ⟨h3, z⟩
  · have z : a ≠ p := fun z => by subst z; exact h1 hF
    rcases g.new a h1 with h2 | h2 | h2
    · exact .inl h2
    · refine .inr (.inl ?_)
      unfold NewA DL.withH
      dsimp only
      rw [upd_ne z]; exact h2
    · exact .inr (.inr ⟨h2, z⟩)
  · have q := w.cell i _ _ h1 h2
    obtain ⟨a', u, e1, h3, _⟩ := q
    cases e1
    have z : a ≠ p := fun z => by subst z; rw [h] at h3; cases h3
    rcases w.mine i b d a h1 h2 with h4 | h4
    · exact .inl (by show upd e.H₀ p (.lst vs) a = none; rw [upd_ne z]; exact h4)
    · exact .inr ⟨h4, z⟩
end
def pickI (i j : Nat) (n : Int) : Option Nat := if n = 0 then some i else if n = 1 then some j else none
def cPick (i j : Nat) (k : OpM) (c : Opd) (os : List Opd) : CE := fun env => match (env.getD i .emp).read, (env.getD j .emp).read with
  | some _, some _ => (c.ev env).bind fun l env1 => match l.get env1 with
    | some (.int n) => match pickI i j n with
      | some t => cMethT "list" k t os env1
      | none => .no
    | _ => .no
  | _, _ => .no
section
variable {X : Cx} {xp : XP} {W : WX} {ea eb ix ex : Expr} {es : List Expr} {t : TA} {name : Str} {apos cpos spos lpos : Pos} {id : String} {r : V → List V → Hp → VK → Prop} {k : OpM} {i j : Nat} {os : List Opd} {c : Opd} {tc : TE}
end
end DL

namespace DL
open PySem PySem.Spec PyProof.Rows L2
def isAtm : PyData → Bool
  | .none => true
  | .bool _ => true
  | .int _ => true
  | .str _ => true
  | _ => false
def NoT (F : Hp) (a : Addr) : Prop := ∀ vs, F a ≠ some (.tup vs)
mutual
theorem RD.tups {K : PySem.W.Frag} {F : Hp} : ∀ {d : PyData} {v : V}, noList d = true → RD K F v d → RD K (cut F (NoT F)) v d
  | .none, _, _, .non => .non
  | .bool _, _, _, .bl b => .bl b
  | .int _, _, _, .int i => .int i
  | .str _, _, _, .str x => .str x
  | .tuple ds, _, h, .tup (a := a) (vs := vs) q r => by
    refine .tup ?_ (RDs.tups (by unfold noList at h; exact h) r)
    rw [cut_out (fun z => z vs q)]; exact q
  | .list _, _, h, _ => by unfold noList at h; cases h
  | .dict _, _, h, _ => by unfold noList at h; cases h
theorem RDs.tups {K : PySem.W.Frag} {F : Hp} : ∀ {ds : List PyData} {vs : List V}, noLists ds = true → RDs K F vs ds → RDs K (cut F (NoT F)) vs ds
  | [], _, _, .nil => .nil
  | d :: ds, _, h, .cons a b => by
    unfold noLists at h
    rw [Bool.and_eq_true] at h
    exact .cons (RD.tups h.1 a) (RDs.tups h.2 b)
end
def cPull (m : Fn) (os : List Opd) (i : Int) : CE := fun env => (evs os env).bind fun ls env1 => match gets env1 ls with
  | some ds => match noLists ds with
    | true => match m ds with
      | .ok (.frz (.tuple es)) => match atI es i with
        | some (.list L) => match L.all isAtm with
          | true => .ok (.own false (.list L)) env1
          | false => .no
        | _ => .no
      | _ => .no
    | false => .no
  | none => .no
section
variable {X : Cx} {xp : XP} {W : WX}
end
def oListT : OpN
  | [.dict kvd] => if isTD kvd then .val (.own false (.list (kvd.map (·.1)))) else .no
  | _ => .no
end DL

namespace DL
open PySem PySem.Spec PyProof.Rows L2
abbrev rTupOf (K : PySem.W.Frag) : List V → Hp → VK → Prop := fun xs H Q => ∃ p ys, xs = [.ref p] ∧ ((SqL K H p ys ∧ ∀ l, H l = none → Q (.ref l) (upd H l (.tup ys))) ∨ (SqT K H p ys ∧ Q (.ref p) H))
structure Kpt (e : Ent) (σ : L2.St) (H F : Hp) (env : Cs) (a : Addr) (o : HO) : Prop where
  at_ : H a = some o
  mu : Mut (some o)
  out : F a = none
  old : e.H₀ a = none ∨ e.P a
  no : ∀ (i : Nat) (c : Cell), env[i]? = some c → c.mine = true → σ[i]? ≠ some (some (.ref a))
section
variable {K : PySem.W.Frag} {e : Ent} {σ : L2.St} {H F : Hp} {env : Cs} {a : Addr} {o : HO}
theorem Kpt.live (w : Wl K e σ H F env) (B : Kpt e σ H F env a o) {H1 F1 : Hp} {env1 : Cs} (w1 : Wl K (turnE e σ H F env) σ H1 F1 env1) : Kpt e σ H1 F1 env1 a o := by
  have nP : ¬ (turnE e σ H F env).P a := fun ⟨j, b, d, hc, hx⟩ => B.no j _ hc rfl hx
  refine ⟨w1.keep a _ B.at_ nP, B.mu, ?_, B.old, fun j c hc hm hx => ?_⟩
  · cases z : F1 a with
    | none => rfl
    | some o => rcases w1.new a (by rw [z]; exact fun y => nomatch y) with y | y | y
                · exact absurd B.out y
                · exact (NewA.no (H := H) y B.at_ B.mu).elim
                · exact (nP y).elim
  · cases c with
    | own b2 d =>
      rcases w1.mine j b2 d a hc hx with y | y
      · have y' : H a = none := y
        rw [B.at_] at y'; cases y'
      · exact nP y
    | lck d =>
      have q := w1.lk2 j d hc
      exact B.no j _ (w.lk j d q) rfl hx
    | emp => cases hm
    | frz d => cases hm
    | exc x => cases hm
theorem Kpt.slot (B : Kpt e σ H F env a o) {j : Nat} {v : V} {c : Cell} (hm : c.mine = false) : Kpt e (σ.set j (some v)) H F (env.set j c) a o := by
  refine ⟨B.at_, B.mu, B.out, B.old, fun i c' hc hm' hx => ?_⟩
  by_cases z : j = i
  · subst z
    have hl : j < env.length := by simpa using (List.getElem?_eq_some_iff.mp hc).1
    rw [List.getElem?_set_self hl] at hc; cases hc
    rw [hm] at hm'; cases hm'
  · rw [List.getElem?_set_ne z] at hc hx
    exact B.no i c' hc hm' hx
theorem Kpt.upd (B : Kpt e σ H F env a o) {b : Addr} {u : HO} (h : a ≠ b) : Kpt e σ (L2.upd H b u) F env a o := ⟨by rw [upd_ne h]; exact B.at_, B.mu, B.out, B.old, B.no⟩
end
structure Bks (e : Ent) (σ : L2.St) (H F : Hp) (env : Cs) (i : Nat) (D : Addr) (as : List Addr) (bs : List (List Int)) : Prop where
  len : as.length = bs.length
  nd : as.Nodup
  at_ : ∀ (k : Nat) (a : Addr) (b : List Int), as[k]? = some a → bs[k]? = some b → Kpt e σ H F env a (.lst (b.map V.int))
  dd : Kpt e σ H F env D (.lst (as.map V.ref))
  ne : D ∉ as
  sl : σ[i]? = some (some (.ref D))
section
variable {K : PySem.W.Frag} {e : Ent} {σ : L2.St} {H F : Hp} {env : Cs} {i : Nat} {D : Addr} {as : List Addr} {bs : List (List Int)}
theorem Bks.live (w : Wl K e σ H F env) (B : Bks e σ H F env i D as bs) {H1 F1 : Hp} {env1 : Cs} (w1 : Wl K (turnE e σ H F env) σ H1 F1 env1) : Bks e σ H1 F1 env1 i D as bs :=
  ⟨B.len, B.nd, fun k a b h1 h2 => (B.at_ k a b h1 h2).live w w1, B.dd.live w w1, B.ne, B.sl⟩
theorem Bks.slot (B : Bks e σ H F env i D as bs) {j : Nat} {v : V} {c : Cell} (hm : c.mine = false) (hj : j ≠ i) : Bks e (σ.set j (some v)) H F (env.set j c) i D as bs :=
  ⟨B.len, B.nd, fun k a b h1 h2 => (B.at_ k a b h1 h2).slot hm, B.dd.slot hm, B.ne, by rw [List.getElem?_set_ne hj]; exact B.sl⟩
theorem Bks.push (w : Wl K e σ H F env) (B : Bks e σ H F env i D as bs) {n : Nat} {a : Addr} {b : List Int} (ha : as[n]? = some a) (hb : bs[n]? = some b) (z : Int) :
    Wl K e σ (upd H a (.lst (b.map V.int ++ [.int z]))) F env ∧ Bks e σ (upd H a (.lst (b.map V.int ++ [.int z]))) F env i D as (bs.set n (b ++ [z])) := by
  have hm := List.mem_of_getElem? ha
  have k0 := B.at_ n a b ha hb
  refine ⟨w.free k0.at_ k0.out k0.old k0.no, by rw [List.length_set]; exact B.len, B.nd, fun k a2 b2 h1 h2 => ?_, B.dd.upd (fun z => B.ne (z ▸ hm)), B.ne, B.sl⟩
  by_cases e1 : n = k
  · subst e1
    rw [ha] at h1; cases h1
    rw [List.getElem?_set_self (List.getElem?_eq_some_iff.mp hb).1] at h2
    cases h2
    exact ⟨by rw [upd_same, List.map_append]; rfl, trivial, k0.out, k0.old, k0.no⟩
  · rw [List.getElem?_set_ne e1] at h2
    have hne : a2 ≠ a := fun e2 => by
      subst e2
      obtain ⟨l1, q1⟩ := List.getElem?_eq_some_iff.mp ha
      obtain ⟨l2, q2⟩ := List.getElem?_eq_some_iff.mp h1
      have hp := List.pairwise_iff_getElem.mp (show as.Pairwise (· ≠ ·) from B.nd)
      rcases Nat.lt_or_gt_of_ne e1 with h3 | h3
      · exact hp n k l1 l2 h3 (by rw [q1, q2])
      · exact hp k n l2 l1 h3 (by rw [q1, q2])
    exact (B.at_ k a2 b2 h1 h2).upd hne
end
section
variable {X : Cx} {xp : XP} {W : WX} {e : Ent} {σ : L2.St} {H F : Hp} {env : Cs} {i : Nat} {D : Addr} {as : List Addr} {bs : List (List Int)} {Q : VK}
end
def treeL (j : Nat) (cix : CE) : List Nat → List (List Int) → Cs → Option (List (List Int) × Cs)
  | [], bs, env => some (bs, env)
  | k :: ks, bs, env => match cix (env.set j (.frz (.int (k : Nat)))) with
    | .ok (.frz (.int n)) env1 => match env1.getD j .emp with
      | .frz (.int z) => if 0 ≤ n then match bs[n.toNat]? with
          | some b => treeL j cix ks (bs.set n.toNat (b ++ [z])) env1
          | none => none
        else none
      | _ => none
    | _ => none
def bkD (bs : List (List Int)) : PyData := .tuple (bs.map fun b => .tuple (b.map .int))
def cTree (iM iN j l : Nat) (c2 cix : CE) : CS := fun env => match env.getD iM .emp with
  | .frz (.int m) => match isLck (env.getD iN .emp) || isLck (env.getD j .emp) with
    | true => .no
    | false => if (0 ≤ m ∧ m ≤ 1000000) ∧ l < env.length ∧ iN < env.length then match c2 (env.set iN .emp) with
        | .ok (.frz (.int z)) env1 => if 0 ≤ z ∧ z ≤ 1000000 then match treeL j cix (List.range z.toNat) (List.replicate m.toNat []) env1 with
            | some (bs, env2) => .rt (.frz (bkD bs)) env2
            | none => .no
          else .no
        | _ => .no
      else .no
  | _ => .no
section
variable {K : PySem.W.Frag} {e : Ent} {σ : L2.St} {H F H' : Hp} {env : Cs}
open Classical in
end
section
variable {X : Cx} {xp : XP} {W : WX}
def PSx (X : Cx) (_ : XP) (_ : WX) (st : Stmt) (t : TS) : Prop := PS X st t
abbrev wiO (K : PySem.W.Frag) (i : Nat) : TI := fun σ H R => iList K (tVar i) σ H (fun J H1 => Fact K H1 → R J H1) ∨ iTup K (tVar i) σ H (fun J H1 => Fact K H1 → R J H1)
abbrev withNx (D : Ends) (f : L2.St → Hp → Prop) : Ends := { D with nx := f }
abbrev treeMid (K : PySem.W.Frag) (iN j l : Nat) (t2 tix : TE) (D : Ends) : L2.St → Hp → Prop := fun σ' H' => tFor (iRng1 (tCons t2 tNil)) (gName j) (tDrop (tBM K "list" rAppend (tOp (rIx K) (tVar iN) tix) (tCons (tVar j) tNil)))
      (withNx D fun σ2 H2 => tRet (tCB (rTupOf K) (tCons (tLc (wiO K iN) (gName l) tYes (tCB (rTupOf K) (tCons (tVar l) tNil)) [l]) tNil)) D σ2 H2) σ' H'
end
end DL

namespace DL
open PySem PySem.Spec PyProof.Rows L2
def oShl : Op2
  | .int i, .int j => if 0 ≤ j ∧ j ≤ 1000 ∧ i.natAbs < 2 ^ 64 then frzI (i * 2 ^ j.toNat) else .no
  | _, _ => .no
def cRepN (c c2 : CE) : CE := fun env => (c env).bind fun x env1 => match x with
  | .own false (.list ds) => (c2 env1).bind fun y env2 => match y with
    | .frz (.int k) => if 0 ≤ k ∧ k ≤ 1000 ∧ ds.length ≤ 1000 then .ok (.own false (.list (List.replicate k.toNat ds).flatten)) env2 else .no
    | _ => .no
  | _ => .no
def cRg2 (k : List PyData → OR) (o o2 : Opd) : CE := fun env => (evs [o, o2] env).bind fun ls env1 => match gets env1 ls with
  | some [.int a, .int b] => if (-1000000 ≤ a ∧ a ≤ 1000000) ∧ -1000000 ≤ b ∧ b ≤ 1000000 then (k (rgL a b)).fin env1 else .no
  | _ => .no
section
variable {X : Cx} {xp : XP} {W : WX}
end
end DL

namespace DL
open PySem PySem.Spec PyProof.Rows L2
def oInStr : Op2
  | .str i, .str j => frzB (!(Builtin.Str.occurrences j i 0 j.length 1).isEmpty)
  | _, _ => .no
theorem ok_inStr {K : PySem.W.Frag} : Op2Ok K (fun x y H Q => ∃ i j, x = .str i ∧ y = .str j ∧ Q (.bl (!(Builtin.Str.occurrences j i 0 j.length 1).isEmpty)) H) oInStr := by
  intro x y dx dy H F Q s rx ry h
  unfold oInStr at h
  split at h
  · exact ⟨_, _, rx.str, ry.str, h.bl s⟩
  · exact h.elim
def oIntS : OpN
  | [.str a] => if a.length ≤ 640 then match PySem.intText? a with
    | some n => frzI n
    | none => .no
    else .no
  | _ => .no
theorem ok_intS {K : PySem.W.Frag} : OpNOk K (fun xs H Q => ∃ a n, xs = [.str a] ∧ PySem.intText? a = some n ∧ a.length ≤ 640 ∧ Q (.int n) H) oIntS := by
  intro xs ds H F Q s r h
  unfold oIntS at h
  split at h
  · rename_i a
    by_cases z : a.length ≤ 640
    · rw [if_pos z] at h
      obtain ⟨v, rfl, rv⟩ := r.one
      cases g : PySem.intText? a with
      | none => rw [g] at h; exact h.elim
      | some n => rw [g] at h; exact ⟨a, n, by rw [rv.str], g, z, h.int s⟩
    · rw [if_neg z] at h; exact h.elim
  · exact h.elim
def oSplit (sep : Str) : PyData → OR
  | .str a => if a.length ≤ 1000000 ∧ (sep.length == 0) = false then .val (.own false (.list ((Txt.split a sep).map .str))) else .no
  | _ => .no
def cSplit (sep : Str) (o : Opd) : CE := fun env => (o.ev env).bind fun l env1 => match l.get env1 with
  | some d => (oSplit sep d).fin env1
  | none => .no
theorem rds_strs {K : PySem.W.Frag} {F : Hp} : ∀ ys : List Str, RDs K F (ys.map V.str) (ys.map PyData.str)
  | [] => .nil
  | y :: ys => .cons (.str y) (rds_strs ys)
section
variable {X : Cx} {xp : XP} {W : WX}
theorem de_split {sep : Str} {oe e : Expr} {o : Opd} {to : TE} {apos pos : Pos} (ho : DO X xp W oe o to) (he : PE X e (tC (.str sep))) (hs : starEach [e] X.env = [(false, eval e X.env)] := by rfl) (hbase : attributeBase oe "split" X.env (eval oe X.env) = eval oe X.env := by rfl) (hline : (apos.endLine == pos.line) = true := by rfl) :
    DE X xp W (.Call (.Attribute oe "split" apos) [e] [] pos) (cSplit sep o) (tM1 (fun x xs H Q => ∃ a b, x = .str a ∧ xs = [.str b] ∧ (b.length == 0) = false ∧ a.length + 2 ≤ sizeLine ∧ rNewStrs (Txt.split a b) H Q) to (tC (.str sep))) := by
  refine ⟨pe_split ho.pe he hs hbase hline, fun en σ H F env Q w q => ?_⟩
  unfold cSplit at q
  refine ho.run w (fun x env1 H' F' cls d g w' s y => ?_) (fun g => ?_) fun l env1 v H1 F1 g w1 s1 l1 => ?_
  · rw [g] at q; exact q H' F' cls d w' s y
  · rw [g] at q; exact q
  · rw [g] at q; simp only [Res.bind] at q
    cases g1 : l.get env1 with
    | none => rw [g1] at q; exact q.elim
    | some d =>
      rw [g1] at q
      have rb := RB.of w1 l1 g1
      cases d with
      | str a =>
        dsimp only at q
        unfold oSplit at q
        by_cases z : a.length ≤ 1000000 ∧ (sep.length == 0) = false
        · simp only [if_pos z] at q
          have hv : v = .str a := rb.str
          subst hv
          have hsz : (1000002 : Nat) ≤ sizeLine := by decide
          exact ⟨⟨a, rfl⟩, a, sep, rfl, rfl, z.2, by omega, fun p hp => OPost.newL (b := false) w1.sub (.of w1 s1 q) (rds_strs _) p hp⟩
        · simp only [if_neg z] at q; exact q.elim
      | _ => exact q.elim
end
section
variable {X : Cx} {xp : XP} {W : WX} {K : PySem.W.Frag} {o ex : Expr} {es : List Expr} {to : TE} {t : TA} {name : Str} {apos cpos : Pos} {T id : String} {k : OpV} {oo : Opd} {os : List Opd}
end
end DL

namespace DL
open PySem PySem.Spec PyProof.Rows L2
section
variable {K : PySem.W.Frag} {e : Ent} {σ : L2.St} {H F H' : Hp} {env : Cs}
open Classical in
theorem grow_any (s : Sub F H) (S : Addr → Prop) (hS : ∀ a, S a → H a = none ∧ ∃ u, H' a = some u ∧ NoLk u) (ex : ∀ a o, H a = some o → H' a = some o) : Grow H F H' (fun a => if S a then H' a else F a) where
  ex := ex
  fz := .of fun a o h => by
    have hn : ¬ S a := fun z => s.dom a (by rw [h]; exact fun z => nomatch z) (hS a z).1
    show (if S a then H' a else F a) = some o
    rw [if_neg hn]; exact h
  sub := by
    refine ⟨fun a u pl r => ?_, fun a n => ?_, fun a vs r => ?_⟩
    · by_cases z : S a
      · unfold Rd at r ⊢
        simp only [if_pos z] at r; exact r
      · have r' : Rd F a u := by
          unfold Rd at r ⊢
          simp only [if_neg z] at r; exact r
        exact (Sub.of ex).rd _ _ pl (s.rd _ _ pl r')
    · by_cases z : S a
      · obtain ⟨_, u, h, _⟩ := hS a z
        rw [h]; exact fun y => nomatch y
      · simp only [if_neg z] at n; exact (Sub.of ex).dom _ (s.dom _ n)
    · by_cases z : S a
      · simp only [if_pos z] at r; exact r
      · simp only [if_neg z] at r; exact ex _ _ (s.tp _ _ r)
  new := fun a q => by
    by_cases z : S a
    · exact .inr (.inl (hS a z).1)
    · simp only [if_neg z] at q; exact .inl q
  pl := fun a q n => by
    by_cases z : S a
    · obtain ⟨_, u, h, p⟩ := hS a z
      exact ⟨u, h, p⟩
    · simp only [if_neg z] at q; exact absurd n q
end
theorem rds_ints0 {K : PySem.W.Frag} {G : Hp} : ∀ {L : List PyData} {n : List Int}, intsOf L = some n → RDs K G (n.map V.int) L
  | [], _, h => by cases h; exact .nil
  | d :: L, n, h => by
    cases d with
    | int i =>
      unfold intsOf at h
      cases g : intsOf L with
      | none => rw [g] at h; cases h
      | some m => rw [g] at h; cases h; exact .cons (.int i) (rds_ints0 g)
    | _ => unfold intsOf at h; cases h
def argN : PyData → Option (Option (List Int))
  | .int _ => some none
  | .list L => (intsOf L).map some
  | _ => none
def argsN : List PyData → Option (List (Option (List Int)))
  | [] => some []
  | d :: ds => match argN d, argsN ds with
    | some a, some as => some (a :: as)
    | _, _ => none
def listsN : List PyData → Option (List (List Int))
  | [] => some []
  | .list L :: ds => match intsOf L, listsN ds with
    | some n, some ns => some (n :: ns)
    | _, _ => none
  | _ :: _ => none
structure Fresh (H H' : Hp) (p : Addr) (as : List Addr) (nss : List (List Int)) : Prop where
  len : as.length = nss.length
  p0 : H p = none
  p1 : H' p = some (.lst (as.map V.ref))
  at_ : ∀ (k : Nat) (a : Addr) (n : List Int), as[k]? = some a → nss[k]? = some n → H a = none ∧ H' a = some (.lst (n.map V.int)) ∧ a ≠ p
  ex : ∀ a o, H a = some o → H' a = some o
def freshR (m : Fn) (ds : List PyData) : Option (List PyData × List (List Int)) := match argsN ds with
  | some as => match m ds with
    | .ok (.own _ (.list es)) => match listsN es with
      | some nss => if nss.all (fun n => !as.contains (some n)) && nss.all (fun n => decide (n.length ≤ 1000)) && decide (nss.length ≤ 1000) then some (es, nss) else none
      | none => none
    | _ => none
  | none => none
section
variable {X : Cx} {xp : XP} {W : WX}
end
theorem rds_listsN {K : PySem.W.Frag} {G : Hp} : ∀ {es : List PyData} {nss : List (List Int)} {as : List Addr}, listsN es = some nss → as.length = nss.length → (∀ (k : Nat) (a : Addr) (n : List Int), as[k]? = some a → nss[k]? = some n → Rd G a (.lst (n.map V.int))) → RDs K G (as.map V.ref) es
  | [], _, as, h, hl, _ => by
    cases h
    have : as = [] := List.length_eq_zero_iff.mp hl
    subst this; exact .nil
  | d :: es, nss, as, h, hl, ha => by
    cases d with
    | list L =>
      unfold listsN at h
      cases g1 : intsOf L with
      | none => rw [g1] at h; cases h
      | some n =>
        cases g2 : listsN es with
        | none => rw [g1, g2] at h; cases h
        | some ns =>
          rw [g1, g2] at h; cases h
          cases as with
          | nil => cases hl
          | cons a as => exact .cons (.lst (ha 0 a n rfl rfl) (rds_ints0 g1)) (rds_listsN g2 (Nat.succ.inj hl) fun k b m hb hm => ha (k + 1) b m (by simpa using hb) (by simpa using hm))
    | _ => cases h
theorem Fresh.mem {H H' : Hp} {p : Addr} {as : List Addr} {nss : List (List Int)} (f : Fresh H H' p as nss) {a : Addr} (ha : a ∈ as) : ∃ n ∈ nss, H a = none ∧ H' a = some (.lst (n.map V.int)) ∧ a ≠ p := by
  obtain ⟨k, hk, e⟩ := List.getElem_of_mem ha
  have hk2 : k < nss.length := by rw [← f.len]; exact hk
  exact ⟨nss[k], List.getElem_mem hk2, f.at_ k a _ (by rw [List.getElem?_eq_getElem hk, e]) (List.getElem?_eq_getElem hk2)⟩
theorem Fresh.grow {H H' F : Hp} {p : Addr} {as : List Addr} {nss : List (List Int)} (s : Sub F H) (f : Fresh H H' p as nss) : ∃ G, Grow H F H' G ∧ G p = none ∧ ∀ a ∈ as, G a = H' a := by
  classical
  refine ⟨_, grow_any s (fun a => a ∈ as) (fun a ha => ?_) f.ex, ?_, fun a ha => if_pos ha⟩
  · obtain ⟨n, _, h0, h1, _⟩ := f.mem ha
    exact ⟨h0, _, h1, trivial⟩
  · have hp : p ∉ as := fun h => by obtain ⟨n, _, _, _, h2⟩ := f.mem h; exact h2 rfl
    exact (if_neg hp).trans (s.none f.p0)
theorem Fresh.cont {K : PySem.W.Frag} {H H' G : Hp} {p : Addr} {as : List Addr} {nss : List (List Int)} {es : List PyData} (f : Fresh H H' p as nss) (hG : ∀ a ∈ as, G a = H' a) (he : listsN es = some nss) : Cont K G (.lst (as.map V.ref)) (.list es) :=
  .lst (rds_listsN he f.len fun k a n ha hn => .inl (by rw [hG a (List.mem_of_getElem? ha)]; exact (f.at_ k a n ha hn).2.1))
def cFresh (m : Fn) (os : List Opd) : CE := fun env => (evs os env).bind fun ls env1 => match gets env1 ls with
  | some ds => match freshR m ds with
    | some (es, _) => .ok (.own false (.list es)) env1
    | none => .no
  | none => .no
section
variable {X : Cx} {xp : XP} {W : WX}
end
def okC : Cell → Bool
  | .emp => true
  | .frz d => noList d
  | .own _ (.list ds) => (intsOf ds).isSome
  | _ => false
mutual
theorem RD.cutL {K : PySem.W.Frag} {F H : Hp} {S : Addr → Prop} (s : Sub F H) (hS : ∀ a, S a → ∃ n : List Int, H a = some (.lst (n.map V.int))) : ∀ {d : PyData} {v : V}, noList d = true → RD K F v d → RD K (cut F S) v d
  | .none, _, _, .non => .non
  | .bool _, _, _, .bl b => .bl b
  | .int _, _, _, .int i => .int i
  | .str _, _, _, .str x => .str x
  | .tuple ds, _, h, .tup (a := a) (vs := vs) q r => by
    refine .tup ?_ (RDs.cutL s hS (by unfold noList at h; exact h) r)
    rw [cut_out fun z => ?_]
    · exact q
    · obtain ⟨n, e⟩ := hS a z
      rw [s.tp _ _ q] at e; cases e
  | .list _, _, h, _ => by unfold noList at h; cases h
  | .dict _, _, h, _ => by unfold noList at h; cases h
theorem RDs.cutL {K : PySem.W.Frag} {F H : Hp} {S : Addr → Prop} (s : Sub F H) (hS : ∀ a, S a → ∃ n : List Int, H a = some (.lst (n.map V.int))) : ∀ {ds : List PyData} {vs : List V}, noLists ds = true → RDs K F vs ds → RDs K (cut F S) vs ds
  | [], _, _, .nil => .nil
  | d :: ds, _, h, .cons a b => by
    unfold noLists at h
    rw [Bool.and_eq_true] at h
    exact .cons (RD.cutL s hS h.1 a) (RDs.cutL s hS h.2 b)
end
section
variable {K : PySem.W.Frag} {e : Ent} {σ : L2.St} {H F : Hp} {env env' : Cs}
end
def mixC (c1 c3 : Cell) : Cell := match okC c3 with
  | true => c3
  | false => match c1 with
    | .frz d => .frz d
    | _ => .emp
def mixE (x side : Nat) (env1 env3 : Cs) : Cs := ((List.zipWith mixC env1 env3).set x .emp).set side .emp
def cBlk (x side : Nat) (m : Fn) (os : List Opd) (cB cC : CT) : CS := fun env => match evs os env with
  | .ok ls env1 => match gets env1 ls with
    | some ds => match freshR m ds with
      | some (es, _) => match env1.any isLck || x == side || decide (env1.length ≤ x) || decide (env1.length ≤ side) with
        | true => .no
        | false => match cB (env1.set x (.lck (.list es))) with
          | .ok false env2 => match cC env2 with
            | .ok false env3 => if env3.length = env1.length then .nx (mixE x side env1 env3) else .no
            | _ => .no
          | _ => .no
      | none => .no
    | none => .no
  | _ => .no
section
variable {K : PySem.W.Frag} {e : Ent} {σ : L2.St} {H F : Hp} {env : Cs}
end
section
variable {X : Cx} {xp : XP} {W : WX}
end
end DL

namespace DL
open PySem PySem.Spec PyProof.Rows L2
def fnD (x : Str) : PyData := .dict [(.none, .str x)]
section
variable {X : Cx} {xp : XP} {W : WX}
def HeldX (P : Program) (w : World) (K : PySem.W.Frag) (mg : Str → Option Value) (base : Heap) (k : Nat) (f : Addr) (sp : Sp) : Prop :=
  ∃ (j : Nat) (fd : FuncData) (ps : List Str), j ≤ k ∧ FnOk P w K mg base (L2N.CX P w) j f fd ps sp ∧ PySem.W.keepIn K (.ref f) = true ∧ Binds K fd ps []
def tCallF (X : Cx) (k i : Nat) (E : L2.St → XK) (t : TA) : TE := fun σ H Q => ∃ f sp, σ[i]? = some (some (.ref f)) ∧ HeldX X.prog X.w X.K X.mg X.base k f sp ∧ t σ H fun vs H1 => sp vs H1 Q (E σ)
def cCallF (ms : List (Str × Fn)) (i : Nat) (os : List Opd) : CE := fun env => match env.getD i .emp with
  | .frz (.dict [(.none, .str x)]) => match ms.lookup x with
    | some m => cCall m os env
    | none => .no
  | _ => .no
def HeldAll (P : Program) (w : World) (K : PySem.W.Frag) (mg : Str → Option Value) (base : Heap) (xp : XP) (k n : Nat) (ms : List (Str × Fn)) : Prop :=
  ∀ x m a, ms.lookup x = some m → PySem.W.nsIn K mainGlobals x = some (some (.ref a)) → HeldX P w K mg base k a (spB K xp n m)
def cBits (o : Opd) : CE := fun env => (o.ev env).bind fun l env1 => match l.get env1 with
  | some (.int i) => .ok (.frz (.int (Builtin.Int.intBits i : Nat))) env1
  | _ => .no
end
end DL

namespace DL
open PySem PySem.Spec PyProof.Rows L2
def kV : Key → V
  | .inl i => .int i
  | .inr x => .str x
def dispA (l : List (Key × Key)) : PyData := .dict (l.map fun p => (keyD p.1, keyD p.2))
def cDispA (l : List (Key × Key)) : CE := fun env => .ok (.own false (dispA l)) env
def tDispA (l : List (Key × Key)) : TE := tDisp (l.map fun p => (tC (kV p.1), tC (kV p.2)))
def kvA (l : List (Key × Key)) : List (Key × V) := l.map fun p => (p.1, kV p.2)
inductive PairsA (X : Cx) (pos : Pos) : List (Option Expr) → List Expr → List (Key × Key) → Prop
  | nil : PairsA X pos [] [] []
  | ss {x y : Str} {j j2 : Nat} {p p2 : Pos} {ks : List (Option Expr)} {vs : List Expr} {l : List (Key × Key)} : PairsA X pos ks vs l → PairsA X pos (some (.Constant (.str x) j p) :: ks) (.Constant (.str y) j2 p2 :: vs) ((.inr x, .inr y) :: l)
  | si {x : Str} {y : Int} {j j2 : Nat} {p p2 : Pos} {ks : List (Option Expr)} {vs : List Expr} {l : List (Key × Key)} : PairsA X pos ks vs l → PairsA X pos (some (.Constant (.str x) j p) :: ks) (.Constant (.int y) j2 p2 :: vs) ((.inr x, .inl y) :: l)
  | ii {x y : Int} {j j2 : Nat} {p p2 : Pos} {ks : List (Option Expr)} {vs : List Expr} {l : List (Key × Key)} : PairsA X pos ks vs l → PairsA X pos (some (.Constant (.int x) j p) :: ks) (.Constant (.int y) j2 p2 :: vs) ((.inl x, .inl y) :: l)
  | is {x : Int} {y : Str} {j j2 : Nat} {p p2 : Pos} {ks : List (Option Expr)} {vs : List Expr} {l : List (Key × Key)} : PairsA X pos ks vs l → PairsA X pos (some (.Constant (.int x) j p) :: ks) (.Constant (.str y) j2 p2 :: vs) ((.inl x, .inr y) :: l)
section
variable {X : Cx} {xp : XP} {W : WX}
theorem PairsA.pps {pos : Pos} {ks : List (Option Expr)} {vs : List Expr} {l : List (Key × Key)} (h : PairsA X pos ks vs l) : PPs X pos ks vs (l.map fun p => (tC (kV p.1), tC (kV p.2))) ∧ ks.all (·.isSome) = true ∧ ks.length = vs.length ∧ ks.length = l.length := by
  induction h with
  | nil => exact ⟨pps_nil, rfl, rfl, rfl⟩
  | ss h ih => obtain ⟨a, b, c, d⟩ := ih; exact ⟨pps_cons pe_str pe_str a, by simp [b], by simp [c], by simp [d]⟩
  | si h ih => obtain ⟨a, b, c, d⟩ := ih; exact ⟨pps_cons pe_str pe_int a, by simp [b], by simp [c], by simp [d]⟩
  | ii h ih => obtain ⟨a, b, c, d⟩ := ih; exact ⟨pps_cons pe_int pe_int a, by simp [b], by simp [c], by simp [d]⟩
  | is h ih => obtain ⟨a, b, c, d⟩ := ih; exact ⟨pps_cons pe_int pe_str a, by simp [b], by simp [c], by simp [d]⟩
end
def mPopIx : OpM
  | .list ds, [.int i] => match ds[i.toNat]? with
    | some d => if 0 ≤ i ∧ ds.length ≤ lim then .ok (.frz d) (.list (ds.eraseIdx i.toNat)) else .no
    | none => .no
  | _, _ => .no
end DL

namespace DL
open PySem PySem.Spec PyProof.Rows L2
def tAfter (t : TE) : TE := fun σ H Q => t σ H fun x H1 => ∃ d u, x = .ref d ∧ H1 d = some u ∧ Mut (some u) ∧ ∀ od, Q x (upd H1 d (.frz od u))
def iKeyC (c : CE) : CI := fun env => match c env with
  | .ok (.own false (.dict kvd)) env1 => match dwalk kvd with
    | some ds => .ok ds env1
    | none => .no
  | .ex x env1 => .ex x env1
  | _ => .no
section
variable {K : PySem.W.Frag} {e : Ent} {σ : L2.St} {H F : Hp} {env : Cs} {a : Addr} {u : HO} {od : Obj}
theorem Wl.lockE (w : Wl K e σ H F env) (hF : F a ≠ none) (hu : H a = some u) (hm : Mut (some u)) (m : e.H₀ a = none ∨ e.P a) (nl : NoLk (.frz od u)) : Wl K e σ (upd H a (.frz od u)) F env := by
  have w2 := w.lockD (od := od) hF hu hm
  refine ⟨w.len, w2.sub, w2.cell, w.apart, fun b o h1 h2 => ?_, w.new, w.mine, w.pin, w.lk, w.lk2, fun b h n => ?_⟩
  rotate_left
  · by_cases z : b = a
    · subst z; exact ⟨_, upd_same, nl⟩
    · rw [upd_ne z]; exact w.pl b h n
  by_cases z : b = a
  · subst z
    rcases m with m | m
    · rw [m] at h1; cases h1
    · exact (h2 m).elim
  · rw [upd_ne z]; exact w.keep b o h1 h2
end
section
variable {X : Cx} {xp : XP} {W : WX}
end
end DL

namespace DL
open PySem PySem.Spec PyProof.Rows L2

inductive FJ where
  | ok (c : Cell) (d : PyData)
  | ex (x : Exc) (d : PyData)
  | no
abbrev Fj := PyData → List PyData → FJ
def JPost (K : PySem.W.Frag) (xp : XP) (a : Addr) (H F : Hp) (Q : VK) (E : XK) : FJ → Prop
  | .ok c d => ∀ v H' F' u, Step a H F H' F' → H' a = some u → Cont K F' u d → RN K H H' F' v c → Q v H'
  | .ex x d => ∀ H' F' u cls dd, Step a H F H' F' → H' a = some u → Cont K F' u d → xp x cls dd H' → E cls dd H'
  | .no => False
def spJ (K : PySem.W.Frag) (xp : XP) (n : Nat) (m : Fj) : Sp := fun vs H Q E => vs.length = n ∧ ∃ F a u d vr ds, vs = .ref a :: vr ∧ H a = some u ∧ F a = none ∧ Cont K F u d ∧ Sub F H ∧ RDs K F vr ds ∧ JPost K xp a H F Q E (m d ds)
def runDefJ (n : Nat) (c : CS) : Fj := fun d ds => match c (.own true d :: ds.map .frz ++ emps (n - (ds.length + 1))) with
  | .rt r env => match env.getD 0 .emp with
    | .own true d' => .ok r.out d'
    | _ => .no
  | .nx env => match env.getD 0 .emp with
    | .own true d' => .ok (.frz .none) d'
    | _ => .no
  | .ex x env => match env.getD 0 .emp with
    | .own true d' => .ex x d'
    | _ => .no
  | _ => .no
section
variable {P : Program} {w : World} {K : PySem.W.Frag} {mg : Str → Option Value} {base : Heap} {xp : XP}
end

def cCallJ (m : Fj) (i : Nat) (os : List Opd) : CE := fun env => match (env.getD i .emp).read with
  | none => .no
  | some _ => (evs os env).bind fun ls env1 => match nows ls with
    | none => .no
    | some ds => match env1.getD i .emp with
      | .own b d => match m d ds with
        | .ok c d' => .ok c (env1.set i (.own b d'))
        | .ex x d' => .ex x (env1.set i (.own b d'))
        | .no => .no
      | _ => .no
section
variable {X : Cx} {xp : XP} {W : WX}
end

structure ClsD (K : PySem.W.Frag) (C : Addr) : Prop where
  n : IsCls K C
  c : Cls K C
def aName (k : Nat) : Str := (["net", "rules", "steps"] : List Str).getD k "steps"
theorem RDs.put {K : PySem.W.Frag} {F : Hp} {vs : List V} {ds : List PyData} {k : Nat} {y : V} {d : PyData} (r : RDs K F vs ds) (ry : RD K F y d) : RDs K F (if k < vs.length then vs.set k y else vs ++ [y]) (if k < ds.length then ds.set k d else ds ++ [d]) := by
  rw [r.length]
  split
  · exact RDs.set ry k r
  · exact r.append (.one ry)

def insD (ds : List PyData) : PyData := .dict [(.none, .tuple ds)]
def cFld (i k : Nat) : CE := fun env => match env.getD i .emp with
  | .own _ (.dict [(.none, .tuple ds)]) => match ds[k]? with
    | some d => .ok (.frz d) env
    | none => .no
  | _ => .no
def cSetF (i k : Nat) (c : CE) : CS := fun env => match c env with
  | .ok c1 env1 => match c1.val, env1.getD i .emp with
    | some dv, .own b (.dict [(.none, .tuple ds)]) => match decide (k < 3) && decide (k ≤ ds.length) with
      | true => .nx (env1.set i (.own b (.dict [(.none, .tuple (if k < ds.length then ds.set k dv else ds ++ [dv]))])))
      | false => .no
    | _, _ => .no
  | .ex x env1 => .ex x env1
  | .no => .no
structure FldC (K : PySem.W.Frag) (f : Str) : Prop where
  at_ : ∀ C, IsCls K C → Cls K C ∧ NoAttr K C f
section
variable {X : Cx} {xp : XP} {W : WX}
structure MetJ (P : Program) (w : World) (K : PySem.W.Frag) (mg : Str → Option Value) (base : Heap) (k : Nat) (m : Str) (f : Addr) (fd : FuncData) (ps : List Str) : Prop where
  at_ : ∀ C, IsCls K C → Cls K C ∧ Meth K C m f
def tMethS (K : PySem.W.Frag) (m : Str) (f : Addr) (sp : Sp) (E : L2.St → XK) (ta : TE) (t : TA) : TE := fun σ H Q => ta σ H fun x H1 => (∃ a C dx fs, x = .ref a ∧ H1 a = some (.ins C dx fs) ∧ Cls K C ∧ Meth K C m f ∧ fs.lookup m = none) ∧
  t σ H1 fun vs H2 => sp (x :: vs) H2 Q (E σ)
def isIns : Cell → Bool
  | .own _ (.dict [(.none, .tuple _)]) => true
  | _ => false
def cMethJ (m : Fj) (i : Nat) (os : List Opd) : CE := fun env => match isIns (env.getD i .emp) with
  | true => cCallJ m i os env
  | false => .no
structure MetC (K : PySem.W.Frag) (m : Str) (f : Addr) : Prop where
  at_ : ∀ C, IsCls K C → Cls K C ∧ Meth K C m f
def cMake (m : Fj) : CE := fun env => match m (.dict [(.none, .tuple [])]) [] with
  | .ok (.frz .none) d => .ok (.own false d) env
  | _ => .no
end
end DL

namespace DL
open PySem PySem.Spec PyProof.Rows L2
def oStrA : OpN
  | [.str a] => .val (.frz (.str a))
  | ds => oStr ds
def rStrA : List V → Hp → VK → Prop := fun xs H Q => (∃ i, xs = [.int i] ∧ i.natAbs.log2 < 1920 ∧ Q (.str (toString i)) H) ∨ ∃ a, xs = [.str a] ∧ Q (.str a) H
def oNotInStr : Op2
  | .str i, .str j => frzB (!(!(Builtin.Str.occurrences j i 0 j.length 1).isEmpty))
  | _, _ => .no
def signsD (x : Str) : List PyData := x.cps.toList.map fun c => .str ⟨#[c]⟩
def iStrC (c : CE) : CI := fun env => (c env).bind fun c env1 => match c with
  | .frz (.str x) => match decide (x.cps.size ≤ 1000000) with
    | true => .ok (signsD x) env1
    | false => .no
  | _ => .no
section
variable {X : Cx} {xp : XP} {W : WX}
end
def KTup (K : PySem.W.Frag) (a : Addr) (xs : List Str) : Prop := ∃ (o : Obj) (its : Array Value) (n : Nat), K.lookup a = some o ∧ o.cls = .type "tuple" ∧ o.data = .seq its n ∧ its.size ≤ sizeLine ∧ Vals (xs.map V.str) its.toList
def cInG (xs : List Str) (o : Opd) : CE := fun env => (o.ev env).bind fun l env1 => match l.get env1 with
  | some (.str x) => .ok (.frz (.bool (xs.contains x))) env1
  | _ => .no
section
variable {X : Cx} {xp : XP} {W : WX}
end
def cFz (c : CE) : CE := fun env => (c env).bind fun c env1 => match c.val with
  | some d => .ok (.frz d) env1
  | none => .no
end DL

namespace DL
open PySem PySem.Spec PyProof.Rows L2
def cDispE (xs : List Str) (os : List Opd) : CE := fun env => (evs os env).bind fun ls env1 => match nows ls with
  | some ds => .ok (.own false (.dict ((xs.map PyData.str).zip ds))) env1
  | none => .no
inductive PairsE (X : Cx) (xp : XP) (W : WX) : List (Option Expr) → List Expr → List Str → List Opd → List (TE × TE) → Prop
  | nil : PairsE X xp W [] [] [] [] []
  | cons {x : Str} {j : Nat} {p : Pos} {v : Expr} {o : Opd} {tv : TE} {ks : List (Option Expr)} {vs : List Expr} {xs : List Str} {os : List Opd} {trs : List (TE × TE)} : DO X xp W v o tv → PairsE X xp W ks vs xs os trs → PairsE X xp W (some (.Constant (.str x) j p) :: ks) (v :: vs) (x :: xs) (o :: os) ((tC (.str x), tv) :: trs)
section
variable {X : Cx} {xp : XP} {W : WX}
theorem PairsE.pps {pos : Pos} {ks : List (Option Expr)} {vs : List Expr} {xs : List Str} {os : List Opd} {trs : List (TE × TE)} (h : PairsE X xp W ks vs xs os trs) : PPs X pos ks vs trs ∧ ks.all (·.isSome) = true ∧ ks.length = vs.length ∧ ks.length = xs.length ∧ os.length = xs.length := by
  induction h with
  | nil => exact ⟨pps_nil, rfl, rfl, rfl, rfl⟩
  | cons hv h ih => obtain ⟨a, b, c, d, f⟩ := ih; exact ⟨pps_cons pe_str hv.pe a, by simp [b], by simp [c], by simp [d], by simp [f]⟩
theorem PairsE.run {ks : List (Option Expr)} {vs : List Expr} {xs : List Str} {os : List Opd} {trs : List (TE × TE)} (h : PairsE X xp W ks vs xs os trs) : ∀ (e : Ent) (σ : L2.St) (H F : Hp) (env : Cs) (Q : List (V × V) → Hp → Prop), Wl X.K e σ H F env →
    PostA X.K xp W e σ F (fun us H' => Q ((xs.map V.str).zip us) H') (evs os env) → tPairs trs σ H Q := by
  induction h with
  | nil => intro e σ H F env Q w h; exact h [] H F w (.refl _) .nil
  | @cons x j p v o tv ks vs xs os trs hv hr ih =>
    intro e σ H F env Q w p
    show tv σ H fun y H2 => tPairs trs σ H2 fun ps H3 => Q ((V.str x, y) :: ps) H3
    refine hv.run w (fun x env1 H' F' cls d q w' s y => ?_) (fun q => ?_) fun l env1 v H1 F1 q w1 s1 l1 => ih e σ H1 F1 env1 _ w1 ?_
    · unfold evs at p; rw [q] at p; exact p H' F' cls d w' s y
    · unfold evs at p; rw [q] at p; exact p
    · unfold evs at p; rw [q] at p; simp only [Res.bind] at p
      cases g : evs os env1 with
      | no => rw [g] at p; exact p
      | ex x env2 => rw [g] at p; exact fun H' F' cls d w' s => p H' F' cls d w' (s1.trans s)
      | ok ls env2 => rw [g] at p; exact fun vs H' F' w' s r => p (v :: vs) H' F' w' (s1.trans s) (.cons (l1.mono s) r)
end
end DL

namespace DL
open PySem PySem.Spec PyProof.Rows L2
def oUpper : PyData → OR
  | .str a => if a.length ≤ 1000000 then .val (.frz (.str (Txt.upper a))) else .no
  | _ => .no
def cUpper (o : Opd) : CE := fun env => (o.ev env).bind fun l env1 => match l.get env1 with
  | some d => (oUpper d).fin env1
  | none => .no
section
variable {X : Cx} {xp : XP} {W : WX}
end
end DL

namespace DL
open PySem PySem.Spec PyProof.Rows L2
def isKS (kvd : List (PyData × PyData)) : Bool := kvd.all (fun p => (keyOf p.1).isSome) && !kvd.isEmpty
section
variable {K : PySem.W.Frag} {H F : Hp}
end
def oInK (neg : Bool) : Op2
  | .str z, .dict kvd => if isKS kvd then frzB (if neg then !(lookK kvd z).isSome else (lookK kvd z).isSome) else .no
  | _, _ => .no
def sDictK : OpS := fun d dx dv => match d, dx with
  | .dict kvd, .str z => if isKS kvd && (lookK kvd z).isNone && decide (kvd.length < lim) then some (.dict (kvd ++ [(.str z, dv)])) else none
  | _, _ => none
end DL

namespace DL
open PySem PySem.Spec PyProof.Rows L2
open PySem.SeqAt (EqP)
section
variable {prog : Program} {w : World} {K : Type} [DecidableEq K] {knd : HeapKind prog w K} {A : Around} {E : Value → Shared → Prop} {s : Shared}
inductive HitsH {K : Type} [DecidableEq K] (prog : Program) (w : World) (A : Around) (s : Shared) (kb : List (K × Addr × Value)) : List (K × Addr × Value) → Bool → Prop
  | nil : HitsH prog w A s kb [] true
  | miss {k : K} {a : Addr} {v : Value} {r : List (K × Addr × Value)} : atKey kb k = none → HitsH prog w A s kb ((k, a, v) :: r) false
  | hit {k : K} {a b : Addr} {v y : Value} {r : List (K × Addr × Value)} {e c : Bool} : atKey kb k = some (b, y) → EqP prog w A s v y e → HitsH prog w A s kb r c → HitsH prog w A s kb ((k, a, v) :: r) (e && c)
end
inductive HitsV (kb : List (List Key × V)) : List (List Key × V) → Bool → Prop
  | nil : HitsV kb [] true
  | miss {k : List Key} {v : V} {r : List (List Key × V)} : valV kb k = none → HitsV kb ((k, v) :: r) false
  | hit {k : List Key} {i j : Int} {r : List (List Key × V)} {c : Bool} : valV kb k = some (.int j) → HitsV kb r c → HitsV kb ((k, .int i) :: r) (decide (i = j) && c)
def rNeT : R2 := fun x y H Q => ∃ a b ka kb c, x = .ref a ∧ y = .ref b ∧ Rd H a (.dT ka) ∧ Rd H b (.dT kb) ∧ HitsV kb ka c ∧ Q (.bl (!(ka.length == kb.length && c))) H
def hitsD (kb : List (PyData × PyData)) : List (PyData × PyData) → Option Bool
  | [] => some true
  | (dk, dv) :: r => match tkOf dk with
    | none => none
    | some k => match dget kb k with
      | none => some false
      | some du => match dv, du with
        | .int i, .int j => (hitsD kb r).map (decide (i = j) && ·)
        | _, _ => none
def oNeT : Op2 := fun x y => match dictOf x, dictOf y with
  | some ka, some kb => match hitsD kb ka with
    | some c => frzB (!(ka.length == kb.length && c))
    | none => .no
  | _, _ => .no
end DL

namespace DL
open PySem PySem.Spec PyProof.Rows L2
section
variable {prog : Program} {w : World} {K : Type} [DecidableEq K] {knd : HeapKind prog w K} {A : Around} {E : Value → Shared → Prop} {s : Shared}
end
def intK (k : List Key) : Bool := k.all fun x => match x with
  | .inl _ => true
  | .inr _ => false
def hashK (k : List Key) : Int := reduceHash (Builtin.Tuple.tupleHashOf (k.map fun x => match x with
  | .inl i => hashInt i
  | .inr _ => 0))
def apartK (ks : List (List Key)) : Bool := ks.all intK && decide ((ks.map hashK).Nodup)
def rCopyT : List V → Hp → VK → Prop := fun xs H Q => ∃ (a : Addr) (kvs : List (List Key × V)), xs = [.ref a] ∧ Rd H a (.dT kvs) ∧ apartK (kvs.map (·.1)) = true ∧ ∀ p, H p = none → Q (.ref p) (upd H p (.dT kvs))
def rClearT : V → List V → Hp → VK → Prop := fun x vs H Q => ∃ (a : Addr) (kvs : List (List Key × V)), x = .ref a ∧ vs = [] ∧ H a = some (.dT kvs) ∧ Q .non (upd H a (.dT []))
def hashD (d : PyData) : Int := match tkOf d with
  | some k => hashK k
  | none => 0
def apartD (kvd : List (PyData × PyData)) : Bool := kvd.all (fun p => match tkOf p.1 with
  | some k => intK k
  | none => false) && decide ((kvd.map fun p => hashD p.1).Nodup)
def oDictC : OpN
  | [.dict kvd] => if isTD kvd && apartD kvd then .val (.own false (.dict kvd)) else .no
  | _ => .no
def mClearT : OpM
  | .dict kvd, [] => if isTD kvd then .ok (.frz .none) (.dict []) else .no
  | _, _ => .no
end DL

namespace DL
open PySem PySem.Spec PyProof.Rows L2
section
variable {X : Cx} {e : Expr} {es : List Expr} {ta : TA} {p1 p2 pos : Pos}
theorem pe_seinit {pl : Sem Bool} {n : Str} {CS : Addr} {mc : Value} (hg : Gl X n) (hm : X.mg n = some (.ref CS)) (rd : ClX.CRead X.K CS mc) (vV : PySem.W.findCls X.K (.ref CS) mc "__init__" = some (.val (.builtin "ValueError.__init__"))) (ha : PA X (e :: es) ta)
    (hdb : (n == ("__debug__" : Str)) = false := by decide)
    (hc : eval (.Call (.Attribute (.Name n p1) "__init__" p2) (e :: es) [] pos) X.env = (do
      let ov ← eval (.Name n p1) X.env
      standAt p2.atName
      let (f, first) ← holding [ov] (getMethod ov "__init__" pl)
      callWith pos f first (backTo pos (starEach (e :: es) X.env)) (backToKw pos (keywordEach [] X.env))) := by rfl)
    (he : starEach (e :: es) X.env = (false, eval e X.env) :: starEach es X.env := by rfl) (hpl : (backTo pos (starEach es X.env)).any (·.1) = false := by rfl) :
    PE X (.Call (.Attribute (.Name n p1) "__init__" p2) (e :: es) [] pos) (tVeI X.K ta) := by
  refine ⟨fun pins s σ H Q I h => ?_⟩
  refine PySem.W.methodCall_KW (ld_glob I hg hm ?_ hdb) hc
  refine PySem.W.method_cls I.kIn rd.ga (PySem.W.cls_value I.kIn rd.rd vV (by decide +kernel) ?_)
  show wpAny _ _ (callWith pos (Value.builtin "ValueError.__init__") [] (backTo pos (starEach (e :: es) X.env)) []) _ _ _
  refine PyProof.Rows.callWith_method1 (thn (ha.run pos pins _ σ H _ (I.tok _) h) fun us s1 ⟨vs, H1, I1, r1, a, C, ws, ev, hl, T, ea, q⟩ => ?_) he hpl
  subst ev
  cases r1 with
  | @cons _ u0 _ ur ra rw' =>
    obtain rfl : u0 = Value.ref a := ra
    have hlen : ur.length ≤ sizeLine := by
      rw [← Paired.length rw', sizeLine_eq]
      omega
    exact oinit_ok T I1 ea hlen fun s' J => ⟨.non, H1, J, rfl, q⟩
end
def spNT (K : PySem.W.Frag) : Sp := fun vs H Q _ => ∃ (a C : Addr) (y : V), vs = [.ref a, y] ∧ OexC K C ∧ PySem.W.findIn K (.ref C) "at" = some none ∧ H a = some (exo a C none) ∧
  ∀ dx, H dx = none → dx ≠ a → Q .non (upd (upd H dx (exd dx [("at", y)])) a (exo a C (some dx)))
theorem nt_run {X : Cx} {H : Hp} {vs : List V} {Q : VK} {E : XK} {m : Str} (h : spNT X.K vs H Q E) :
    tSeq (tDrop (tVeI X.K (tCons (tVar 0) (tCons (tC (.str m)) tNil)))) (tOst X.K "at" (tVar 0) (tVar 1)) { nx := fun _ H' => Q .non H', rt := Q } (L2.start ["self", "at"] vs) H := by
  obtain ⟨a, C, y, rfl, T, hno, ha, q⟩ := h
  refine ⟨.ref a, rfl, ?_⟩
  show ∃ a' C' ws, [V.ref a, .str m] = .ref a' :: ws ∧ _
  refine ⟨a, C, [.str m], rfl, by simp, T, ha, ?_⟩
  refine ⟨y, rfl, .ref a, rfl, a, C, rfl, T, hno, .inl ⟨ha, fun dx h1 h2 => q dx h1 h2⟩⟩
theorem fn_NT {P : Program} {w : World} {K : PySem.W.Frag} {mg : Str → Option Value} {base : Heap} {x qual m : Str} {st : Stmt} {f : Addr} {fd : FuncData} (F : Fun K x qual st f fd) (S : FnScope ["self", "at"] ["self", "at"] (defScope st))
    (hb : ∀ (cdv : Value) (A : Around) (outer : List Env) (s : Shared) (H : Hp) (E : XK), PSs (bodyX P w K mg base ["self", "at"] qual st f cdv A outer s H E) (defBody st) (tSeq (tDrop (tVeI K (tCons (tVar 0) (tCons (tC (.str m)) tNil)))) (tOst K "at" (tVar 0) (tVar 1)))) :
    FnOk P w K mg base (L2N.CX P w) 1 f fd ["self", "at"] (spNT K) :=
  okDN F S (fun vs H Q E h => by obtain ⟨a, C, y, rfl, _⟩ := h; rfl) fun cdv A outer s H vs Q E hr h => ⟨_, hb cdv A outer s H E, nt_run (X := bodyX P w K mg base ["self", "at"] qual st f cdv A outer s H E) h⟩
section
variable {X : Cx} {e : Expr} {es : List Expr} {ta : TA} {p pos : Pos}
theorem mk_endN {pins : List (Addr × Obj)} {σ : L2.St} {H1 H2 : Hp} {Q : XK} {hp hp2 h2 : Heap} {g1 g2 : Array GenState} {d1 d2 : Drawn} {t1 t2 : Nat} {os1 os2 : OsState} {a C d : Addr} {fs : List (Str × V)} (T : Raises X (.ref C)) (I1 : Inv X pins σ H1 ⟨hp, g1, d1, t1, os1⟩)
    (ha : hp.objs.size ≤ a) (k : ∀ b o, hp.get? b = some o → hp2.get? b = some o) (un : Un (frs X.stack) [] (upd H1 a (exo a C none)) H2 hp2 h2) (hok : HOk X.prog X.w H2 h2) (ho : os2 = os1) (hb : AllBare g2)
    (ea : H2 a = some (exo a C (some d))) (ed : H2 d = some (exd d fs)) (hd1 : H1 d = none) (q : Q (.ref C) (some d) (upd (del H2 a) d (.xd fs))) : L2N.MkP X pins σ Q (.ref a) ⟨h2, g2, d2, t2, os2⟩ := by
  obtain ⟨t0, G, J, kG, ge, hoe, na⟩ := mk_end0 (d2 := d2) (t2 := t2) I1 ha k un hok ho hb ea ed hd1
  exact ⟨a, _, _, ⟨G, g2, d2, t2, os2⟩, _, .ref C, some d, rfl, J, kG, ge, hoe, ⟨rfl, rfl, fun vs e => by cases e; rfl⟩, rfl, rfl, na, rfl, hb, T, q⟩
theorem pmk_oexN {P : Program} {w : World} {x : Str} {C fI : Addr} {k : Nat} {fd : FuncData} {ps : List Str} {sp : Sp} {ds : List Value} {dvs : List V} (T : OexC X.K C) (iC : PySem.W.findIn X.K (.ref C) "__init__" = some (some (.ref fI))) (tI : PySem.W.typeIn X.K (.ref fI) = some (.type "function"))
    (F1 : FnOk X.prog X.w X.K X.mg X.base (L2N.CX P w) k fI fd ps sp) (hr : Room (k + 1) X.A) (hb : Binds X.K fd ps ds) (hd : Vals dvs ds) (hg : Gl X x) (hm : X.mg x = some (.ref C)) (ha : PA X (e :: es) ta)
    (hdb : (x == ("__debug__" : Str)) = false := by decide) (he : starEach (e :: es) X.env = (false, eval e X.env) :: starEach es X.env := by rfl) (hpl : (backTo pos (starEach es X.env)).any (·.1) = false := by rfl) :
    L2N.PMk X (.Call (.Name x p) (e :: es) [] pos) (tMkO C sp dvs ta) := by
  intro pins s σ H Q I h
  obtain ⟨nm, q, N, bs, bm, sn, sub, ab, col, dd, k0, k1, k2, k3, k5, hC, hbm⟩ := T.cls
  refine wpAny_Call_Name_kw (ld_glob I hg hm ?_ hdb)
  refine PySem.W.callWith_K (h₀ := X.base) I.ok.mod.kin T.kC (thn (ha.run pos pins s σ H _ I h) fun us s1 ⟨vs, H1, I1, r1, hz, q1⟩ => ⟨I1.kIn, ?_⟩) he hpl
  show wpAny _ _ (call (.ref C) us) _ _ _
  obtain ⟨hp, g, dr, tk, os⟩ := s1
  have hsz : hp.objs.size ≤ hp.objs.size + 1 := Nat.le_succ _
  have hn : H1 (hp.objs.size + 1) = none := I1.hok.fresh hsz
  have hq := q1 (hp.objs.size + 1) hn
  have kk : ∀ b o, hp.get? b = some o → ((hp.push (PySem.W.kdv_tup us)).push (PySem.HandSPX.excO C hp.objs.size)).get? b = some o := fun b o e => Heap.get?_push_of_some _ (Heap.get?_push_of_some _ e)
  have hget : ((hp.push (PySem.W.kdv_tup us)).push (PySem.HandSPX.excO C hp.objs.size)).get? (hp.objs.size + 1) = some (PySem.HandSPX.excO C hp.objs.size) := by heap_get
  have I2 : Inv X pins σ (upd H1 (hp.objs.size + 1) (exo (hp.objs.size + 1) C none)) ⟨(hp.push (PySem.W.kdv_tup us)).push (PySem.HandSPX.excO C hp.objs.size), g, dr, tk, os⟩ :=
    I1.laid (t' := tk) (a := hp.objs.size + 1) (o := exo (hp.objs.size + 1) C none) (h' := (hp.push (PySem.W.kdv_tup us)).push (PySem.HandSPX.excO C hp.objs.size)) kk hsz (exo_ok hget)
  have r2 : Vals (V.ref (hp.objs.size + 1) :: (vs ++ dvs)) (Value.ref (hp.objs.size + 1) :: (us ++ ds)) := .cons rfl (r1.append hd)
  have hl : (Value.ref (hp.objs.size + 1) :: us ++ ds).length = ps.length := by
    have e := r2.length
    rw [F1.len _ _ _ _ hq] at e
    exact e.symm
  have hus : us.length ≤ sizeLine := by
    rw [← Paired.length r1, sizeLine_eq]
    omega
  refine wpAny_call (PySem.HandSPX.call_own PySem.F.excBase_ValueError (fun Y => PySem.HandSPX.refsVE_contains Y bm hbm) (I1.kIn _ _ hC) (PySem.W.looks_findIn I1.kIn iC) (fun self => PySem.W.bind_fn I1.kIn self tI) hus
    (codeAny_mono (F1.run _ X.stack _ _ ⟨Value.ref (hp.objs.size + 1) :: us, []⟩ (Value.ref (hp.objs.size + 1) :: (us ++ ds)) _ _ (fun _ _ _ => False) (hr.make C us []) (I2.env0.make C us []) (hb _ (Value.ref (hp.objs.size + 1) :: us) I2.kIn hl) r2 hq) fun r s' hq' => ?_))
  cases r with
  | error er =>
    obtain ⟨_, _, _, _, _, _, _, _, _, _, _, _, z⟩ := hq'
    exact z.elim
  | ok fl =>
    cases fl with
    | ret u =>
      obtain ⟨v, H2, os2, bare2, un2, hok2, rv, ev, d, fs, ea, ed, hd1, q2⟩ := hq'
      subst ev
      obtain ⟨h2, g2, d2, t2, os'⟩ := s'
      exact ⟨rv, mk_endN (raises_own T.exC T.tyC) I1 hsz kk un2 hok2 os2 bare2 ea ed hd1 q2⟩
    | next => exact False.elim hq'
    | brk => exact False.elim hq'
    | cont => exact False.elim hq'
end
end DL

namespace DL
open PySem PySem.Spec PyProof.Rows L2
def xpT (ca : List (Str × Addr)) : XP := fun x cls d H => ∃ (C dd : Addr) (fs : List (Str × V)) (i : Int), x.pay = some (.int i) ∧ ca.lookup x.cls = some C ∧ cls = .ref C ∧ d = some dd ∧ H dd = some (.xd fs) ∧ fs.lookup (Str.ofString "at") = some (V.int i)
def cRaiseV (x : Str) (c : CE) : CS := fun env => match c env with
  | .ok (.frz (.int i)) env1 => .ex ⟨x, some (.int i)⟩ env1
  | .ok _ _ => .no
  | .ex y env1 => .ex y env1
  | .no => .no
section
variable {X : Cx} {W : WX} {ca : List (Str × Addr)}
structure Rv (K : PySem.W.Frag) (mg : Str → Option Value) (x : Str) (C fI : Addr) : Prop where
  g : mg x = some (.ref C)
  o : OexC K C
  i : PySem.W.findIn K (.ref C) "__init__" = some (some (.ref fI))
  t : PySem.W.typeIn K (.ref fI) = some (.type "function")
  n : PySem.W.findIn K (.ref C) "at" = some none
theorem xd_heap {H : Hp} {a dx : Addr} {o o1 : HO} {u1 u2 : HO} (ha : H a = none) (hd : H dx = none) (hne : dx ≠ a) : upd (del (upd (upd (upd H a o) dx u1) a o1) a) dx u2 = upd H dx u2 := by
  funext b
  by_cases hb : b = dx
  · rw [hb, upd_same, upd_same]
  · rw [upd_ne hb, upd_ne hb]
    by_cases hba : b = a
    · rw [hba, del_same, ha]
    · rw [del_ne hba, upd_ne hba, upd_ne hb, upd_ne hba]
theorem grow_xd {H F : Hp} {dx : Addr} {u : HO} (s : Sub F H) (hd : H dx = none) : Grow H F (upd H dx u) F :=
  ⟨fun b o hb => by rw [upd_ne (ne_of_none hb hd)]; exact hb, .refl _, s.trans (upd_sub hd), fun _ h => .inl h, fun _ h n => absurd n h⟩
theorem ds_raiseV {P : Program} {w : World} {x : Str} {C fI : Addr} {k : Nat} {fd : FuncData} {e : Expr} {c : CE} {te : TE} {p pos pos2 : Pos} (hc : X.calm = true) (tk : L2N.Takes X W) (hg : Gl X x) (R : Rv X.K X.mg x C fI) (hl : ca.lookup x = some C)
    (F1 : FnOk X.prog X.w X.K X.mg X.base (L2N.CX P w) k fI fd ["self", "at"] (spNT X.K)) (hr : Room (k + 1) X.A) (hb : Binds X.K fd ["self", "at"] []) (h : DE X (xpT ca) W e c te)
    (hdb : (x == ("__debug__" : Str)) = false := by decide) (he : starEach [e] X.env = (false, eval e X.env) :: starEach [] X.env := by rfl) (hpl : (backTo pos (starEach [] X.env)).any (·.1) = false := by rfl) :
    DS X (xpT ca) W (.Raise (some (.Call (.Name x p) [e] [] pos)) none pos2) (cRaiseV x c) := by
  refine ⟨_, L2N.ps_raise hc tk (pmk_oexN (dvs := []) R.o R.i R.t F1 hr hb .nil hg R.g (pa_cons h.1 pa_nil he) hdb he hpl), fun en σ H F env D w q => ?_⟩
  refine h.2 en σ H F env _ w ?_
  unfold cRaiseV at q
  cases g : c env with
  | no => rw [g] at q; exact q.elim
  | ex y env1 => rw [g] at q; exact fun H' F' cls d w' s z => q σ H' F' cls d w' s z
  | ok c1 env1 =>
    rw [g] at q
    intro v H1 F1 w1 s1 rc
    cases c1 with
    | frz d =>
      cases d with
      | int i =>
        have rc : RD X.K F1 v (.int i) := rc
        cases rc
        dsimp only at q
        refine ⟨by simp, fun a ha => ?_⟩
        refine ⟨a, C, .int i, rfl, R.o, R.n, upd_same, fun dx h1 h2 => ?_⟩
        have hd1 : H1 dx = none := by rw [upd_ne h2] at h1; exact h1
        refine ⟨rfl, dx, [("at", .int i)], upd_same, by rw [upd_ne h2, upd_same], hd1, ?_⟩
        rw [xd_heap ha hd1 h2]
        exact q σ _ F1 (.ref C) (some dx) (w1.grow (grow_xd w1.sub hd1)) s1 ⟨C, dx, _, i, rfl, hl, rfl, rfl, upd_same, by rfl⟩
      | _ => exact q.elim
    | _ => exact q.elim
end
end DL

namespace DL
open PySem PySem.Spec PyProof.Rows L2
section
variable {X : Cx} {a D dd : Addr} {oe : Obj} {pn pins : List (Addr × Obj)} {σ : L2.St} {H : Hp} {s : Shared}
theorem inst_xd {fs : List (Str × V)} (I : Inv X pins σ H s) (hget : s.heap.get? a = some oe) (hz : Zc (.ref D) (some dd) oe) (hf : ∃ vs, oe.data = .fields vs) (hd : H dd = some (.xd fs)) : ∃ od, PySem.W.InstAt s.heap a oe D (some od) := by
  obtain ⟨mA, hns, _⟩ := (show ObjOk X.prog X.w H s.heap dd (.xd fs) from I.hok dd _ hd)
  obtain ⟨od, ho, _⟩ := lookIn_ns hns
  obtain ⟨vs, hv⟩ := hf
  exact ⟨od, hget, hz.1, by unfold PySem.W.notCls; rw [hv] <;> rfl, by rw [hz.2]; exact ho⟩
def rIsEd (K : PySem.W.Frag) (D a dd : Addr) : List V → Hp → VK → Prop := fun xs H Q => ∃ (c : V) (cv : Value) (b : Bool) (fs : List (Str × V)), xs = [.ref a, c] ∧ (∀ u, RelV c u → u = cv) ∧ H dd = some (.xd fs) ∧ PySem.W.kitOne K (.ref D) cv = some b ∧ Q (.bl b) H
def rIsEt (K : PySem.W.Frag) (D a dd : Addr) : List V → Hp → VK → Prop := fun xs H Q => ∃ (tp : Addr) (cs : List V) (us : List Value) (b : Bool) (fs : List (Str × V)), xs = [.ref a, .ref tp] ∧ H tp = some (.tup cs) ∧ Paired ClsV cs us ∧ H dd = some (.xd fs) ∧ PySem.W.kitAny K (.ref D) us = some b ∧ Q (.bl b) H
theorem kitx_xd (C : ExcC X.K D) {od : Obj} : PySem.W.KitX X.K (.ref a) (.ref D) (fun h => PySem.W.InstAt h a oe D (some od)) := by
  obtain ⟨cd, hc, _⟩ := PySem.W.any_some C.hd
  exact PySem.W.kitx_exc (by rw [hc]; rfl) C.hg C.hk C.hs C.ha C.hn C.ht C.hm
theorem call_isEd (C : ExcC X.K D) (hz : Zc (.ref D) (some dd) oe) (hf : ∃ vs, oe.data = .fields vs) : CallR (X.suite a ((a, oe) :: pn)) (.builtin "isinstance") (rIsEd X.K D a dd) := by
  intro pins s σ H xs us Q I r h
  obtain ⟨c, cv, b, fs, rfl, hcv, hd, e, q⟩ := h
  obtain ⟨u1, u2, rfl, r1, r2⟩ := vals2 r
  cases (show u1 = Value.ref a from r1)
  have ec := hcv _ r2
  subst ec
  obtain ⟨hget, _⟩ := I.pin (a, oe) (List.mem_append.mpr (.inl List.mem_cons_self))
  obtain ⟨od, J⟩ := inst_xd I hget hz hf hd
  exact PySem.W.kia_one (kitx_xd C) I.kIn J e (fun z => nomatch z) fun tk => ⟨.bl b, H, I.tok tk, rfl, q⟩
theorem call_isEt (C : ExcC X.K D) (hz : Zc (.ref D) (some dd) oe) (hf : ∃ vs, oe.data = .fields vs) : CallR (X.suite a ((a, oe) :: pn)) (.builtin "isinstance") (rIsEt X.K D a dd) := by
  intro pins s σ H xs us Q I r h
  obtain ⟨tp, cs, ws, b, fs, rfl, hT, k, hd, e, q⟩ := h
  obtain ⟨u1, u2, rfl, r1, r2⟩ := vals2 r
  cases (show u1 = Value.ref a from r1)
  cases (show u2 = Value.ref tp from r2)
  obtain ⟨hget, _⟩ := I.pin (a, oe) (List.mem_append.mpr (.inl List.mem_cons_self))
  obtain ⟨od, J⟩ := inst_xd I hget hz hf hd
  obtain ⟨_, its, rv, o, h1, h2, n, h3⟩ := (show ObjOk X.prog X.w H s.heap tp (.tup cs) from I.hok tp _ hT)
  have e3 := ClsV.all k rv
  subst e3
  obtain ⟨oc, od2, dt, sl⟩ := o
  simp only at h2 h3
  subst h2 h3
  exact PySem.W.kia_tup (kitx_xd C) I.kIn J h1 e (fun z => nomatch z) fun tk => ⟨.bl b, H, I.tok tk, rfl, q⟩
end
end DL

namespace DL
open PySem PySem.Spec PyProof.Rows L2
def hmT : Exc → Option Cell := fun x => if x.cls = Str.ofString "NoText" then (match x.pay with
  | some (.int i) => some (.frz (.int i))
  | _ => none) else none
theorem hmT_some {x : Exc} {c : Cell} (h : hmT x = some c) : x.cls = Str.ofString "NoText" ∧ ∃ i, x.pay = some (.int i) ∧ c = .frz (.int i) := by
  unfold hmT at h
  by_cases e : x.cls = Str.ofString "NoText"
  · rw [if_pos e] at h
    refine ⟨e, ?_⟩
    split at h
    · rename_i i hp
      cases h
      exact ⟨i, hp, rfl⟩
    · cases h
  · rw [if_neg e] at h; cases h
theorem metT {K : PySem.W.Frag} {C S : Addr} (hm : PySem.W.exmOne K (.ref C) (.ref S) = some true) {ex : Exc} {cls : Value} {d : Option Addr} {H : Hp} (h : (hmT ex).isSome = true) (q : xpT [(Str.ofString "NoText", C)] ex cls d H) : PySem.W.exmOne K cls (.ref S) = some true := by
  obtain ⟨c, hc⟩ := Option.isSome_iff_exists.mp h
  obtain ⟨hx, _⟩ := hmT_some hc
  obtain ⟨C', _, _, _, _, hl, rfl, _⟩ := q
  rw [hx] at hl
  have : C' = C := by simpa [List.lookup_cons] using hl.symm
  rw [this]; exact hm
section
variable {K : PySem.W.Frag} {mg : Str → Option Value} {C S : Addr}
theorem sub_nt (m : ∃ cd, PySem.W.clsIn K C = some cd ∧ cd.mro = mroD C S) (b : Value) : PySem.W.subIn K (.ref C) b = some ((mroD C S).contains b) := by
  obtain ⟨cd, h1, h2⟩ := m
  show PySem.W.mroIn K C b = _
  unfold PySem.W.mroIn
  rw [h1, Option.bind_some, h2]; rfl
theorem kit_nt (m : ∃ cd, PySem.W.clsIn K C = some cd ∧ cd.mro = mroD C S) {x : Str} {D : Addr} (a : AskC K mg x D) (n1 : D ≠ C) (n2 : D ≠ S) : PySem.W.kitOne K (.ref C) (.ref D) = some false := by
  unfold PySem.W.kitOne
  rw [if_neg (by simp [Ne.symm n1]), kitCls_ref a.t a.c (sub_nt m _)]
  have e1 : (Value.ref D == Value.ref C) = false := by simp [n1]
  have e2 : (Value.ref D == Value.ref S) = false := by simp [n2]
  unfold mroD
  simp only [List.contains_cons, e1, e2, Bool.false_or]
  rfl
theorem kit_nt_self : PySem.W.kitOne K (.ref C) (.ref C) = some true := by
  unfold PySem.W.kitOne
  rw [if_pos (by simp)]
theorem kit_nt_V (m : ∃ cd, PySem.W.clsIn K C = some cd ∧ cd.mro = mroD C S) : PySem.W.kitOne K (.ref C) (.type "ValueError") = some true := by
  have km : PySem.W.kitMeta "ValueError" = true := by decide +kernel
  unfold PySem.W.kitOne
  rw [if_neg (by simp)]
  unfold PySem.W.kitCls
  dsimp only
  rw [if_pos km, sub_nt m]; simp [mroD]
theorem met_nt (m : ∃ cd, PySem.W.clsIn K C = some cd ∧ cd.mro = mroD C S) (sb : PySem.W.subIn K (.ref S) (.type "BaseException") = some true) {x : Str} (a : AskC K mg x S) : PySem.W.exmOne K (.ref C) (.ref S) = some true := by
  unfold PySem.W.exmOne
  rw [if_pos (by rw [sb]; rfl)]
  rw [kitCls_ref a.t a.c (sub_nt m _)]; simp [mroD]
theorem kitAny_no {t : Value} : ∀ {us : List Value}, (∀ u ∈ us, PySem.W.kitOne K t u = some false) → PySem.W.kitAny K t us = some false
  | [], _ => rfl
  | u :: us, h => by
    unfold PySem.W.kitAny
    rw [h u List.mem_cons_self]
    exact kitAny_no fun v hv => h v (List.mem_cons_of_mem _ hv)
end
section
variable {X : Cx} {ca : List (Str × Addr)} {CT : Addr} {i j j2 : Nat} {n : Str} {a : Addr} {oe : Obj} {cls : Value} {d : Option Addr} {pn : List (Addr × Obj)} {es : List Expr} {cs : List Addr} {tT : TA} {x1 : Nat}
  {q1 q2 q3 q4 q5 q6 q7 q8 q9 q10 q11 q12 q13 q14 q15 q16 q17 q18 q19 q20 q21 q22 : Pos}
theorem paired_cls : ∀ cs : List Addr, Paired ClsV (cs.map V.ref) (cs.map Value.ref)
  | [] => .nil
  | c :: cs => .cons (.own c) (paired_cls cs)
theorem suite_nt (EC : ExcC X.K CT) (XF : XfC X.K CT) (hno : PySem.W.findIn X.K (.ref CT) "at" = some none) (hz : L2N.Zn cls d oe) (hf : ∃ vs, oe.data = .fields vs) (hl : ca.lookup (Str.ofString "NoText") = some CT)
    (he : ∀ q, PE (X.suite a ((a, oe) :: pn)) (.Name n q) (tVar i)) (hT : PA (X.suite a ((a, oe) :: pn)) es tT) (hTr : ∀ σ H (Q : List V → Hp → Prop), Q (cs.map V.ref) H → tT σ H Q) (hcs : cs.length ≤ 1000)
    (hk5 : PySem.W.kitAny X.K (.ref CT) (cs.map Value.ref) = some false) (hkV : PySem.W.kitOne X.K (.ref CT) (.type "ValueError") = some true) (hkT : PySem.W.kitOne X.K (.ref CT) (.ref CT) = some true)
    (g1 : Gl (X.suite a ((a, oe) :: pn)) "isinstance") (m1 : X.mg "isinstance" = none) (g2 : Gl (X.suite a ((a, oe) :: pn)) "ValueError") (m2 : X.mg "ValueError" = none) (g3 : Gl (X.suite a ((a, oe) :: pn)) "NoText") (m3 : X.mg "NoText" = some (.ref CT)) :
    PSs (X.suite a ((a, oe) :: pn)) [.If (.BoolOp .Or [.Call (.Name "isinstance" q1) [.Name n q2, .Tuple es x1 q3] [] q4, .UnaryOp .Not (.Call (.Name "isinstance" q5) [.Name n q6, .Name "ValueError" q7] [] q8) q9] q10) [.Return (some (.Constant .none j q11)) q12] [] q13,
      .Return (some (.IfExp (.Call (.Name "isinstance" q14) [.Name n q15, .Name "NoText" q16] [] q17) (.Attribute (.Name n q18) "at" q19) (.Constant .none j2 q20) q21)) q22] (tSuite X.K (xpT ca) hmT i a cls d) := by
  refine ⟨fun pins s σ H D I h => ?_⟩
  obtain ⟨x, c, F, hm, ⟨C, dd, fs, m, hpay, hlk, rfl, rfl, hdd, hat⟩, sF, hσ, fin⟩ := h
  obtain ⟨hx, m', hp', rfl⟩ := hmT_some hm
  rw [hpay] at hp'
  cases hp'
  rw [hx] at hlk
  have hC : C = CT := Option.some.inj (hlk.symm.trans hl)
  subst hC
  have P := pss_cons (ps_if (X := X.suite a ((a, oe) :: pn)) (pos := q13) (pw_or (pos := q10) (pt_val (pe_callB (p := q1) (pos := q4) (call_isEt EC hz.zc hf) g1 m1 (by decide +kernel) (pa_cons (he q2) (pa_cons (pe_tup (x1 := x1) (pos := q3) hT) pa_nil)) (by decide) (by decide)))
      (pw_or1 (pt_not (pos := q9) (pt_val (pe_callB (p := q5) (pos := q8) (call_isEd EC hz.zc hf) g1 m1 (by decide +kernel) (pa_cons (he q6) (pa_cons (pe_bltn (pos := q7) (v := .ty "ValueError") g2 m2 (by decide +kernel) rfl) pa_nil)) (by decide) (by decide)))))).pt
      (pss_one (ps_ret (pos := q12) (pe_non (j := j) (pos := q11)))) pss_nil)
    (pss_one (ps_ret (pos := q22) (pe_ifExp (pos := q21) (pt_val (pe_callB (p := q14) (pos := q17) (call_isEd EC hz.zc hf) g1 m1 (by decide +kernel) (pa_cons (he q15) (pa_cons (pe_glob (pos := q16) (v := .ref C) g3 m3 rfl) pa_nil)) (by decide) (by decide)))
      (pe_xf (n := "at") (pos := q19) XF hno hz.zc hf (he q18)) (pe_non (j := j2) (pos := q20)))))
  refine P.run pins s σ H D I ?_
  refine ⟨.ref a, hσ, ?_⟩
  refine hTr σ H _ ⟨by rw [List.length_map, sizeLine_eq]; omega, fun p hp => ?_⟩
  have hd1 : (upd H p (.tup (cs.map V.ref))) dd = some (.xd fs) := by rw [upd_ne (ne_of_none hdd hp)]; exact hdd
  refine ⟨p, cs.map V.ref, cs.map Value.ref, false, fs, rfl, upd_same, paired_cls cs, hd1, hk5, false, rfl, ?_⟩
  refine ⟨.ref a, hσ, .ty "ValueError", .type "ValueError", true, fs, rfl, fun u r => r, hd1, hkV, true, rfl, ?_⟩
  refine ⟨.ref a, hσ, .ref C, .ref C, true, fs, rfl, fun u r => r, hd1, hkT, true, rfl, ?_⟩
  exact ⟨.ref a, hσ, rfl, rfl, dd, fs, .int m, rfl, hd1, hat, fin (.int m) _ F (grow_xd sF hp) (.int m)⟩
end
end DL

namespace DL
open PySem

def gC : Nat → Cs → Cell
  | _, [] => .emp
  | 0, c :: _ => c
  | i + 1, _ :: l => gC i l
theorem getD_gC : ∀ (i : Nat) (env : Cs), env.getD i .emp = gC i env
  | _, [] => by simp [gC]
  | 0, c :: _ => rfl
  | i + 1, c :: l => by rw [List.getD_cons_succ, getD_gC i l]; rfl
@[simp] theorem gC_0 (c : Cell) (l : Cs) : gC 0 (c :: l) = c := rfl
@[simp] theorem gC_s (i : Nat) (c : Cell) (l : Cs) : gC (i + 1) (c :: l) = gC i l := rfl
@[simp] theorem read_frz (d : PyData) : (Cell.frz d).read = some d := rfl
@[simp] theorem read_own (b : Bool) (d : PyData) : (Cell.own b d).read = some d := rfl
@[simp] theorem read_lck (d : PyData) : (Cell.lck d).read = some d := rfl
@[simp] theorem read_emp : Cell.emp.read = none := rfl
@[simp] theorem val_frz (d : PyData) : (Cell.frz d).val = some d := rfl
@[simp] theorem val_own (b : Bool) (d : PyData) : (Cell.own b d).val = some d := rfl
@[simp] theorem asg_own (b : Bool) (d : PyData) : (Cell.own b d).asg = .own false d := rfl
@[simp] theorem asg_frz (d : PyData) : (Cell.frz d).asg = .frz d := rfl
@[simp] theorem mine_frz (d : PyData) : (Cell.frz d).mine = false := rfl
@[simp] theorem mine_own (b : Bool) (d : PyData) : (Cell.own b d).mine = true := rfl
@[simp] theorem mine_lck (d : PyData) : (Cell.lck d).mine = true := rfl
@[simp] theorem mine_emp : Cell.emp.mine = false := rfl
@[simp] theorem lck_frz (d : PyData) : isLck (.frz d) = false := rfl
@[simp] theorem lck_own (b : Bool) (d : PyData) : isLck (.own b d) = false := rfl
@[simp] theorem lck_lck (d : PyData) : isLck (.lck d) = true := rfl
@[simp] theorem lck_emp : isLck .emp = false := rfl
@[simp] theorem out_frz (d : PyData) : (Cell.frz d).out = .frz d := rfl
@[simp] theorem out_own (b : Bool) (d : PyData) : (Cell.own b d).out = .own false d := by cases b <;> rfl

@[simp] theorem bind_ok {α β : Type} (a : α) (env : Cs) (k : α → Cs → Res β) : (Res.ok a env).bind k = k a env := rfl
@[simp] theorem bind_ex {α β : Type} (x : Exc) (env : Cs) (k : α → Cs → Res β) : (Res.ex x env : Res α).bind k = .ex x env := rfl
@[simp] theorem fin_val (c : Cell) (env : Cs) : (OR.val c).fin env = .ok c env := rfl
@[simp] theorem frzI_eq (i : Int) : frzI i = .val (.frz (.int i)) := rfl
@[simp] theorem frzB_eq (i : Bool) : frzB i = .val (.frz (.bool i)) := rfl

@[simp] theorem ev_nm (i : Nat) (env : Cs) : (Opd.nm i).ev env = match (gC i env).read with
    | some _ => .ok (.late i) env
    | none => .no := by
  show (match (env.getD i .emp).read with | some _ => Res.ok (Lt.late i) env | none => .no) = _
  rw [getD_gC]
@[simp] theorem ev_ex (c : CE) (env : Cs) : (Opd.ex c).ev env = (c env).bind fun c env1 => match c.val with
    | some d => .ok (.now d) env1
    | none => .no := rfl
@[simp] theorem get_now (env : Cs) (d : PyData) : Lt.get env (.now d) = some d := rfl
@[simp] theorem get_late (env : Cs) (i : Nat) : Lt.get env (.late i) = (gC i env).read := by show (env.getD i .emp).read = _; rw [getD_gC]
@[simp] theorem evs_nil (env : Cs) : evs [] env = .ok [] env := rfl
@[simp] theorem evs_cons (o : Opd) (os : List Opd) (env : Cs) : evs (o :: os) env = (o.ev env).bind fun l env1 => (evs os env1).bind fun ls env2 => .ok (l :: ls) env2 := rfl
@[simp] theorem gets_nil (env : Cs) : gets env [] = some [] := rfl
@[simp] theorem gets_cons (env : Cs) (l : Lt) (ls : List Lt) : gets env (l :: ls) = match l.get env, gets env ls with
    | some d, some ds => some (d :: ds)
    | _, _ => none := rfl
@[simp] theorem nows_nil : nows [] = some [] := rfl
@[simp] theorem nows_now (d : PyData) (ls : List Lt) : nows (.now d :: ls) = match nows ls with
    | some ds => some (d :: ds)
    | none => none := rfl
@[simp] theorem anyMine_nil (env : Cs) : anyMine env [] = false := rfl
@[simp] theorem anyMine_late (env : Cs) (i : Nat) (ls : List Lt) : anyMine env (.late i :: ls) = ((gC i env).mine || anyMine env ls) := by show ((env.getD i .emp).mine || _) = _; rw [getD_gC]
@[simp] theorem anyMine_now (env : Cs) (d : PyData) (ls : List Lt) : anyMine env (.now d :: ls) = anyMine env ls := rfl

def orB {α : Type} (a b : α) : Bool → α
  | true => a
  | false => b
@[simp] theorem orB_t {α : Type} (a b : α) : orB a b true = a := rfl
@[simp] theorem orB_f {α : Type} (a b : α) : orB a b false = b := rfl
@[simp] theorem orB_okT (b c : Bool) (env : Cs) : orB (Res.ok true env) (.ok c env) b = .ok (b || c) env := by cases b <;> rfl
@[simp] theorem orB_okF (b c : Bool) (env : Cs) : orB (Res.ok c env) (.ok false env) b = .ok (b && c) env := by cases b <;> rfl
@[simp] theorem orB_vT (b c : Bool) (env : Cs) : orB (Res.ok (Cell.frz (.bool true)) env) (Res.ok (Cell.frz (.bool c)) env) b = Res.ok (Cell.frz (.bool (b || c))) env := by cases b <;> rfl
@[simp] theorem orB_vF (b c : Bool) (env : Cs) : orB (Res.ok (Cell.frz (.bool c)) env) (Res.ok (Cell.frz (.bool false)) env) b = Res.ok (Cell.frz (.bool (b && c))) env := by cases b <;> rfl
@[simp] theorem orB_same {α : Type} (a : α) (b : Bool) : orB a a b = a := by cases b <;> rfl

@[simp] theorem ev_var (i : Nat) (env : Cs) : cVar i env = match gC i env with
    | .frz d => .ok (.frz d) env
    | .own false d => .ok (.frz d) (env.set i (.frz d))
    | _ => .no := by
  unfold cVar; rw [getD_gC] <;> (cases gC i env with | own b d => cases b <;> rfl | _ => rfl)
@[simp] theorem ev_k (d : PyData) (env : Cs) : cK d env = .ok (.frz d) env := rfl
@[simp] theorem ev_move (i : Nat) (env : Cs) : cMove i env = match gC i env with
    | .frz d => .ok (.frz d) env
    | .own false d => .ok (.own false d) (env.set i .emp)
    | _ => .no := by
  unfold cMove; rw [getD_gC] <;> (cases gC i env with | own b d => cases b <;> rfl | _ => rfl)
@[simp] theorem ev_op2 (k : Op2) (a b : Opd) (env : Cs) : cOp2 k a b env = (a.ev env).bind fun la env1 => (b.ev env1).bind fun lb env2 =>
    match la.get env2, lb.get env2 with
    | some x, some y => (k x y).fin env2
    | _, _ => .no := rfl
@[simp] theorem ev_opN (k : OpN) (os : List Opd) (env : Cs) : cOpN k os env = (evs os env).bind fun ls env1 => match gets env1 ls with
    | some ds => (k ds).fin env1
    | none => .no := rfl
@[simp] theorem ev_tup (os : List Opd) (env : Cs) : cTup os env = (evs os env).bind fun ls env1 => match nows ls with
    | some ds => .ok (.frz (.tuple ds)) env1
    | none => .no := rfl
@[simp] theorem ev_lst (os : List Opd) (env : Cs) : cLst os env = (evs os env).bind fun ls env1 => match nows ls with
    | some ds => .ok (.own false (.list ds)) env1
    | none => .no := rfl
@[simp] theorem ev_toT (c : CE) (env : Cs) : toT c env = (c env).bind fun c env' => match c with
    | .frz (.bool b) => .ok b env'
    | _ => .no := rfl
@[simp] theorem ev_notT (c : CT) (env : Cs) : cNotT c env = (c env).bind fun b env' => .ok (!b) env' := rfl
@[simp] theorem ev_andT (c d : CT) (env : Cs) : cAndT c d env = (c env).bind fun b env' => orB (d env') (.ok false env') b := by
  unfold cAndT; cases c env with | ok b e => cases b <;> rfl | ex x e => rfl | no => rfl
@[simp] theorem ev_orT (c d : CT) (env : Cs) : cOrT c d env = (c env).bind fun b env' => orB (.ok true env') (d env') b := by
  unfold cOrT; cases c env with | ok b e => cases b <;> rfl | ex x e => rfl | no => rfl
@[simp] theorem ev_and (c d : CE) (env : Cs) : cAnd c d env = (toT c env).bind fun b env' => orB (d env') (.ok (.frz (.bool false)) env') b := by
  unfold cAnd; cases toT c env with | ok b e => cases b <;> rfl | ex x e => rfl | no => rfl
@[simp] theorem ev_or (c d : CE) (env : Cs) : cOr c d env = (toT c env).bind fun b env' => orB (.ok (.frz (.bool true)) env') (d env') b := by
  unfold cOr; cases toT c env with | ok b e => cases b <;> rfl | ex x e => rfl | no => rfl
@[simp] theorem ev_not (c : CE) (env : Cs) : cNot c env = (toT c env).bind fun b env' => .ok (.frz (.bool !b)) env' := rfl
@[simp] theorem ev_if (c : CT) (a b : CE) (env : Cs) : cIf c a b env = (c env).bind fun t env' => orB (a env') (b env') t := by
  unfold cIf; cases c env with | ok b e => cases b <;> rfl | ex x e => rfl | no => rfl
@[simp] theorem ev_chain (k k' : Op2) (a b c : Opd) (env : Cs) : cChain k k' a b c env = cChain k k' a b c env := rfl
@[simp] theorem ev_call (m : Fn) (os : List Opd) (env : Cs) : cCall m os env = (evs os env).bind fun ls env1 => match gets env1 ls with
    | some ds => match m ds with
      | .ok c => match anyMine env1 ls && !lowC c with
        | true => .no
        | false => .ok c env1
      | .ex x => .ex x env1
      | .no => .no
    | none => .no := rfl
@[simp] theorem ev_callI (m : Fm) (i : Nat) (os : List Opd) (env : Cs) : cCallI m i os env = match (gC i env).read with
    | none => .no
    | some _ => (evs os env).bind fun ls env1 => match nows ls with
      | none => .no
      | some ds => match gC i env1 with
        | .own b d => match m d ds with
          | .ok c d' => .ok c (env1.set i (.own b d'))
          | .no => .no
        | _ => .no := by
  unfold cCallI; rw [getD_gC]
  cases (gC i env).read with
  | none => rfl
  | some d =>
    dsimp only
    congr 1; funext ls env1
    cases nows ls with
    | none => rfl
    | some ds => dsimp only; rw [getD_gC] <;> cases gC i env1 <;> rfl
@[simp] theorem ev_neg (o : Opd) (env : Cs) : cNeg o env = (o.ev env).bind fun l env1 => match l.get env1 with
    | some (.int i) => .ok (.frz (.int (-i))) env1
    | _ => .no := rfl
@[simp] theorem ev_isi (T : String) (o : Opd) (env : Cs) : cIsi T o env = (o.ev env).bind fun l env1 => match l.get env1 with
    | some d => match isiD T d with
      | some b => .ok (.frz (.bool b)) env1
      | none => .no
    | none => .no := rfl
end DL

namespace DL
open PySem

@[simp] theorem ev_chain' (k k' : Op2) (a b c : Opd) (env : Cs) : cChain k k' a b c env = (a.ev env).bind fun la env1 => (b.ev env1).bind fun lb env2 =>
    match la.get env2, lb.get env2 with
    | some x, some y => match k x y with
      | .val (.frz (.bool t)) => orB ((c.ev env2).bind fun lc env3 => match lb.get env3, lc.get env3 with
        | some y, some z => (k' y z).fin env3
        | _, _ => .no) (.ok (.frz (.bool false)) env2) t
      | _ => .no
    | _, _ => .no := by
  unfold cChain
  congr 1; funext la env1; congr 1; funext lb env2
  cases la.get env2 with
  | none => rfl
  | some x =>
    cases lb.get env2 with
    | none => rfl
    | some y =>
      dsimp only
      cases k x y with
      | no => rfl
      | val c => cases c with
        | frz d => cases d with
          | bool t => cases t <;> rfl
          | _ => rfl
        | _ => rfl

def Res.is {α : Type} (r : Res α) (P : α → Cs → Prop) : Prop := match r with
  | .ok a e => P a e
  | _ => False
@[simp] theorem is_ok {α : Type} (a : α) (e : Cs) (P : α → Cs → Prop) : (Res.ok a e).is P = P a e := rfl
@[simp] theorem is_no {α : Type} (P : α → Cs → Prop) : (Res.no : Res α).is P = False := rfl
@[simp] theorem is_ex {α : Type} (x : Exc) (e : Cs) (P : α → Cs → Prop) : (Res.ex x e : Res α).is P = False := rfl
@[simp] theorem is_orB {α : Type} (a b : Res α) (t : Bool) (P : α → Cs → Prop) : (orB a b t).is P = ((t = true → a.is P) ∧ (t = false → b.is P)) := by cases t <;> simp
theorem is_ex1 {α : Type} {r : Res α} {P : α → Cs → Prop} (h : r.is P) : ∃ a e, r = .ok a e ∧ P a e := by
  cases r with
  | ok a e => exact ⟨a, e, rfl, h⟩
  | ex x e => exact h.elim
  | no => exact h.elim
def isO {α : Type} (r : Option α) (P : α → Prop) : Prop := match r with
  | some a => P a
  | none => False
@[simp] theorem isO_some {α : Type} (a : α) (P : α → Prop) : isO (some a) P = P a := rfl
@[simp] theorem isO_none {α : Type} (P : α → Prop) : isO none P = False := rfl
theorem isO_ex {α : Type} {r : Option α} {P : α → Prop} (h : isO r P) : ∃ a, r = some a ∧ P a := by
  cases r with
  | some a => exact ⟨a, rfl, h⟩
  | none => exact h.elim

structure KS where
  nx : Cs → Prop
  rt : Cell → Cs → Prop
  bk : Cs → Prop := fun _ => False
  ct : Cs → Prop := fun _ => False
  ex : Exc → Cs → Prop := fun _ _ => False
def SRes.sat (K : KS) : SRes → Prop
  | .nx e => K.nx e
  | .rt c e => K.rt c e
  | .bk e => K.bk e
  | .ct e => K.ct e
  | .ex x e => K.ex x e
  | .no => False
@[simp] theorem sat_nx (K : KS) (e : Cs) : (SRes.nx e).sat K = K.nx e := rfl
@[simp] theorem sat_rt (K : KS) (c : Cell) (e : Cs) : (SRes.rt c e).sat K = K.rt c e := rfl
@[simp] theorem sat_bk (K : KS) (e : Cs) : (SRes.bk e).sat K = K.bk e := rfl
@[simp] theorem sat_ct (K : KS) (e : Cs) : (SRes.ct e).sat K = K.ct e := rfl
@[simp] theorem sat_ex (K : KS) (x : Exc) (e : Cs) : (SRes.ex x e).sat K = K.ex x e := rfl
@[simp] theorem sat_no (K : KS) : SRes.no.sat K = False := rfl
def SRes.then (r : SRes) (d : CS) : SRes := match r with
  | .nx e => d e
  | r => r
@[simp] theorem then_nx (e : Cs) (d : CS) : (SRes.nx e).then d = d e := rfl
@[simp] theorem then_rt (c : Cell) (e : Cs) (d : CS) : (SRes.rt c e).then d = .rt c e := rfl
@[simp] theorem then_bk (e : Cs) (d : CS) : (SRes.bk e).then d = .bk e := rfl
@[simp] theorem then_ct (e : Cs) (d : CS) : (SRes.ct e).then d = .ct e := rfl
@[simp] theorem then_ex (x : Exc) (e : Cs) (d : CS) : (SRes.ex x e).then d = .ex x e := rfl
@[simp] theorem then_orB (a b : SRes) (t : Bool) (d : CS) : (orB a b t).then d = orB (a.then d) (b.then d) t := by cases t <;> rfl
theorem sat_then {K : KS} {r : SRes} {d : CS} (h : r.sat { K with nx := fun e => (d e).sat K }) : (r.then d).sat K := by
  cases r <;> exact h
@[simp] theorem sat_orB (K : KS) (a b : SRes) (t : Bool) : (orB a b t).sat K = ((t = true → a.sat K) ∧ (t = false → b.sat K)) := by
  cases t <;> simp
theorem SRes.sat.mono {K K' : KS} {r : SRes} (h : r.sat K) (h1 : ∀ e, K.nx e → K'.nx e) (h2 : ∀ c e, K.rt c e → K'.rt c e) (h3 : ∀ e, K.bk e → K'.bk e) (h4 : ∀ e, K.ct e → K'.ct e) (h5 : ∀ x e, K.ex x e → K'.ex x e) : r.sat K' := by
  cases r with
  | nx e => exact h1 e h
  | rt c e => exact h2 c e h
  | bk e => exact h3 e h
  | ct e => exact h4 e h
  | ex x e => exact h5 x e h
  | no => exact h
@[simp] theorem ev_seq (c d : CS) (env : Cs) : cSeq c d env = (c env).then d := by
  unfold cSeq; cases c env <;> rfl
@[simp] theorem ev_next (env : Cs) : cNext env = .nx env := rfl
@[simp] theorem ev_break (env : Cs) : cBreak env = .bk env := rfl
@[simp] theorem ev_cont (env : Cs) : cCont env = .ct env := rfl
@[simp] theorem ev_never (env : Cs) : cNever env = .no := rfl
@[simp] theorem ev_dict0 (env : Cs) : cDict0 env = .ok (.own false (.dict [])) env := rfl
@[simp] theorem ev_raise (x : Str) (env : Cs) : cRaise x env = .ex ⟨x, none⟩ env := rfl
@[simp] theorem ev_retN (env : Cs) : cRetN env = .rt (.frz .none) env := rfl
@[simp] theorem ev_drop (c : CE) (env : Cs) : cDrop c env = match c env with
    | .ok _ e => .nx e
    | .ex x e => .ex x e
    | .no => .no := rfl
@[simp] theorem ev_ret (c : CE) (env : Cs) : cRet c env = match c env with
    | .ok c e => .rt c e
    | .ex x e => .ex x e
    | .no => .no := rfl
@[simp] theorem ev_ifS (c : CT) (a b : CS) (env : Cs) : cIfS c a b env = match c env with
    | .ok t e => orB (a e) (b e) t
    | .ex x e => .ex x e
    | .no => .no := by
  unfold cIfS; cases c env with | ok t e => cases t <;> rfl | ex x e => rfl | no => rfl
@[simp] theorem ev_set (i : Nat) (c : CE) (env : Cs) : cSet i c env = match c env with
    | .ok c e => match isLck (gC i e) with
      | true => .no
      | false => .nx (e.set i c.asg)
    | .ex x e => .ex x e
    | .no => .no := by
  unfold cSet; cases c env with
  | ok c e => dsimp only; rw [getD_gC] <;> cases isLck (gC i e) <;> rfl
  | ex x e => rfl
  | no => rfl
@[simp] theorem ev_unp (g : Tg) (c : CE) (env : Cs) : cUnp g c env = match c env with
    | .ok c env1 => match c.val with
      | some d => match g.put d env1 with
        | some env2 => .nx env2
        | none => .no
      | none => .no
    | .ex x env1 => .ex x env1
    | .no => .no := rfl
@[simp] theorem ev_par (i j : Nat) (c d : CE) (env : Cs) : cPar i j c d env = match c env with
    | .ok c1 env1 => match d env1 with
      | .ok d1 env2 => match isLck (gC i env2) || isLck (gC j env2) with
        | true => .no
        | false => .nx ((env2.set i c1.asg).set j d1.asg)
      | .ex x env2 => .ex x env2
      | .no => .no
    | .ex x env1 => .ex x env1
    | .no => .no := by
  unfold cPar; cases c env with
  | ok c e => dsimp only; cases d e with
    | ok d e => dsimp only; rw [getD_gC, getD_gC] <;> cases isLck (gC i e) || isLck (gC j e) <;> rfl
    | ex x e => rfl
    | no => rfl
  | ex x e => rfl
  | no => rfl
@[simp] theorem ev_setItem (k : OpS) (i : Nat) (oi : Opd) (c : CE) (env : Cs) : cSetItem k i oi c env = match c env with
    | .ok c1 env1 => match c1.val, (gC i env1).read with
      | some dv, some _ => match oi.ev env1 with
        | .ok l env2 => match gC i env2, l.get env2 with
          | .own b d, some dx => match k d dx dv with
            | some d' => .nx (env2.set i (.own b d'))
            | none => .no
          | _, _ => .no
        | .ex x env2 => .ex x env2
        | .no => .no
      | _, _ => .no
    | .ex x env1 => .ex x env1
    | .no => .no := by
  unfold cSetItem; cases c env with
  | ok c1 e =>
    dsimp only; rw [getD_gC]
    cases c1.val with
    | none => rfl
    | some dv =>
      cases (gC i e).read with
      | none => rfl
      | some _ =>
        dsimp only
        cases oi.ev e with
        | ok l env2 => dsimp only; rw [getD_gC] <;> cases gC i env2 <;> cases l.get env2 <;> rfl
        | ex x e => rfl
        | no => rfl
  | ex x e => rfl
  | no => rfl
@[simp] theorem ev_methT (T : String) (k : OpM) (i : Nat) (os : List Opd) (env : Cs) : cMethT T k i os env = match gC i env with
    | .own _ d0 => match isT T d0 with
      | true => (evs os env).bind fun ls env1 => match nows ls with
        | none => .no
        | some ds => match gC i env1 with
          | .own b d => match k d ds with
            | .ok c d' => .ok c (env1.set i (.own b d'))
            | .no => .no
          | _ => .no
      | false => .no
    | _ => .no := by
  unfold cMethT; rw [getD_gC]
  cases gC i env with
  | own b d0 =>
    dsimp only
    cases isT T d0 with
    | false => rfl
    | true =>
      dsimp only
      congr 1; funext ls env1
      cases nows ls with
      | none => rfl
      | some ds => dsimp only; rw [getD_gC] <;> cases gC i env1 <;> rfl
  | _ => rfl
@[simp] theorem ev_for (g : Tg) (ci : CI) (body : CS) (env : Cs) : cFor g ci body env = match ci env with
    | .ok items env1 => forL g body items env1
    | .ex x env1 => .ex x env1
    | .no => .no := rfl
@[simp] theorem ev_iSeq (c : CE) (env : Cs) : iSeq c env = (c env).bind fun c env1 => match c.val with
    | some d => match seqOf d with
      | some ds => .ok ds env1
      | none => .no
    | none => .no := by
  unfold iSeq; congr 1
@[simp] theorem ev_iArgs (k : List PyData → Option (List PyData)) (os : List Opd) (env : Cs) : iArgs k os env = (evs os env).bind fun ls env1 => match gets env1 ls with
    | some ds => match k ds with
      | some xs => .ok xs env1
      | none => .no
    | none => .no := by
  unfold iArgs; congr 1; funext ls env1
  cases gets env1 ls with
  | none => rfl
  | some ds => dsimp only <;> cases k ds <;> rfl
@[simp] theorem put_one (i : Nat) (d : PyData) (env : Cs) : (Tg.one i).put d env = match isLck (gC i env) with
    | true => none
    | false => some (env.set i (.frz d)) := by
  show (match isLck (env.getD i .emp) with | true => none | false => some (env.set i (.frz d))) = _
  rw [getD_gC]
@[simp] theorem put_nest (i : Nat) (is : List Nat) (d : PyData) (ds : List PyData) (env : Cs) : (Tg.nest i is).put (.tuple [d, .tuple ds]) env = match isLck (gC i env) with
    | true => none
    | false => tgGo is ds (env.set i (.frz d)) := by rw [← getD_gC]; rfl
@[simp] theorem put_many (is : List Nat) (ds : List PyData) (env : Cs) : (Tg.many is).put (.tuple ds) env = tgGo is ds env := rfl
@[simp] theorem tgGo_nil (env : Cs) : tgGo [] [] env = some env := rfl
@[simp] theorem tgGo_cons (i : Nat) (is : List Nat) (d : PyData) (ds : List PyData) (env : Cs) : tgGo (i :: is) (d :: ds) env = match isLck (gC i env) with
    | true => none
    | false => tgGo is ds (env.set i (.frz d)) := by
  show (match isLck (env.getD i .emp) with | true => none | false => tgGo is ds (env.set i (.frz d))) = _
  rw [getD_gC]

theorem ev_comp (g : Tg) (ci : CI) (ct : CT) (ce : CE) (vs : List Nat) (env : Cs) : cComp g ci ct ce vs env = match ci env with
    | .ok items env1 => match anyMineS env1 vs with
      | true => .no
      | false => match compL g ct ce vs items env1 with
        | .ok xs env2 => .ok (.own false (.list xs)) (backE env1 vs env2)
        | _ => .no
    | .ex x env1 => .ex x env1
    | .no => .no := rfl
@[simp] theorem anyMineS_nil (env : Cs) : anyMineS env [] = false := rfl
@[simp] theorem anyMineS_cons (env : Cs) (v : Nat) (vs : List Nat) : anyMineS env (v :: vs) = ((gC v env).mine || anyMineS env vs) := by
  show ((env.getD v .emp).mine || _) = _; rw [getD_gC]
@[simp] theorem backE_nil (env1 env : Cs) : backE env1 [] env = env := rfl
@[simp] theorem backE_cons (env1 env : Cs) (v : Nat) (vs : List Nat) : backE env1 (v :: vs) env = (backE env1 vs env).set v (gC v env1) := by
  show (backE env1 vs env).set v (env1.getD v .emp) = _; rw [getD_gC]
@[simp] theorem wipeE_nil (env : Cs) : wipeE env [] = env := rfl
@[simp] theorem wipeE_cons (env : Cs) (v : Nat) (vs : List Nat) : wipeE env (v :: vs) = (wipeE env vs).set v .emp := rfl

@[simp] theorem emps_0 : emps 0 = [] := rfl
@[simp] theorem emps_s (n : Nat) : emps (n + 1) = .emp :: emps n := rfl
structure RK (K : KS) (N : Prop) (R : Cell → Cs → Prop) (X : Exc → Prop) : Prop where
  nx : N → ∀ e, K.nx e
  rt : ∀ c e, R c e → K.rt c e
  ex : ∀ x e, X x → K.ex x e
theorem run_gen {n : Nat} {c : CS} {ds : List PyData} {P : FR → Prop} (h : ∀ K, RK K (P (.ok (.frz .none))) (fun c _ => P (.ok c.out)) (fun x => P (.ex x)) → (c (ds.map .frz ++ emps (n - ds.length))).sat K) : P (runDef n c ds) := by
  have h := h ⟨fun _ => P (.ok (.frz .none)), fun c _ => P (.ok c.out), fun _ => False, fun _ => False, fun x _ => P (.ex x)⟩ ⟨fun h _ => h, fun _ _ h => h, fun _ _ h => h⟩
  unfold runDef
  cases g : c (ds.map .frz ++ emps (n - ds.length)) with
  | nx e => rw [g] at h; exact h
  | rt c e => rw [g] at h; exact h
  | ex x e => rw [g] at h; exact h
  | _ => rw [g] at h; exact h.elim
theorem run_of {n : Nat} {c : CS} {ds : List PyData} {r : Cell} (h : ∀ K, RK K (r = .frz .none) (fun c _ => c.out = r) (fun _ => False) → (c (ds.map .frz ++ emps (n - ds.length))).sat K) : runDef n c ds = .ok r :=
  run_gen (P := fun x => x = .ok r) fun K k => h K ⟨fun q => k.nx (by rw [q]), fun c e q => k.rt c e (by rw [q]), fun _ _ q => q.elim⟩
theorem run_ex {n : Nat} {c : CS} {ds : List PyData} {P : Cell → Prop} (h : ∀ K, RK K (P (.frz .none)) (fun c _ => P c.out) (fun _ => False) → (c (ds.map .frz ++ emps (n - ds.length))).sat K) : ∃ r, runDef n c ds = .ok r ∧ P r :=
  run_gen (P := fun x => ∃ r, x = .ok r ∧ P r) fun K k => h K ⟨fun q => k.nx ⟨_, rfl, q⟩, fun c e q => k.rt c e ⟨_, rfl, q⟩, fun _ _ q => q.elim⟩
theorem run_raise {n : Nat} {c : CS} {ds : List PyData} {x : Exc} (h : ∀ K, RK K False (fun _ _ => False) (fun y => y = x) → (c (ds.map .frz ++ emps (n - ds.length))).sat K) : runDef n c ds = .ex x :=
  run_gen (P := fun y => y = .ex x) fun K k => h K ⟨fun q => q.elim, fun _ _ q => q.elim, fun y e q => k.ex y e (by rw [q])⟩
structure RKI (K : KS) (R : Cell → PyData → Prop) : Prop where
  nx : ∀ e d, gC 0 e = .own true d → R (.frz .none) d → K.nx e
  rt : ∀ c e d, gC 0 e = .own true d → R c.out d → K.rt c e
theorem runI_ex {n : Nat} {c : CS} {d : PyData} {ds : List PyData} {P : Cell → PyData → Prop} (h : ∀ K, RKI K P → (c (.own true d :: ds.map .frz ++ emps (n - (ds.length + 1)))).sat K) : ∃ r d', runDefI n c d ds = .ok r d' ∧ P r d' := by
  have h := h ⟨fun e => ∃ d, gC 0 e = .own true d ∧ P (.frz .none) d, fun c e => ∃ d, gC 0 e = .own true d ∧ P c.out d, fun _ => False, fun _ => False, fun _ _ => False⟩ ⟨fun e d a b => ⟨d, a, b⟩, fun c e d a b => ⟨d, a, b⟩⟩
  unfold runDefI
  cases g : c (.own true d :: ds.map .frz ++ emps (n - (ds.length + 1))) with
  | nx e => rw [g] at h; obtain ⟨d', h1, h2⟩ := h; dsimp only; rw [getD_gC, h1]; exact ⟨_, _, rfl, h2⟩
  | rt c e => rw [g] at h; obtain ⟨d', h1, h2⟩ := h; dsimp only; rw [getD_gC, h1]; exact ⟨_, _, rfl, h2⟩
  | _ => rw [g] at h; exact h.elim
theorem runI_of {n : Nat} {c : CS} {d : PyData} {ds : List PyData} {r : Cell} {d' : PyData} (h : ∀ K, RKI K (fun c x => c = r ∧ x = d') → (c (.own true d :: ds.map .frz ++ emps (n - (ds.length + 1)))).sat K) : runDefI n c d ds = .ok r d' := by
  obtain ⟨r1, d1, e, rfl, rfl⟩ := runI_ex h
  exact e

theorem lck_of_mine {c : Cell} (h : c.mine = false) : isLck c = false := by cases c <;> first | rfl | cases h
structure LK (K' : KS) (N B : Cs → Prop) (K : KS) : Prop where
  nx : ∀ e, N e → K'.nx e
  ct : ∀ e, N e → K'.ct e
  bk : ∀ e, B e → K'.bk e
  rt : ∀ c e, K.rt c e → K'.rt c e
  ex : ∀ x e, K.ex x e → K'.ex x e
theorem LK.self (K : KS) (N B : Cs → Prop) : LK ⟨N, K.rt, B, N, K.ex⟩ N B K := ⟨fun _ h => h, fun _ h => h, fun _ h => h, fun _ _ h => h, fun _ _ h => h⟩
theorem sat_for0 {α : Type} {f : α → PyData} {g : Tg} {body : CS} {K : KS} {B : Cs → Prop} (I : List α → Cs → Prop)
    (hs : ∀ x rest e, I (x :: rest) e → ∀ K', LK K' (I rest) B K → isO (g.put (f x) e) fun e1 => (body e1).sat K') (he : ∀ e, I [] e → B e) :
    ∀ {xs : List α} {env : Cs}, I xs env → (forL g body (xs.map f) env).sat { K with nx := B }
  | [], env, h => he env h
  | x :: xs, env, h => by
    obtain ⟨e1, p, b⟩ := isO_ex (hs x xs env h _ (LK.self K (I xs) B))
    show (forL g body (f x :: xs.map f) env).sat _
    unfold forL
    rw [p]; dsimp only
    cases q : body e1 with
    | nx e2 => rw [q] at b; exact sat_for0 I hs he b
    | ct e2 => rw [q] at b; exact sat_for0 I hs he b
    | bk e2 => rw [q] at b; exact b
    | rt c e2 => rw [q] at b; exact b
    | ex x e2 => rw [q] at b; exact b
    | no => rw [q] at b; exact b
theorem sat_forT {α : Type} {f : α → PyData} {g : Tg} {body d : CS} {K : KS} {xs : List α} {env : Cs} (I : List α → Cs → Prop) (h0 : I xs env)
    (hs : ∀ x rest e, I (x :: rest) e → ∀ K', LK K' (I rest) (fun e => (d e).sat K) K → isO (g.put (f x) e) fun e1 => (body e1).sat K') (he : ∀ e, I [] e → (d e).sat K) :
    ((forL g body (xs.map f) env).then d).sat K := sat_then (sat_for0 (B := fun e => (d e).sat K) I hs he h0)
@[simp] theorem ev_forO (i : Nat) (g : Tg) (body : CS) (env : Cs) : cForO i g body env = match g.slots.contains i with
    | true => .no
    | false => match gC i env with
      | .frz d => match seqOf d with
        | some ds => forL g body ds env
        | none => .no
      | .own b (.list ds) => openR i (.own b (.list ds)) (forL g body ds (env.set i (.lck (.list ds))))
      | .lck (.list ds) => forL g body ds env
      | _ => .no := by
  unfold cForO
  cases g.slots.contains i with
  | true => rfl
  | false =>
    dsimp only
    rw [getD_gC] <;> (cases gC i env with
      | own b d => cases d <;> rfl
      | lck d => cases d <;> rfl
      | _ => rfl)
@[simp] theorem slots_one (i : Nat) : (Tg.one i).slots = [i] := rfl
@[simp] theorem slots_nest (i : Nat) (is : List Nat) : (Tg.nest i is).slots = i :: is := rfl
@[simp] theorem slots_many (is : List Nat) : (Tg.many is).slots = is := rfl
def KS.open (K : KS) (i : Nat) (c : Cell) : KS := ⟨fun e => K.nx (e.set i c), fun r e => K.rt r (e.set i c), fun e => K.bk (e.set i c), fun e => K.ct (e.set i c), fun x e => K.ex x (e.set i c)⟩
@[simp] theorem open_rt (K : KS) (i : Nat) (c r : Cell) (e : Cs) : (K.open i c).rt r e = K.rt r (e.set i c) := rfl

theorem compL_run {α : Type} {f : α → PyData} {g : Tg} {ct : CT} {ce : CE} {vs : List Nat} (p : α → Bool) (h : α → PyData) (J : List α → Cs → Prop)
    (hs : ∀ x rest e, J (x :: rest) e → ∃ e1 e2, g.put (f x) (wipeE e vs) = some e1 ∧ ct e1 = .ok (p x) e2 ∧ (p x = true → ∃ c e3, ce e2 = .ok c e3 ∧ c.val = some (h x) ∧ J rest e3) ∧ (p x = false → J rest e2)) :
    ∀ {xs : List α} {env : Cs}, J xs env → ∃ e', compL g ct ce vs (xs.map f) env = .ok ((xs.filter p).map h) e' ∧ J [] e'
  | [], env, j => ⟨env, rfl, j⟩
  | x :: xs, env, j => by
    obtain ⟨e1, e2, p1, p2, p3, p4⟩ := hs x xs env j
    show ∃ e', compL g ct ce vs (f x :: xs.map f) env = _ ∧ _
    unfold compL
    rw [p1]; dsimp only; rw [p2]
    cases q : p x with
    | true =>
      obtain ⟨c, e3, q1, q2, q3⟩ := p3 q
      obtain ⟨e', r1, r2⟩ := compL_run p h J hs q3
      refine ⟨e', ?_, r2⟩
      dsimp only; rw [q1]; dsimp only; rw [q2]; dsimp only; rw [r1]
      simp [List.filter_cons, q]
    | false =>
      obtain ⟨e', r1, r2⟩ := compL_run p h J hs (p4 q)
      refine ⟨e', ?_, r2⟩
      dsimp only; rw [r1]
      simp [List.filter_cons, q]
theorem compL_inv {α : Type} {f : α → PyData} {g : Tg} {ct : CT} {ce : CE} {vs : List Nat} (J : List α → List PyData → Cs → Prop)
    (hs : ∀ x rest acc e, J (x :: rest) acc e → ∃ e1 t e2, g.put (f x) (wipeE e vs) = some e1 ∧ ct e1 = .ok t e2 ∧ (t = true → ∃ c e3 d, ce e2 = .ok c e3 ∧ c.val = some d ∧ J rest (acc ++ [d]) e3) ∧ (t = false → J rest acc e2)) :
    ∀ {xs : List α} {acc : List PyData} {env : Cs}, J xs acc env → ∃ ds e', compL g ct ce vs (xs.map f) env = .ok ds e' ∧ J [] (acc ++ ds) e'
  | [], acc, env, j => ⟨[], env, rfl, by rw [List.append_nil]; exact j⟩
  | x :: xs, acc, env, j => by
    obtain ⟨e1, t, e2, p1, p2, p3, p4⟩ := hs x xs acc env j
    show ∃ ds e', compL g ct ce vs (f x :: xs.map f) env = _ ∧ _
    unfold compL
    rw [p1]; dsimp only; rw [p2]
    cases t with
    | true =>
      obtain ⟨c, e3, d, q1, q2, q3⟩ := p3 rfl
      obtain ⟨ds, e', r1, r2⟩ := compL_inv J hs q3
      refine ⟨d :: ds, e', ?_, by rw [List.append_cons]; exact r2⟩
      dsimp only; rw [q1]; dsimp only; rw [q2]; dsimp only; rw [r1]
    | false =>
      obtain ⟨ds, e', r1, r2⟩ := compL_inv J hs (p4 rfl)
      refine ⟨ds, e', ?_, r2⟩
      dsimp only; rw [r1]
theorem comp_inv {α : Type} {f : α → PyData} {g : Tg} {ci : CI} {ct : CT} {ce : CE} {vs : List Nat} {env env1 : Cs} {xs : List α} {r : Res Cell} (hr : cComp g ci ct ce vs env = r) (J : List α → List PyData → Cs → Prop) (hci : ci env = .ok (xs.map f) env1) (hm : anyMineS env1 vs = false) (h0 : J xs [] env1)
    (hs : ∀ x rest acc e, J (x :: rest) acc e → ∀ (Y : PyData → Cs → Prop) (Z : Cs → Prop), (∀ d e3, J rest (acc ++ [d]) e3 → Y d e3) → (∀ e2, J rest acc e2 → Z e2) → isO (g.put (f x) (wipeE e vs)) fun e1 => (ct e1).is fun t e2 => (t = true → (ce e2).is fun c e3 => isO c.val fun d => Y d e3) ∧ (t = false → Z e2)) :
    ∃ ds e', r = .ok (.own false (.list ds)) (backE env1 vs e') ∧ J [] ds e' := by
  obtain ⟨ds, e', r1, r2⟩ := compL_inv J (fun x rest acc e hj => by
    obtain ⟨e1, p1, b⟩ := isO_ex (hs x rest acc e hj (fun d e3 => J rest (acc ++ [d]) e3) (fun e2 => J rest acc e2) (fun _ _ h => h) (fun _ h => h))
    obtain ⟨t, e2, p2, b1, b2⟩ := is_ex1 b
    refine ⟨e1, t, e2, p1, p2, fun q => ?_, b2⟩
    obtain ⟨c, e3, p3, b3⟩ := is_ex1 (b1 q)
    obtain ⟨d, p4, b4⟩ := isO_ex b3
    exact ⟨c, e3, d, p3, p4, b4⟩) h0
  refine ⟨ds, e', ?_, r2⟩
  rw [← hr, ev_comp, hci]; dsimp only; rw [hm]; dsimp only; rw [r1]
theorem set_back {env : Cs} {v : Nat} {j : Cell} (hv : v < env.length) : (env.set v j).set v (gC v env) = env := by
  rw [List.set_set, ← getD_gC, List.getD_eq_getElem?_getD, List.getElem?_eq_getElem hv]
  simp
theorem set_back_get {env : Cs} {v : Nat} {j : Cell} (hv : v < env.length) : (env.set v j).set v (env.getD v .emp) = env := by
  rw [getD_gC, set_back hv]
theorem comp_key {α : Type} {f : α → PyData} {v : Nat} {ct : CT} {ce : CE} {env : Cs} {xs : List α} (p : α → Bool) (h : α → PyData) (hv : v < env.length)
    (hs : ∀ x ∈ xs, ct (env.set v (.frz (f x))) = .ok (p x) (env.set v (.frz (f x))) ∧ (p x = true → (ce (env.set v (.frz (f x)))).is fun c e' => c.val = some (h x) ∧ ∃ j, e' = env.set v j)) :
    ∃ j, compL (.one v) ct ce [v] (xs.map f) env = .ok ((xs.filter p).map h) (env.set v j) := by
  have key := compL_run (g := .one v) (vs := [v]) (ct := ct) (ce := ce) (f := f) p h (fun rest e => (∃ j, e = env.set v j) ∧ ∀ x ∈ rest, x ∈ xs) (fun x rest e hj => by
    obtain ⟨⟨j, rfl⟩, hr⟩ := hj
    obtain ⟨s1, s2⟩ := hs x (hr x List.mem_cons_self)
    refine ⟨env.set v (.frz (f x)), env.set v (.frz (f x)), ?_, s1, fun q => ?_, fun _ => ⟨⟨_, rfl⟩, fun y hy => hr y (List.mem_cons_of_mem _ hy)⟩⟩
    · have e1 : wipeE (env.set v j) [v] = env.set v .emp := by
        show (env.set v j).set v .emp = _
        rw [List.set_set]
      rw [e1, put_one]
      have e2 : gC v (env.set v .emp) = .emp := by rw [← getD_gC, List.getD_eq_getElem?_getD, List.getElem?_set_self hv]; rfl
      rw [e2, lck_emp]
      dsimp only
      rw [List.set_set]
    · obtain ⟨c, e', q1, q2, j, rfl⟩ := is_ex1 (s2 q)
      exact ⟨c, _, q1, q2, ⟨_, rfl⟩, fun y hy => hr y (List.mem_cons_of_mem _ hy)⟩) (xs := xs) (env := env)
  obtain ⟨e', r1, ⟨j, rfl⟩, _⟩ := key ⟨⟨gC v env, by rw [← getD_gC, List.getD_eq_getElem?_getD, List.getElem?_eq_getElem hv]; simp⟩, fun x h => h⟩
  exact ⟨j, r1⟩
theorem comp1 {α : Type} {f : α → PyData} {v : Nat} {ci : CI} {ct : CT} {ce : CE} {env : Cs} {xs : List α} (p : α → Bool) (h : α → PyData)
    (hci : ci env = .ok (xs.map f) env) (hv : v < env.length) (hm : (gC v env).mine = false)
    (hs : ∀ x ∈ xs, ct (env.set v (.frz (f x))) = .ok (p x) (env.set v (.frz (f x))) ∧ (p x = true → (ce (env.set v (.frz (f x)))).is fun c e' => c.val = some (h x) ∧ ∃ j, e' = env.set v j)) :
    cComp (.one v) ci ct ce [v] env = .ok (.own false (.list ((xs.filter p).map h))) env := by
  obtain ⟨j, r1⟩ := comp_key p h hv hs
  unfold cComp
  rw [hci]; dsimp only
  have e3 : anyMineS env [v] = false := by
    show ((env.getD v .emp).mine || false) = false
    rw [getD_gC, hm]; rfl
  rw [e3]; dsimp only; rw [r1]
  show Res.ok _ ((env.set v j).set v (env.getD v .emp)) = _
  rw [getD_gC, set_back hv]
theorem compO_own {α : Type} {f : α → PyData} {i v : Nat} {ct : CT} {ce : CE} {env : Cs} {xs : List α} {b : Bool} (p : α → Bool) (h : α → PyData)
    (hi : gC i env = .own b (.list (xs.map f))) (hv : v < env.length) (hm : (gC v env).mine = false) (hne : i ≠ v)
    (hs : ∀ x ∈ xs, ct ((env.set i (.lck (.list (xs.map f)))).set v (.frz (f x))) = .ok (p x) ((env.set i (.lck (.list (xs.map f)))).set v (.frz (f x))) ∧ (p x = true → (ce ((env.set i (.lck (.list (xs.map f)))).set v (.frz (f x)))).is fun c e' => c.val = some (h x) ∧ ∃ j, e' = (env.set i (.lck (.list (xs.map f)))).set v j)) :
    cCompO i (.one v) ct ce [v] env = .ok (.own false (.list ((xs.filter p).map h))) env := by
  have e3 : (anyMineS env [v] || [v].contains i) = false := by
    show ((env.getD v .emp).mine || false || [v].contains i) = false
    rw [getD_gC, hm]; simp [hne]
  have hil : i < env.length := by
    apply Classical.byContradiction; intro z
    rw [← getD_gC, List.getD_eq_getElem?_getD, List.getElem?_eq_none (by omega)] at hi
    cases hi
  unfold cCompO
  rw [e3]; dsimp only; rw [getD_gC, hi]; dsimp only
  obtain ⟨j, r1⟩ := comp_key (env := env.set i (.lck (.list (xs.map f)))) p h (by rw [List.length_set]; exact hv) hs
  rw [r1]; dsimp only
  congr 1
  show ((((env.set i _).set v j).set v ((env.set i _).getD v .emp)).set i _) = env
  rw [set_back_get]
  · rw [List.set_set, ← hi, ← getD_gC, List.getD_eq_getElem?_getD, List.getElem?_eq_getElem hil]; simp
  · rw [List.length_set]; exact hv
theorem compO_ro {α : Type} {f : α → PyData} {i v : Nat} {ct : CT} {ce : CE} {env : Cs} {xs : List α} (p : α → Bool) (h : α → PyData)
    (hi : gC i env = .frz (.list (xs.map f)) ∨ gC i env = .frz (.tuple (xs.map f)) ∨ gC i env = .lck (.list (xs.map f))) (hv : v < env.length) (hm : (gC v env).mine = false) (hne : i ≠ v)
    (hs : ∀ x ∈ xs, ct (env.set v (.frz (f x))) = .ok (p x) (env.set v (.frz (f x))) ∧ (p x = true → (ce (env.set v (.frz (f x)))).is fun c e' => c.val = some (h x) ∧ ∃ j, e' = env.set v j)) :
    cCompO i (.one v) ct ce [v] env = .ok (.own false (.list ((xs.filter p).map h))) env := by
  have e3 : (anyMineS env [v] || [v].contains i) = false := by
    show ((env.getD v .emp).mine || false || [v].contains i) = false
    rw [getD_gC, hm]; simp [hne]
  obtain ⟨j, r1⟩ := comp_key (env := env) p h hv hs
  unfold cCompO
  rw [e3]; dsimp only; rw [getD_gC]
  rcases hi with hi | hi | hi <;> rw [hi] <;> simp only [seqOf] <;> rw [r1] <;> dsimp only <;> congr 1 <;> exact set_back_get hv
end DL

namespace DL
open PySem L2

def nD (n : Nat) : PyData := .int n
@[simp] theorem nD_eq (n : Nat) : nD n = PyData.int (n : Int) := rfl
def laD (l : List Nat) : PyData := .tuple (l.map nD)
def liD (l : List Nat) : PyData := .list (l.map nD)
@[simp] theorem oAdd_int (i j : Int) : oAdd (.int i) (.int j) = .val (.frz (.int (i + j))) := rfl
@[simp] theorem oAdd_list (a b : List PyData) : oAdd (.list a) (.list b) = if a.length + b.length ≤ lim then .val (.own false (.list (a ++ b))) else .no := rfl
@[simp] theorem oAdd_tuple (a b : List PyData) : oAdd (.tuple a) (.tuple b) = if a.length + b.length ≤ lim then .val (.frz (.tuple (a ++ b))) else .no := rfl
@[simp] theorem oAdd_str (a b : Str) : oAdd (.str a) (.str b) = if a.length + b.length ≤ lim then .val (.frz (.str (a ++ b))) else .no := rfl
@[simp] theorem oAdd_la (a b : List Nat) : oAdd (laD a) (laD b) = if a.length + b.length ≤ lim then .val (.frz (laD (a ++ b))) else .no := by
  show oAdd (.tuple (a.map nD)) (.tuple (b.map nD)) = _
  rw [oAdd_tuple, List.length_map, List.length_map, ← List.map_append]; rfl
@[simp] theorem oAdd_la1 (a : List Nat) (n : Nat) : oAdd (laD a) (.tuple [.int (n : Int)]) = if a.length + 1 ≤ lim then .val (.frz (laD (a ++ [n]))) else .no := oAdd_la a [n]
@[simp] theorem oSub_int (i j : Int) : oSub (.int i) (.int j) = .val (.frz (.int (i - j))) := rfl
@[simp] theorem oMul_int (i j : Int) : oMul (.int i) (.int j) = if small i || small j then .val (.frz (.int (i * j))) else .no := rfl
@[simp] theorem oFdiv_int (i j : Int) : oFdiv (.int i) (.int j) = if 0 < j ∧ j < 1073741824 then .val (.frz (.int (i / j))) else .no := rfl
@[simp] theorem oMod_int (i j : Int) : oMod (.int i) (.int j) = if 0 < j then .val (.frz (.int (i % j))) else .no := rfl
@[simp] theorem oCmp_int (p : Int → Int → Bool) (i j : Int) : oCmp p (.int i) (.int j) = .val (.frz (.bool (p i j))) := rfl
@[simp] theorem oLen_list (ds : List PyData) : oLen [.list ds] = .val (.frz (.int ds.length)) := rfl
@[simp] theorem oLen_tuple (ds : List PyData) : oLen [.tuple ds] = .val (.frz (.int ds.length)) := rfl
@[simp] theorem oLen_scr (ds : List PyData) : oLen [.dict [(.none, .list ds)]] = .val (.frz (.int ds.length)) := rfl
@[simp] theorem oList_list (ds : List PyData) : oList [.list ds] = .val (.own false (.list ds)) := rfl
@[simp] theorem oList_tuple (ds : List PyData) : oList [.tuple ds] = .val (.own false (.list ds)) := rfl
@[simp] theorem oTuple_list (ds : List PyData) : oTuple [.list ds] = .val (.frz (.tuple ds)) := rfl
@[simp] theorem oTuple_tuple (ds : List PyData) : oTuple [.tuple ds] = .val (.frz (.tuple ds)) := rfl
@[simp] theorem oMax2_int (i j : Int) : oMax2 [.int i, .int j] = .val (.frz (.int (if j > i then j else i))) := rfl
@[simp] theorem oMin2_int (i j : Int) : oMin2 [.int i, .int j] = .val (.frz (.int (if j < i then j else i))) := rfl
@[simp] theorem oAbs_int (i : Int) : oAbs [.int i] = .val (.frz (.int (if i < 0 then -i else i))) := rfl
@[simp] theorem oDivmod_int (i j : Int) : oDivmod [.int i, .int j] = if 0 < j ∧ j < 1073741824 then .val (.frz (.tuple [.int (i / j), .int (i % j)])) else .no := rfl
@[simp] theorem oInt_int (i : Int) : oInt [.int i] = .val (.frz (.int i)) := rfl
@[simp] theorem oInt_bool (b : Bool) : oInt [.bool b] = .val (.frz (.int (if b then 1 else 0))) := rfl
@[simp] theorem oIx_list (ds : List PyData) (i : Int) : oIx (.list ds) (.int i) = match atI ds i with
    | some d => .val (.frz d)
    | none => .no := rfl
@[simp] theorem oIx_tuple (ds : List PyData) (i : Int) : oIx (.tuple ds) (.int i) = match atI ds i with
    | some d => .val (.frz d)
    | none => .no := rfl
@[simp] theorem oIx_scr (ds : List PyData) (i : Int) : oIx (.dict [(.none, .list ds)]) (.int i) = match atI ds i with
    | some d => .val (.frz d)
    | none => .no := rfl
theorem atI_nat {α : Type} (ds : List α) (n : Nat) : atI ds (n : Int) = ds[n]? := by
  unfold atI ixN
  have h0 : (0 : Int) ≤ (n : Int) := Int.natCast_nonneg n
  rw [if_pos h0]
  by_cases h : (n : Int) < (ds.length : Int)
  · rw [if_pos h]; rfl
  · rw [if_neg h, List.getElem?_eq_none (by omega)]; rfl
@[simp] theorem atI_map {α : Type} (f : α → PyData) (xs : List α) (i : Int) : atI (xs.map f) i = (atI xs i).map f := by
  unfold atI
  rw [List.length_map]
  cases ixN xs.length i with
  | none => rfl
  | some j => show (xs.map f)[j]? = (xs[j]?).map f; rw [List.getElem?_map]
@[simp] theorem mAppend_list (ds : List PyData) (d : PyData) : mAppend (.list ds) [d] = if ds.length < lim then .ok (.frz .none) (.list (ds ++ [d])) else .no := rfl
@[simp] theorem mExtend_list (ds es : List PyData) : mExtend (.list ds) [.list es] = if ds.length + es.length ≤ lim then .ok (.frz .none) (.list (ds ++ es)) else .no := rfl
@[simp] theorem mExtend_tuple (ds es : List PyData) : mExtend (.list ds) [.tuple es] = if ds.length + es.length ≤ lim then .ok (.frz .none) (.list (ds ++ es)) else .no := rfl
@[simp] theorem mClear_list (ds : List PyData) : mClear (.list ds) [] = .ok (.frz .none) (.list []) := rfl
@[simp] theorem pev_none (env : Cs) : POp.ev .none env = .ok Option.none env := rfl
@[simp] theorem pev_some (o : Opd) (env : Cs) : POp.ev (.some o) env = (o.ev env).bind fun l env1 => match l.get env1 with
    | Option.some (.int i) => .ok (Option.some i) env1
    | _ => .no := rfl
@[simp] theorem ev_sl (o : Opd) (lo hi : POp) (env : Cs) : cSl o lo hi env = (o.ev env).bind fun l env1 => (lo.ev env1).bind fun ll env2 => (hi.ev env2).bind fun lh env3 => match l.get env3 with
    | some d => (oSl d ll lh).fin env3
    | _ => .no := rfl
@[simp] theorem oSl_list (ds : List PyData) (lo hi : Option Int) : oSl (.list ds) lo hi = .val (.own false (.list (cutD ds lo hi))) := rfl
@[simp] theorem oSl_tuple (ds : List PyData) (lo hi : Option Int) : oSl (.tuple ds) lo hi = .val (.frz (.tuple (cutD ds lo hi))) := rfl
def cutL {α : Type} (ds : List α) (lo hi : Option Int) : List α := (ds.drop (HT.sIx ds.length 0 lo)).take (HT.sIx ds.length ds.length hi - HT.sIx ds.length 0 lo)
@[simp] theorem cutD_map {α : Type} (f : α → PyData) (xs : List α) (lo hi : Option Int) : cutD (xs.map f) lo hi = (cutL xs lo hi).map f := by
  unfold cutD cutL; rw [List.length_map, List.map_take, List.map_drop]
theorem cutL_take {α : Type} (ds : List α) (n : Nat) : cutL ds none (some (n : Int)) = ds.take n := by
  unfold cutL
  rw [HT.sIx_none, HT.sIx_nat, List.drop_zero, Nat.sub_zero, ← List.take_take, List.take_length]
theorem cutL_drop {α : Type} (ds : List α) (n : Nat) : cutL ds (some (n : Int)) none = ds.drop n := by
  unfold cutL
  rw [HT.sIx_none, HT.sIx_nat]
  by_cases h : n ≤ ds.length
  · rw [Nat.min_eq_left h, List.take_of_length_le]; rw [List.length_drop]; omega
  · rw [List.drop_of_length_le (by omega), List.drop_of_length_le (by omega), List.take_nil]
@[simp] theorem isT_list (ds : List PyData) : isT "list" (.list ds) = true := rfl
@[simp] theorem seqOf_list (ds : List PyData) : seqOf (.list ds) = some ds := rfl
@[simp] theorem seqOf_tuple (ds : List PyData) : seqOf (.tuple ds) = some ds := rfl
@[simp] theorem rg1_int (n : Int) : rg1 [.int n] = if -1000000 ≤ n ∧ n ≤ 1000000 then some (rgD 0 n.toNat) else none := rfl
@[simp] theorem rg2_int (a n : Int) : rg2 [.int a, .int n] = if (-1000000 ≤ a ∧ a ≤ 1000000) ∧ -1000000 ≤ n ∧ n ≤ 1000000 then some (rgD a (n - a).toNat) else none := rfl
@[simp] theorem rg3_int (a b c : Int) : rg3 [.int a, .int b, .int c] = if c = -1 ∧ (-1000000 ≤ a ∧ a ≤ 1000000) ∧ -1000000 ≤ b ∧ b ≤ 1000000 then some (rgDown a (a - b).toNat) else none := rfl
theorem rgD0 (n : Nat) : rgD 0 n = (List.range n).map nD := by
  unfold rgD; apply List.map_congr_left; intro i _; show PyData.int (0 + (i : Int)) = .int i; rw [Int.zero_add]
class EncOk {α : Type} [DecidableEq α] (f : α → PyData) : Prop where
  eqv : ∀ a b, PyData.eqv (f a) (f b) = decide (a = b)
  lay : ∀ a, (f a).canLay0 = true
  dpt : ∀ a, (f a).depth ≤ 8
section
variable {α : Type} [DecidableEq α] {f : α → PyData} [EncOk f]
theorem eqvAll_map : ∀ a b : List α, PyData.eqvAll (a.map f) (b.map f) = decide (a = b)
  | [], [] => by simp [PyData.eqvAll]
  | x :: a, [] => by simp [PyData.eqvAll]
  | [], y :: b => by simp [PyData.eqvAll]
  | x :: a, y :: b => by simp [PyData.eqvAll, eqvAll_map a b, EncOk.eqv (f := f)]
theorem layAll_map : ∀ a : List α, PyData.canLayAll0 (a.map f) = true
  | [] => by simp [PyData.canLayAll0]
  | x :: a => by simp [PyData.canLayAll0, EncOk.lay (f := f) x, layAll_map a]
theorem depAll_map : ∀ a : List α, PyData.depthAll (a.map f) ≤ 8
  | [] => by simp [PyData.depthAll]
  | x :: a => by
    have h1 := EncOk.dpt (f := f) x
    have h2 := depAll_map a
    simp only [List.map_cons, PyData.depthAll]; omega
@[simp] theorem shp_listM (a : List α) : shp (.list (a.map f)) = true := by
  have h1 := depAll_map (f := f) a
  unfold shp SeqAt.shaped
  simp [PyData.canLay0, PyData.depth, layAll_map (f := f) a]; omega
@[simp] theorem shp_tupleM (a : List α) : shp (.tuple (a.map f)) = true := by
  have h1 := depAll_map (f := f) a
  unfold shp SeqAt.shaped
  simp [PyData.canLay0, PyData.depth, layAll_map (f := f) a]; omega
@[simp] theorem shp_nilL : shp (.list []) = true := by decide
@[simp] theorem shp_nilT : shp (.tuple []) = true := by decide
@[simp] theorem oEq_listM (a b : List α) : oEq (.list (a.map f)) (.list (b.map f)) = .val (.frz (.bool (decide (a = b)))) := by
  unfold oEq oEqD; simp [PyData.eqv, eqvAll_map (f := f)]
@[simp] theorem oEq_tupleM (a b : List α) : oEq (.tuple (a.map f)) (.tuple (b.map f)) = .val (.frz (.bool (decide (a = b)))) := by
  unfold oEq oEqD; simp [PyData.eqv, eqvAll_map (f := f)]
@[simp] theorem oNe_listM (a b : List α) : oNe (.list (a.map f)) (.list (b.map f)) = .val (.frz (.bool (!decide (a = b)))) := by
  unfold oNe oEqD; simp [PyData.eqv, eqvAll_map (f := f)]
@[simp] theorem oNe_tupleM (a b : List α) : oNe (.tuple (a.map f)) (.tuple (b.map f)) = .val (.frz (.bool (!decide (a = b)))) := by
  unfold oNe oEqD; simp [PyData.eqv, eqvAll_map (f := f)]
theorem eqvAll_nil (a : List α) : PyData.eqvAll (a.map f) [] = decide (a = []) := by cases a <;> simp [PyData.eqvAll]
@[simp] theorem oEq_listN (a : List α) : oEq (.list (a.map f)) (.list []) = .val (.frz (.bool (decide (a = [])))) := by
  unfold oEq oEqD; simp [PyData.eqv, eqvAll_nil (f := f)]
@[simp] theorem oEq_tupleN (a : List α) : oEq (.tuple (a.map f)) (.tuple []) = .val (.frz (.bool (decide (a = [])))) := by
  unfold oEq oEqD; simp [PyData.eqv, eqvAll_nil (f := f)]
@[simp] theorem oNe_listN (a : List α) : oNe (.list (a.map f)) (.list []) = .val (.frz (.bool (!decide (a = [])))) := by
  unfold oNe oEqD; simp [PyData.eqv, eqvAll_nil (f := f)]
@[simp] theorem oNe_tupleN (a : List α) : oNe (.tuple (a.map f)) (.tuple []) = .val (.frz (.bool (!decide (a = [])))) := by
  unfold oNe oEqD; simp [PyData.eqv, eqvAll_nil (f := f)]
end
@[simp] theorem oEq_nilL : oEq (.list []) (.list []) = .val (.frz (.bool true)) := rfl
@[simp] theorem oNe_nilL : oNe (.list []) (.list []) = .val (.frz (.bool false)) := rfl
@[simp] theorem oEq_nilT : oEq (.tuple []) (.tuple []) = .val (.frz (.bool true)) := rfl
@[simp] theorem oNe_nilT : oNe (.tuple []) (.tuple []) = .val (.frz (.bool false)) := rfl
@[simp] theorem oEq_int (i j : Int) : oEq (.int i) (.int j) = .val (.frz (.bool (decide (i = j)))) := by
  unfold oEq oEqD; simp only [strD_int]; rw [show shp (.int i) = true from rfl, show shp (.int j) = true from rfl]; simp [PyData.eqv]; rfl
@[simp] theorem oNe_int (i j : Int) : oNe (.int i) (.int j) = .val (.frz (.bool (!decide (i = j)))) := by
  unfold oNe oEqD; simp only [strD_int]; rw [show shp (.int i) = true from rfl, show shp (.int j) = true from rfl]; simp [PyData.eqv]; rfl
@[simp] theorem oEq_bool (i j : Bool) : oEq (.bool i) (.bool j) = .val (.frz (.bool (i == j))) := by
  unfold oEq oEqD; simp only [strD_bool]; rw [show shp (.bool i) = true from rfl, show shp (.bool j) = true from rfl]; simp [PyData.eqv]
@[simp] theorem oNe_bool (i j : Bool) : oNe (.bool i) (.bool j) = .val (.frz (.bool (!(i == j)))) := by
  unfold oNe oEqD; simp only [strD_bool]; rw [show shp (.bool i) = true from rfl, show shp (.bool j) = true from rfl]; simp [PyData.eqv]
instance : EncOk nD where
  eqv a b := by simp [PyData.eqv]; rw [Bool.eq_iff_iff]; simp; omega
  lay a := rfl
  dpt a := by simp [PyData.depth]
def netD (t : List (List Nat)) : PyData := .tuple (t.map laD)
instance : EncOk laD where
  eqv a b := by show PyData.eqv (.tuple (a.map nD)) (.tuple (b.map nD)) = _; simp only [PyData.eqv, eqvAll_map (f := nD)]
  lay a := by show PyData.canLay0 (.tuple (a.map nD)) = true; simp only [PyData.canLay0, layAll_map (f := nD)]
  dpt a := by
    show PyData.depth (.tuple (a.map nD)) ≤ 8
    have : ∀ a : List Nat, PyData.depthAll (a.map nD) = 0 := fun a => by
      induction a with
      | nil => rfl
      | cons x a ih => simp only [List.map_cons, PyData.depthAll, ih]; rfl
    simp only [PyData.depth, this]; omega
@[simp] theorem oLen_net (t : List (List Nat)) : oLen [netD t] = .val (.frz (.int t.length)) := by show oLen [.tuple (t.map laD)] = _; simp
@[simp] theorem oLen_la (t : List Nat) : oLen [laD t] = .val (.frz (.int t.length)) := by show oLen [.tuple (t.map nD)] = _; simp
@[simp] theorem oLen_li (t : List Nat) : oLen [liD t] = .val (.frz (.int t.length)) := by show oLen [.list (t.map nD)] = _; simp
@[simp] theorem oIx_net (t : List (List Nat)) (i : Int) : oIx (netD t) (.int i) = match atI t i with
    | some l => .val (.frz (laD l))
    | none => .no := by
  show oIx (.tuple (t.map laD)) (.int i) = _; simp; cases atI t i <;> rfl
@[simp] theorem oIx_la (t : List Nat) (i : Int) : oIx (laD t) (.int i) = match atI t i with
    | some l => .val (.frz (nD l))
    | none => .no := by
  show oIx (.tuple (t.map nD)) (.int i) = _; simp; cases atI t i <;> rfl
@[simp] theorem seqOf_net (t : List (List Nat)) : seqOf (netD t) = some (t.map laD) := rfl
@[simp] theorem seqOf_la (t : List Nat) : seqOf (laD t) = some (t.map nD) := rfl
@[simp] theorem seqOf_li (t : List Nat) : seqOf (liD t) = some (t.map nD) := rfl
@[simp] theorem filterT {α : Type} (l : List α) : l.filter (fun _ => true) = l := by induction l with | nil => rfl | cons x l ih => simp [List.filter_cons, ih]
@[simp] theorem ev_rg1 (k : List PyData → OR) (o : Opd) (env : Cs) : cRg1 k o env = (o.ev env).bind fun l env1 => match l.get env1 with
  | some (.int n) => if -1000000 ≤ n ∧ n ≤ 1000000 then (k (rgL 0 n)).fin env1 else .no
  | _ => .no := rfl
@[simp] theorem flat_int (i : Int) : flatD (.int i) = true := rfl
@[simp] theorem flats_nD (l : List Nat) : (l.map nD).all flatD = true := by simp
@[simp] theorem has_nD (n : Nat) (l : List Nat) : hasD (.int (n : Int)) (l.map nD) = l.contains n := by
  unfold hasD
  induction l with
  | nil => rfl
  | cons x l ih =>
    rw [List.map_cons, List.any_cons, ih, List.contains_cons]
    congr 1
    simp [PyData.eqv]; rw [Bool.eq_iff_iff]; simp; omega
@[simp] theorem oIn_tuple (neg : Bool) (n : Nat) (l : List Nat) : oIn neg (.int (n : Int)) (.tuple (l.map nD)) = .val (.frz (.bool (if neg then !l.contains n else l.contains n))) := by
  unfold oIn; simp only [flat_int, flats_nD, has_nD]; rfl
@[simp] theorem oIn_list (neg : Bool) (n : Nat) (l : List Nat) : oIn neg (.int (n : Int)) (.list (l.map nD)) = .val (.frz (.bool (if neg then !l.contains n else l.contains n))) := by
  unfold oIn; simp only [flat_int, flats_nD, has_nD]; rfl
theorem boolsOf_map {α : Type} (p : α → Bool) : ∀ l : List α, boolsOf (l.map fun x => PyData.bool (p x)) = some (l.map p)
  | [] => rfl
  | x :: l => by rw [List.map_cons, List.map_cons]; unfold boolsOf; simp [boolsOf_map p l]
@[simp] theorem oAll_map {α : Type} (p : α → Bool) (l : List α) : oAll [.list (l.map fun x => PyData.bool (p x))] = .val (.frz (.bool (l.all p))) := by
  unfold oAll onBools; simp [boolsOf_map p l]
@[simp] theorem oAny_map {α : Type} (p : α → Bool) (l : List α) : oAny [.list (l.map fun x => PyData.bool (p x))] = .val (.frz (.bool (l.any p))) := by
  unfold oAny onBools; simp [boolsOf_map p l]
theorem small_of {i : Int} (h0 : 0 ≤ i) (h1 : i < 18446744073709551616) : small i = true := by
  unfold small; simp; omega
@[simp] theorem noLists_nil : noLists [] = true := rfl
@[simp] theorem noLists_nD (l : List Nat) : noLists (l.map nD) = true := by
  induction l with
  | nil => rfl
  | cons x l ih => rw [List.map_cons, noLists, ih]; rfl
@[simp] theorem noList_laD (l : List Nat) : noList (laD l) = true := noLists_nD l
@[simp] theorem noLists_laD (l : List (List Nat)) : noLists (l.map laD) = true := by
  induction l with
  | nil => rfl
  | cons x l ih => rw [List.map_cons, noLists, ih, noList_laD]; rfl
@[simp] theorem low_frzI (i : Int) : lowC (.frz (.int i)) = true := rfl
@[simp] theorem low_frzB (i : Bool) : lowC (.frz (.bool i)) = true := rfl
@[simp] theorem low_frzN : lowC (.frz .none) = true := rfl
@[simp] theorem low_frzS (i : Str) : lowC (.frz (.str i)) = true := rfl
@[simp] theorem low_tup (ds : List PyData) : lowC (.frz (.tuple ds)) = noLists ds := rfl
@[simp] theorem low_ownL (b : Bool) (ds : List PyData) : lowC (.own b (.list ds)) = noLists ds := rfl
@[simp] theorem low_frzL (ds : List PyData) : lowC (.frz (.list ds)) = false := rfl
end DL

namespace DL
open PySem L2
def c__law_cell : CS := (cSeq (cIfS (toT (cOp2 oLt (.nm 1) (.ex (cOpN oLen [(.nm 0)])))) (cRet (cOp2 oIx (.nm 0) (.nm 1))) cNext)
    (cRet (cK (.int 0))))
def m__law_cell : Fn := runDef 2 c__law_cell
def c__law_mix : CS := (cSeq (cSet 2 (cLst [(.ex (cK (.int 48271))), (.ex (cK (.int 69621))), (.ex (cK (.int 16807))), (.ex (cK (.int 39373))), (.ex (cK (.int 30269))), (.ex (cK (.int 40014))), (.ex (cK (.int 40692))), (.ex (cK (.int 50021))), (.ex (cK (.int 61687))), (.ex (cK (.int 71993))), (.ex (cK (.int 83869))), (.ex (cK (.int 95561))), (.ex (cK (.int 30307)))]))
    (cSeq (cSet 3 (cOp2 oAdd (.ex (cOp2 oAdd (.ex (cOp2 oMul (.ex (cOp2 oAdd (.ex (cOp2 oMod (.nm 0) (.ex (cK (.int 2147483647))))) (.ex (cK (.int 12345))))) (.ex (cOp2 oIx (.nm 2) (.ex (cOp2 oMod (.nm 1) (.ex (cK (.int 13))))))))) (.ex (cOp2 oMul (.ex (cK (.int 977))) (.nm 1))))) (.ex (cOp2 oMul (.ex (cK (.int 7919))) (.ex (cOp2 oFdiv (.nm 1) (.ex (cK (.int 13)))))))))
    (cSeq (cSet 3 (cOp2 oMod (.nm 3) (.ex (cK (.int 1000000007)))))
    (cRet (cOp2 oFdiv (.ex (cOp2 oMod (.ex (cOp2 oAdd (.ex (cOp2 oMul (.nm 3) (.nm 3))) (.ex (cOp2 oMul (.ex (cK (.int 48271))) (.nm 1))))) (.ex (cK (.int 1000000007))))) (.ex (cK (.int 7))))))))
def m__law_mix : Fn := runDef 4 c__law_mix
def c__law_box : CS := (cSeq (cSet 2 (cCall m__law_cell [(.nm 0), (.nm 1)]))
    (cSeq (cIfS (toT (cOp2 oEq (.ex (cOp2 oMod (.nm 2) (.ex (cK (.int 2))))) (.ex (cK (.int 0))))) (cRet (cLst [(.ex (cOp2 oFdiv (.ex (cOpN oAbs [(.nm 2)])) (.ex (cK (.int 2)))))])) cNext)
    (cSeq (cSet 3 (cK (.int 0)))
    (cSeq (cFor (.one 4) (iArgs rg1 [(.ex (cK (.int 40)))]) (cSet 3 (cOp2 oAdd (.ex (cOp2 oMul (.nm 3) (.ex (cK (.int 142857143))))) (.ex (cCall m__law_mix [(.nm 2), (.nm 4)])))))
    (cRet (cLst [(.ex (cVar 3))]))))))
def m__law_box : Fn := runDef 5 c__law_box
def c__law_take : CS := (cSeq (cUnp (.many [2, 3]) (cOpN oDivmod [(.ex (cOp2 oIx (.nm 0) (.ex (cK (.int 0))))), (.nm 1)]))
    (cSeq (cSetItem sList 0 (.ex (cK (.int 0))) (cVar 2))
    (cRet (cMove 3))))
def m__law_take : Fm := runDefI 4 c__law_take
def c__law_whole : CS := (cRet (cAnd (cIsi "int" (.nm 0)) (cNot (cIsi "bool" (.nm 0)))))
def m__law_whole : Fn := runDef 1 c__law_whole
def c__law_net : CS := (cSeq (cSet 2 (cLst []))
    (cSeq (cFor (.one 3) (iArgs rg1 [(.ex (cOp2 oAdd (.ex (cK (.int 1))) (.ex (cCallI m__law_take 0 [(.ex (cVar 1))]))))]) (cSeq (cSet 4 (cComp (.one 5) (iArgs rg1 [(.nm 3)]) (toT (cOp2 oEq (.ex (cCallI m__law_take 0 [(.ex (cK (.int 3)))])) (.ex (cK (.int 0))))) (cVar 5) [5]))
    (cSeq (cIfS (cAndT (toT (cOp2 oGt (.nm 3) (.ex (cK (.int 0))))) (cAndT (toT (cOp2 oEq (.nm 4) (.ex (cLst [])))) (toT (cOp2 oGt (.ex (cCallI m__law_take 0 [(.ex (cK (.int 3)))])) (.ex (cK (.int 0))))))) (cSet 4 (cLst [(.ex (cCallI m__law_take 0 [(.ex (cVar 3))]))])) cNext)
    (cDrop (cMethT "list" mAppend 2 [(.ex (cOpN oTuple [(.ex (cSl (.nm 4) .none (.some (.ex (cK (.int 3))))))]))])))))
    (cRet (cOpN oTuple [(.nm 2)]))))
def m__law_net : Fm := runDefI 6 c__law_net

theorem ev_take (b : Int) (n : Int) (h0 : 0 < n) (h1 : n < 1073741824) : m__law_take (.list [.int b]) [.int n] = .ok (.frz (.int (b % n))) (.list [.int (b / n)]) := by
  apply runI_of; intro K k
  simp [c__law_take, h0, h1, atI, ixN, sList]
  exact k.rt _ _ _ rfl ⟨rfl, rfl⟩
theorem ev_cell (ns : List Int) (k : Nat) : m__law_cell [scriptD ns, .int k] = .ok (.frz (.int (ns[k]?.getD 0))) := by
  apply run_of; intro K kk
  simp [c__law_cell, scriptD, atI_nat]
  refine ⟨fun h => ?_, fun h => ?_⟩
  · simp [h]; exact kk.rt _ _ (by simp [h])
  · exact kk.rt _ _ (by simp [h])
theorem ev_mix (c : Int) (k : Nat) (hk : k < 1000) : ∃ r, m__law_mix [.int c, .int k] = .ok r ∧ ∃ i : Int, r = .frz (.int i) := by
  have hs : ∃ s : Int, small s = true ∧ atI [PyData.int 48271, .int 69621, .int 16807, .int 39373, .int 30269, .int 40014, .int 40692, .int 50021, .int 61687, .int 71993, .int 83869, .int 95561, .int 30307] ((k : Int) % 13) = some (.int s) := by
    have h : k % 13 = 0 ∨ k % 13 = 1 ∨ k % 13 = 2 ∨ k % 13 = 3 ∨ k % 13 = 4 ∨ k % 13 = 5 ∨ k % 13 = 6 ∨ k % 13 = 7 ∨ k % 13 = 8 ∨ k % 13 = 9 ∨ k % 13 = 10 ∨ k % 13 = 11 ∨ k % 13 = 12 := by omega
    have e : ((k : Int) % 13) = ((k % 13 : Nat) : Int) := by omega
    rw [e, atI_nat]
    rcases h with h | h | h | h | h | h | h | h | h | h | h | h | h <;> rw [h] <;> exact ⟨_, by decide, rfl⟩
  obtain ⟨s, hz, hs⟩ := hs
  have hm : ∀ x : Int, small (x % 1000000007) = true := fun x => small_of (by omega) (by omega)
  have h1 : small 977 = true := by decide
  have h2 : small 7919 = true := by decide
  have h3 : small 48271 = true := by decide
  apply run_ex; intro K k
  simp [c__law_mix, hs, hz, hm, h1, h2, h3]
  exact k.rt _ _ ⟨_, rfl⟩
theorem ev_box (ns : List Int) (k : Nat) (hk : k < 1000) : ∃ r, m__law_box [scriptD ns, .int k] = .ok r ∧ ∃ i : Int, r = .own false (.list [.int i]) := by
  have h1 : small 142857143 = true := by decide
  apply run_ex; intro K kk
  simp [c__law_box, ev_cell, rgD0]
  refine ⟨fun _ => kk.rt _ _ ⟨_, rfl⟩, fun _ => ?_⟩
  refine sat_forT (fun rest e => ∃ (i : Int) (j : Cell), isLck j = false ∧ e = [.frz (scriptD ns), .frz (.int _), .frz (.int _), .frz (.int i), j] ∧ ∀ x ∈ rest, x < 40) ⟨0, .emp, rfl, rfl, fun x hx => by simpa using hx⟩ ?_ ?_
  · rintro x rest e ⟨i, j, hj, rfl, hr⟩ K' L
    obtain ⟨r, e1, i2, rfl⟩ := ev_mix (ns[k]?.getD 0) x (by have := hr x List.mem_cons_self; omega)
    simp [hj, h1, e1]
    exact L.nx _ ⟨_, .frz _, rfl, rfl, fun y hy => hr y (List.mem_cons_of_mem _ hy)⟩
  · rintro e ⟨i, j, hj, rfl, hr⟩
    simp
    exact kk.rt _ _ ⟨_, rfl⟩
structure NetOk (net : List (List Nat)) : Prop where
  inc : ∀ (i : Nat) (ns : List Nat), net[i]? = some ns → ns.Pairwise (· < ·)
  low : ∀ (i : Nat) (ns : List Nat), net[i]? = some ns → ∀ n ∈ ns, n < i
theorem NetOk.nil : NetOk [] := ⟨fun _ _ h => by simp at h, fun _ _ h => by simp at h⟩
theorem NetOk.snoc {net : List (List Nat)} {ns : List Nat} (h : NetOk net) (h1 : ns.Pairwise (· < ·)) (h2 : ∀ n ∈ ns, n < net.length) : NetOk (net ++ [ns]) := by
  have key : ∀ (i : Nat) (ms : List Nat), (net ++ [ns])[i]? = some ms → net[i]? = some ms ∨ (i = net.length ∧ ms = ns) := fun i ms q => by
    by_cases z : i < net.length
    · rw [List.getElem?_append_left z] at q; exact .inl q
    · rw [List.getElem?_append_right (by omega)] at q
      by_cases y : i = net.length
      · subst y; simp at q; exact .inr ⟨rfl, q.symm⟩
      · rw [List.getElem?_eq_none (by simp; omega)] at q; cases q
  refine ⟨fun i ms q => ?_, fun i ms q => ?_⟩ <;> rcases key i ms q with q | ⟨rfl, rfl⟩
  · exact h.inc i ms q
  · exact h1
  · exact h.low i ms q
  · exact h2
theorem range'_cons {x : Nat} {rest : List Nat} {a k : Nat} (h : x :: rest = List.range' a k) : x = a ∧ 0 < k ∧ rest = List.range' (a + 1) (k - 1) := by
  cases k with
  | zero => cases h
  | succ k => rw [List.range'_succ] at h; injection h with h1 h2; exact ⟨h1, by omega, h2⟩
theorem ev_net (b most : Int) (h0 : 0 < most) (h1 : most ≤ 10) : ∃ r d, m__law_net (.list [.int b]) [.int most] = .ok r d ∧ (∃ b' : Int, d = .list [.int b']) ∧ ∃ net : List (List Nat), r = .frz (netD net) ∧ NetOk net ∧ 1 ≤ net.length ∧ (net.length : Int) ≤ most := by
  have hb := Int.emod_nonneg b (show most ≠ 0 by omega)
  have hb2 := Int.emod_lt_of_pos b h0
  obtain ⟨N, hN⟩ : ∃ N : Nat, 1 + b % most = (N : Int) := ⟨(1 + b % most).toNat, by omega⟩
  apply runI_ex; intro K k
  simp [c__law_net, ev_take b most h0 (by omega), hN, show -1000000 ≤ (N : Int) by omega, show (N : Int) ≤ 1000000 by omega, rgD0]
  refine sat_forT (fun rest e => ∃ (acc : List (List Nat)) (b : Int) (j3 j4 j5 : Cell), isLck j3 = false ∧ isLck j4 = false ∧ j5.mine = false ∧ e = [.own true (.list [.int b]), .frz (.int most), .own false (.list (acc.map laD)), j3, j4, j5] ∧ NetOk acc ∧ acc.length ≤ N ∧ rest = List.range' acc.length (N - acc.length)) ?_ ?_ ?_
  · exact ⟨[], _, .emp, .emp, .emp, rfl, rfl, rfl, rfl, .nil, by simp, by simp [List.range_eq_range']⟩
  · rintro x rest e ⟨acc, b, j3, j4, j5, l3, l4, l5, rfl, ok, le, hr⟩ K' L
    obtain ⟨rfl, hk, rfl⟩ := range'_cons hr
    simp [l3]
    generalize hc : cComp _ _ _ _ _ _ = r
    obtain ⟨ds, e', rfl, l, b1, j, hl, rfl, rfl, h1, m, _, hml, h2⟩ := comp_inv hc (f := nD) (xs := List.range acc.length)
      (fun rest ds e => ∃ (l : List Nat) (b : Int) (j : Cell), isLck j = false ∧ e = [.own true (.list [.int b]), .frz (.int most), .own false (.list (acc.map laD)), .frz (.int (acc.length : Nat)), j4, j] ∧ ds = l.map nD ∧ l.Pairwise (· < ·) ∧ ∃ m, rest = List.range' m (acc.length - m) ∧ m ≤ acc.length ∧ ∀ n ∈ l, n < m)
      (by simp [rgD0, show (acc.length : Int) ≤ 1000000 by omega]; rfl) (by simp [l5])
      (by exact ⟨[], b, j5, lck_of_mine l5, rfl, rfl, List.Pairwise.nil, 0, by simp [List.range_eq_range'], by omega, by simp⟩) (by
        rintro x rest ds e ⟨l, b, j, hl, rfl, rfl, hp, m, hm, hm2, hlt⟩ Y Z hY hZ
        obtain ⟨rfl, hk2, rfl⟩ := range'_cons hm
        simp [ev_take]
        refine ⟨fun _ => hY _ _ ⟨l ++ [x], _, .frz _, rfl, rfl, by simp, ?_, x + 1, by simp; omega, by omega, ?_⟩, fun _ => hZ _ ⟨l, _, .frz _, rfl, rfl, rfl, hp, x + 1, by simp; omega, by omega, fun n hn => by have := hlt n hn; omega⟩⟩
        · rw [List.pairwise_append]; exact ⟨hp, by simp, fun a ha c hc => by simp at hc; subst hc; exact hlt a ha⟩
        · intro n hn; rw [List.mem_append] at hn; rcases hn with hn | hn
          · have := hlt n hn; omega
          · simp at hn; omega)
    have lN : acc.length < 1000000 := by omega
    have fin : ∀ (l : List Nat) (b : Int) (j4 j5 : Cell), l.Pairwise (· < ·) → (∀ n ∈ l, n < acc.length) → isLck j4 = false → j5.mine = false →
        K'.nx [.own true (.list [.int b]), .frz (.int most), .own false (.list (acc.map laD ++ [laD (l.take 3)])), .frz (.int (acc.length : Nat)), j4, j5] := fun l b j4 j5 hp hl q1 q2 =>
      L.nx _ ⟨acc ++ [l.take 3], b, .frz _, j4, j5, rfl, q1, q2, by simp; rfl, ok.snoc (hp.sublist (List.take_sublist 3 l)) (fun n hn => hl n (List.take_subset 3 l hn)), by simp; omega, by rw [List.length_append, List.length_singleton, Nat.sub_sub]⟩
    have c3 : ∀ l : List Nat, cutL l none (some 3) = l.take 3 := fun l => cutL_take l 3
    have hl' : ∀ n ∈ l, n < acc.length := fun n hn => by have := h2 n hn; omega
    have mapT : ∀ l : List Nat, PyData.tuple (l.map nD) = laD l := fun _ => rfl
    have fin2 : ∀ (l : List Nat) (b : Int) (j4 j5 : Cell), l.Pairwise (· < ·) → (∀ n ∈ l, n < acc.length) → isLck j4 = false → j5.mine = false →
        K'.nx [.own true (.list [.int b]), .frz (.int most), .own false (.list (acc.map laD ++ [PyData.tuple ((l.take 3).map nD)])), .frz (.int (acc.length : Nat)), j4, j5] := fin
    by_cases ha : acc.length = 0
    · simp [l4, ha, c3, ev_take, lim]
      have q := fin2 l b1 (.own false (.list (l.map nD))) j5 h1 hl' rfl l5
      simp [ha] at q; exact q
    · by_cases hn : l = []
      · subst hn
        obtain ⟨d, hd⟩ : ∃ d : Nat, (b1 / 3 % (acc.length : Int)) = (d : Int) := ⟨(b1 / 3 % (acc.length : Int)).toNat, by have := Int.emod_nonneg (b1 / 3) (show (acc.length : Int) ≠ 0 by omega); omega⟩
        have hd2 : d < acc.length := by have := Int.emod_lt_of_pos (b1 / 3) (show 0 < (acc.length : Int) by omega); omega
        simp [l4, show (0 < acc.length) from by omega, ev_take, lim, lN, show (acc.length : Int) < 1073741824 by omega, hd]
        refine ⟨fun _ => ?_, fun _ => ?_⟩
        · have c4 : cutD [PyData.int (d : Int)] none (some 3) = [PyData.int (d : Int)] := rfl
          simp [c4, lN, lim]
          have q := fin2 [d] (b1 / 3 / acc.length) (.own false (.list [.int d])) j5 (by simp) (by simpa using hd2) rfl l5
          simpa using q
        · have c4 : cutD [] none (some 3) = [] := rfl
          simp [c4, lN, lim]
          have q := fin2 [] (b1 / 3) (.own false (.list [])) j5 (by simp) (by simp) rfl l5
          simpa using q
      · simp [l4, show (0 < acc.length) from by omega, ev_take, lim, lN, hn, c3]
        have q := fin2 l b1 (.own false (.list (l.map nD))) j5 h1 hl' rfl l5
        simpa using q
  · rintro e ⟨acc, b, j3, j4, j5, l3, l4, l5, rfl, ok, le, hr⟩
    have : N ≤ acc.length := by
      have := congrArg List.length hr; simp at this; omega
    simp
    exact k.rt _ _ _ rfl ⟨⟨_, rfl⟩, acc, rfl, ok, by omega, by omega⟩
end DL

namespace DL
open PySem L2
def c_is_whole : CS := (cRet (cAnd (cIsi "int" (.nm 0)) (cNot (cIsi "bool" (.nm 0)))))
def m_is_whole : Fn := runDef 1 c_is_whole
def c_is_rising : CS := (cSeq (cSet 2 (cNeg (.ex (cK (.int 1)))))
    (cSeq (cForO 0 (.one 3) (cSeq (cIfS (cOrT (cNotT (toT (cCall m_is_whole [(.nm 3)]))) (cNotT (toT (cChain oLt oLt (.nm 2) (.nm 3) (.nm 1))))) (cRet (cK (.bool false))) cNext)
    (cSet 2 (cVar 3))))
    (cRet (cK (.bool true)))))
def m_is_rising : Fn := runDef 4 c_is_rising
def c_is_net : CS := (cSeq (cIfS (cOrT (cNotT (toT (cIsi "tuple" (.nm 0)))) (cNotT (toT (cChain oLe oLe (.ex (cK (.int 1))) (.ex (cOpN oLen [(.nm 0)])) (.ex (cK (.int 10))))))) (cRet (cK (.bool false))) cNext)
    (cSeq (cFor (.many [1, 2]) (iEnumC (cVar 0)) (cIfS (cOrT (cNotT (toT (cIsi "tuple" (.nm 2)))) (cNotT (toT (cCall m_is_rising [(.nm 2), (.nm 1)])))) (cRet (cK (.bool false))) cNext))
    (cRet (cK (.bool true)))))
def m_is_net : Fn := runDef 3 c_is_net
def c_need_net : CS := (cIfS (cNotT (toT (cCall m_is_net [(.nm 0)]))) (cRaise "NoNet") cNext)
def m_need_net : Fn := runDef 1 c_need_net
def c_need_spot : CS := (cSeq (cDrop (cCall m_need_net [(.nm 0)]))
    (cIfS (cOrT (cNotT (toT (cCall m_is_whole [(.nm 1)]))) (cNotT (toT (cChain oLe oLt (.ex (cK (.int 0))) (.nm 1) (.ex (cOpN oLen [(.nm 0)])))))) (cRaise "NoSpot") cNext))
def m_need_spot : Fn := runDef 2 c_need_spot
def c_beneath : CS := (cSeq (cDrop (cCall m_need_spot [(.nm 0), (.nm 1)]))
    (cSeq (cSet 2 (cLst [(.ex (cVar 1))]))
    (cSeq (cSet 3 (cK (.int 0)))
    (cSeq (whileL (toT (cOp2 oLt (.nm 3) (.ex (cOpN oLen [(.nm 2)])))) (cSeq (cDrop (cMethT "list" mExtend 2 [(.ex (cComp (.one 4) (iSeq (cOp2 oIx (.nm 0) (.ex (cOp2 oIx (.nm 2) (.nm 3))))) (toT (cOp2 (oIn true) (.nm 4) (.nm 2))) (cVar 4) [4]))]))
    (cSet 3 (cOp2 oAdd (.nm 3) (.ex (cK (.int 1)))))) 100000)
    (cRet (cOpN oSortedA [(.nm 2)]))))))
def m_beneath : Fn := runDef 5 c_beneath
def c_above : CS := (cSeq (cDrop (cCall m_need_spot [(.nm 0), (.nm 1)]))
    (cRet (cComp (.one 2) (iArgs rg1 [(.ex (cOpN oLen [(.nm 0)]))]) (toT (cOp2 (oIn false) (.nm 1) (.ex (cCall m_beneath [(.nm 0), (.nm 2)])))) (cVar 2) [2])))
def m_above : Fn := runDef 3 c_above

def scrD : PyData → Bool
  | .dict kvs => isScr kvs
  | _ => false
def wholeD : PyData → Bool
  | .int _ => true
  | _ => false
@[simp] theorem isi_none (T : String) : isiD T .none = some (T == "NoneType") := rfl
@[simp] theorem isi_bool (T : String) (b : Bool) : isiD T (.bool b) = some (T == "bool" || T == "int") := rfl
@[simp] theorem isi_int (T : String) (i : Int) : isiD T (.int i) = some (T == "int") := rfl
@[simp] theorem isi_str (T : String) (i : Str) : isiD T (.str i) = some (T == "str") := rfl
@[simp] theorem isi_list (T : String) (i : List PyData) : isiD T (.list i) = some (T == "list") := rfl
@[simp] theorem isi_tuple (T : String) (i : List PyData) : isiD T (.tuple i) = some (T == "tuple") := rfl
theorem isi_dict (T : String) (k : List (PyData × PyData)) (h : isScr k = false) : isiD T (.dict k) = some (T == "dict") := by
  show (if isScr k then none else _) = _; rw [h]; rfl
theorem ev_whole (d : PyData) (h : scrD d = false) : m_is_whole [d] = .ok (.frz (.bool (wholeD d))) := by
  apply run_of; intro K kk
  cases d with
  | dict k => simp [c_is_whole, isi_dict "int" k h, isi_dict "bool" k h]; exact kk.rt _ _ rfl
  | _ => simp [c_is_whole]; exact kk.rt _ _ rfl
@[simp] theorem ev_wholeI (i : Int) : m_is_whole [.int i] = .ok (.frz (.bool true)) := ev_whole _ rfl
@[simp] theorem ev_lwholeI (i : Int) : m__law_whole [.int i] = .ok (.frz (.bool true)) := ev_whole _ rfl
def risingD : List PyData → Int → Int → Bool
  | [], _, _ => true
  | .int i :: ds, last, b => decide (last < i) && decide (i < b) && risingD ds i b
  | _ :: _, _, _ => false
theorem ev_rising (x : PyData) (ds : List PyData) (b : Int) (hx : seqOf x = some ds) (hs : ∀ d ∈ ds, scrD d = false) : m_is_rising [x, .int b] = .ok (.frz (.bool (risingD ds (-1) b))) := by
  apply run_of; intro K kk
  simp [c_is_rising, hx]
  rw [← List.map_id ds]
  refine sat_forT (f := id) (fun rest e => ∃ (l : Int) (j : Cell), isLck j = false ∧ e = [.frz x, .frz (.int b), .frz (.int l), j] ∧ (∀ d ∈ rest, scrD d = false) ∧ risingD rest l b = risingD ds (-1) b) ⟨-1, .emp, rfl, rfl, hs, rfl⟩ ?_ ?_
  · rintro d rest e ⟨l, j, hj, rfl, hr, he⟩ K' L
    have hd := hr d List.mem_cons_self
    simp [hj, ev_whole d hd]
    cases d with
    | int i =>
      simp [wholeD]
      refine ⟨fun h => L.rt _ _ (kk.rt _ _ ?_), fun h1 h2 => L.nx _ ⟨_, .frz _, rfl, rfl, fun y hy => hr y (List.mem_cons_of_mem _ hy), ?_⟩⟩
      · simp only [risingD] at he
        have : (decide (l < i) && decide (i < b)) = false := by simp; omega
        rw [this, Bool.false_and] at he; rw [← he]; rfl
      · simp only [risingD, h1, h2] at he; simpa using he
    | _ =>
      simp [wholeD]
      refine L.rt _ _ (kk.rt _ _ ?_)
      rw [← he]; rfl
  · rintro e ⟨l, j, hj, rfl, hr, he⟩
    simp
    exact kk.rt _ _ (by rw [← he]; rfl)
theorem rising_nD : ∀ (l : List Nat) (a b : Int), (∀ n ∈ l, a < (n : Int)) → l.Pairwise (· < ·) → (∀ n ∈ l, (n : Int) < b) → risingD (l.map nD) a b = true
  | [], _, _, _, _, _ => rfl
  | x :: l, a, b, h1, h2, h3 => by
    rw [List.pairwise_cons] at h2
    have r := rising_nD l x b (fun n hn => by have := h2.1 n hn; omega) h2.2 (fun n hn => h3 n (List.mem_cons_of_mem _ hn))
    have q1 := h1 x List.mem_cons_self
    have q2 := h3 x List.mem_cons_self
    simp [risingD, r, q1, q2]
theorem enumD_zip : ∀ (ds : List PyData) (k : Nat), enumD k ds = (ds.zipIdx k).map fun p => PyData.tuple [.int (p.2 : Nat), p.1]
  | [], _ => rfl
  | d :: ds, k => by rw [List.zipIdx_cons, List.map_cons, ← enumD_zip ds (k + 1)]; rfl
@[simp] theorem ev_iEnum (c : CE) (env : Cs) : iEnumC c env = (c env).bind fun c env1 => match c.val with
    | some d => match seqOf d with
      | some ds => .ok (enumD 0 ds) env1
      | none => .no
    | none => .no := rfl
def needsB (d : PyData) (k : Nat) : Bool := match d with
  | .tuple ns => risingD ns (-1) k
  | _ => false
def netB : PyData → Bool
  | .tuple ds => decide (1 ≤ ds.length) && decide (ds.length ≤ 10) && (ds.zipIdx).all fun p => needsB p.1 p.2
  | _ => false
def okN (d : PyData) : Prop := scrD d = false ∧ ∀ ds, d = .tuple ds → ∀ x ∈ ds, scrD x = false
theorem ev_isnet (x : PyData) (hx : scrD x = false) (hs : ∀ ds, x = .tuple ds → ∀ d ∈ ds, okN d) : m_is_net [x] = .ok (.frz (.bool (netB x))) := by
  apply run_of; intro K kk
  cases x with
  | dict k => simp [c_is_net, isi_dict "tuple" k hx]; exact kk.rt _ _ rfl
  | tuple ds =>
    simp [c_is_net]
    by_cases hl : 1 ≤ ds.length ∧ ds.length ≤ 10
    · obtain ⟨h1, h2⟩ := hl
      simp [show (1 : Int) ≤ (ds.length : Int) by omega, show (ds.length : Int) ≤ 10 by omega, enumD_zip]
      refine ⟨fun h => by omega, ?_⟩
      have hs := hs ds rfl
      refine sat_forT (fun rest e => ∃ (j1 j2 : Cell), isLck j1 = false ∧ isLck j2 = false ∧ e = [.frz (.tuple ds), j1, j2] ∧ (∀ p : PyData × Nat, p ∈ rest → okN p.1) ∧ (rest.all fun (p : PyData × Nat) => needsB p.1 p.2) = netB (.tuple ds)) ⟨.emp, .emp, rfl, rfl, rfl, ?_, ?_⟩ ?_ ?_
      · intro p hp; have := List.mem_zipIdx hp; exact hs _ (by rw [this.2.2]; simp)
      · unfold netB; simp [h1, h2]
      · rintro ⟨d, k⟩ rest e ⟨j1, j2, l1, l2, rfl, hr, he⟩ K' L
        have hd := hr _ List.mem_cons_self
        simp [l1, l2]
        cases d with
        | dict k => simp [isi_dict "tuple" k hd.1]; exact L.rt _ _ (kk.rt _ _ (by rw [← he]; rfl))
        | tuple ns =>
          simp [ev_rising (.tuple ns) ns k rfl (hd.2 ns rfl)]
          refine ⟨fun h => L.rt _ _ (kk.rt _ _ ?_), fun h => L.nx _ ⟨_, _, by rfl, by rfl, rfl, fun p hp => hr p (List.mem_cons_of_mem _ hp), ?_⟩⟩
          · rw [← he]; simp [needsB, h]
          · rw [← he]; simp [needsB, h]
        | _ => simp; exact L.rt _ _ (kk.rt _ _ (by rw [← he]; rfl))
      · rintro e ⟨j1, j2, l1, l2, rfl, hr, he⟩
        simp
        exact kk.rt _ _ (by rw [← he]; rfl)
    · have hb : netB (.tuple ds) = false := by
        unfold netB; simp; omega
      rw [hb] at kk
      by_cases h1 : 1 ≤ ds.length
      · have h2 : ¬ (ds.length : Int) ≤ 10 := by omega
        simp [show (1 : Int) ≤ (ds.length : Int) by omega, h2]
        exact fun _ => kk.rt (.frz (.bool false)) _ rfl
      · simp [show ¬ (1 : Int) ≤ (ds.length : Int) by omega]
        exact fun _ => kk.rt (.frz (.bool false)) _ rfl
  | _ => simp [c_is_net]; exact kk.rt _ _ rfl
structure NetV (net : List (List Nat)) : Prop where
  ok : NetOk net
  one : 1 ≤ net.length
  ten : net.length ≤ 10
theorem netB_of {net : List (List Nat)} (h : NetV net) : netB (netD net) = true := by
  unfold netD netB
  have h1 := h.one; have h2 := h.ten
  simp only [List.length_map, h1, h2, decide_true, Bool.true_and]
  rw [List.all_eq_true]
  rintro ⟨d, k⟩ hp
  have q := List.mem_zipIdx' hp
  simp at q
  obtain ⟨hk, e⟩ := q
  show needsB d k = true
  rw [e]
  have hg : net[k]? = some net[k] := List.getElem?_eq_getElem hk
  exact rising_nD _ _ _ (fun n _ => by omega) (h.ok.inc k _ hg) (fun n hn => by have := h.ok.low k _ hg n hn; omega)
theorem okN_la (l : List Nat) : okN (laD l) := ⟨rfl, fun ds e x hx => by cases e; simp at hx; obtain ⟨n, _, rfl⟩ := hx; rfl⟩
theorem okN_net (net : List (List Nat)) : ∀ ds, netD net = .tuple ds → ∀ d ∈ ds, okN d := fun ds e d hd => by
  cases e; simp at hd; obtain ⟨l, _, rfl⟩ := hd; exact okN_la l
theorem ev_neednet {net : List (List Nat)} (h : NetV net) : m_need_net [netD net] = .ok (.frz .none) := by
  apply run_of; intro K kk
  simp [c_need_net, ev_isnet (netD net) rfl (okN_net net), netB_of h]
  exact kk.nx rfl _
end DL

namespace DL
open PySem L2
structure Jk where
  c : Cell
  u : isLck c = false
structure Jm where
  c : Cell
  m : c.mine = false
@[simp] theorem Jk.lck (j : Jk) : isLck j.c = false := j.u
@[simp] theorem Jm.min (j : Jm) : j.c.mine = false := j.m
theorem lck_of_min {c : Cell} (h : c.mine = false) : isLck c = false := by cases c <;> first | rfl | cases h
@[simp] theorem Jm.lck (j : Jm) : isLck j.c = false := lck_of_min j.m
def jkE : Jk := ⟨.emp, rfl⟩
def jmE : Jm := ⟨.emp, rfl⟩

@[simp] theorem oRepr_one (d : PyData) : oRepr [d] = if showOk d then .val (.frz (.str d.shown)) else .no := rfl
mutual
/-- data whose repr is short -/
def okR : PyData → Bool
  | .none => true
  | .bool _ => true
  | .int i => decide (i.natAbs.log2 < 190)
  | .str x => PyData.strOk x
  | .list xs => okRs xs
  | .tuple xs => okRs xs
  | .dict _ => false
def okRs : List PyData → Bool
  | [] => true
  | x :: xs => okR x && okRs xs
end
mutual
theorem okR_lay : ∀ d, okR d = true → d.canLay0 = true ∧ d.showable = true
  | .none, _ => ⟨rfl, rfl⟩
  | .bool _, _ => ⟨rfl, rfl⟩
  | .int i, h => ⟨rfl, by simp only [okR, decide_eq_true_eq] at h; simp only [PyData.showable, decide_eq_true_eq]; omega⟩
  | .str x, h => ⟨by simpa [PyData.canLay0, okR] using h, rfl⟩
  | .list xs, h => by have := okRs_lay xs (by simpa [okR] using h); simpa [PyData.canLay0, PyData.showable] using this
  | .tuple xs, h => by have := okRs_lay xs (by simpa [okR] using h); simpa [PyData.canLay0, PyData.showable] using this
  | .dict _, h => by simp [okR] at h
theorem okRs_lay : ∀ xs, okRs xs = true → PyData.canLayAll0 xs = true ∧ PyData.showableAll xs = true
  | [], _ => ⟨rfl, rfl⟩
  | x :: xs, h => by
    simp only [okRs, Bool.and_eq_true] at h
    have h1 := okR_lay x h.1
    have h2 := okRs_lay xs h.2
    simp [PyData.canLayAll0, PyData.showableAll, h1, h2]
end
mutual
theorem okR_len : ∀ d, okR d = true → d.shown.length + 3 ≤ 210 * cnt d
  | .none, _ => by decide +kernel
  | .bool b, _ => by cases b <;> decide +kernel
  | .int i, h => by
    simp only [okR, decide_eq_true_eq] at h
    have h1 := int_text_length_le (k := 190) (by decide) h
    show (Str.ofString (toString i)).length + 3 ≤ 210 * 1
    rw [ofString_length]; omega
  | .str x, h => by
    have h1 := StrLaws.reprText_len x (fun c hc => by
      simp only [okR, PyData.strOk, Array.all_eq_true_iff_forall_mem, decide_eq_true_eq] at h
      have := h c (by simpa using hc); omega)
    show (reprText x).length + 3 ≤ 210 * (x.length + 1)
    omega
  | .list xs, h => by
    have h1 := okRs_len xs (by simpa [okR] using h)
    have h2 := listText_len_le (PyData.shownAll xs)
    show (listText (PyData.shownAll xs)).length + 3 ≤ 210 * (cnts xs + 1)
    omega
  | .tuple xs, h => by
    have h1 := okRs_len xs (by simpa [okR] using h)
    have h2 := tupleText_len_le (PyData.shownAll xs)
    show (tupleText (PyData.shownAll xs)).length + 3 ≤ 210 * (cnts xs + 1)
    omega
  | .dict _, h => by simp [okR] at h
theorem okRs_len : ∀ xs, okRs xs = true → ((PyData.shownAll xs).map (·.length)).sum + 2 * (PyData.shownAll xs).length ≤ 210 * cnts xs
  | [], _ => by simp [PyData.shownAll, cnts]
  | x :: xs, h => by
    simp only [okRs, Bool.and_eq_true] at h
    have h1 := okR_len x h.1
    have h2 := okRs_len xs h.2
    simp only [PyData.shownAll, List.map_cons, List.sum_cons, List.length_cons, cnts]
    omega
end
theorem showOk_of {d : PyData} (h : okR d = true) (h2 : d.depth ≤ 40) (h3 : cnt d ≤ 4700) : showOk d = true := by
  have h4 := okR_lay d h
  have h5 := okR_len d h
  unfold showOk lim
  simp only [Bool.and_eq_true, decide_eq_true_eq]
  exact ⟨⟨⟨h4.1, h4.2⟩, h2⟩, by omega⟩
structure EncSh {α : Type} (f : α → PyData) (ok : α → Prop) (w : Nat) : Prop where
  okr : ∀ a, ok a → okR (f a) = true
  cnt : ∀ a, ok a → cnt (f a) ≤ w
  dep : ∀ a, (f a).depth ≤ 8
section
variable {α : Type} {f : α → PyData} {ok : α → Prop} {w : Nat}
theorem okRs_map (S : EncSh f ok w) : ∀ l : List α, (∀ a ∈ l, ok a) → okRs (l.map f) = true
  | [], _ => rfl
  | x :: l, h => by simp [okRs, S.okr x (h x List.mem_cons_self), okRs_map S l fun a ha => h a (List.mem_cons_of_mem _ ha)]
theorem cnts_map (S : EncSh f ok w) : ∀ l : List α, (∀ a ∈ l, ok a) → cnts (l.map f) ≤ l.length * w
  | [], _ => by simp [cnts]
  | x :: l, h => by
    have h1 := S.cnt x (h x List.mem_cons_self)
    have h2 := cnts_map S l fun a ha => h a (List.mem_cons_of_mem _ ha)
    simp only [List.map_cons, cnts, List.length_cons, Nat.add_mul]; omega
theorem deps_map (S : EncSh f ok w) : ∀ l : List α, PyData.depthAll (l.map f) ≤ 8
  | [] => by simp [PyData.depthAll]
  | x :: l => by
    have h1 := S.dep x
    have h2 := deps_map S l
    simp only [List.map_cons, PyData.depthAll]; omega
theorem show_tuple (S : EncSh f ok w) {l : List α} (h : ∀ a ∈ l, ok a) (hw : l.length * w ≤ 4600) : showOk (.tuple (l.map f)) = true :=
  showOk_of (by simpa [okR] using okRs_map S l h) (by have := deps_map S l; simp only [PyData.depth]; omega) (by have := cnts_map S l h; simp only [cnt]; omega)
end
theorem log2_lt {n : Nat} (h : n < 2 ^ 64) : n.log2 < 190 := by
  by_cases z : n = 0
  · subst z; decide
  · exact (Nat.log2_lt z).mpr (Nat.lt_of_lt_of_le h (Nat.pow_le_pow_right (by decide) (by decide)))
theorem shN : EncSh nD (fun n => n < 2 ^ 64) 1 where
  okr n h := by show decide ((n : Int).natAbs.log2 < 190) = true; rw [Int.natAbs_natCast]; exact decide_eq_true (log2_lt h)
  cnt n h := by simp [nD, cnt]
  dep n := by simp [PyData.depth]
theorem shL : EncSh laD (fun l => (∀ n ∈ l, n < 2 ^ 64) ∧ l.length ≤ 20) 21 where
  okr l h := by show okR (.tuple (l.map nD)) = true; simpa [okR] using okRs_map shN l h.1
  cnt l h := by have := cnts_map shN l h.1; show cnt (.tuple (l.map nD)) ≤ 21; simp only [cnt]; omega
  dep l := EncOk.dpt (f := laD) l
end DL

namespace DL
open PySem L2
@[simp] theorem ev_op1 (k : PyData → OR) (a : Opd) (env : Cs) : cOp1 k a env = (a.ev env).bind fun la env1 => match la.get env1 with
  | some x => (k x).fin env1
  | none => .no := rfl
@[simp] theorem ev_dispI (l : List (Str × Int)) (env : Cs) : cDispI l env = .ok (.own false (dispI l)) env := rfl
theorem sortSet_list {ds : List PyData} {ns : List Int} (g : intsOf ds = some ns) (h1 : ns.length ≤ 1000) (h2 : (uniqI ns).length < 64) : oSortSet (.list ds) = .val (.own false (.list ((setI ns).map .int))) := by
  unfold oSortSet; simp only [g]; rw [if_pos ⟨h1, h2⟩]
def setN (l : List Nat) : List Nat := (setI (l.map fun (n : Nat) => (n : Int))).map Int.toNat
theorem setN_mem {l : List Nat} {x : Nat} : x ∈ setN l ↔ x ∈ l := by
  unfold setN
  rw [List.mem_map]
  constructor
  · rintro ⟨i, hi, rfl⟩
    obtain ⟨n, hn, e⟩ := List.mem_map.mp (setI_mem.mp hi)
    subst e; simpa using hn
  · intro h
    exact ⟨(x : Int), setI_mem.mpr (List.mem_map.mpr ⟨x, h, rfl⟩), by simp⟩
theorem setN_back (l : List Nat) : (setN l).map (fun (n : Nat) => (n : Int)) = setI (l.map fun (n : Nat) => (n : Int)) := by
  unfold setN
  rw [List.map_map]
  refine (List.map_congr_left fun i hi => ?_).trans (List.map_id _)
  obtain ⟨n, hn, e⟩ := List.mem_map.mp (setI_mem.mp hi)
  subst e; simp
theorem setN_lt (l : List Nat) : (setN l).Pairwise (· < ·) := by
  have h := setI_lt (l.map fun (n : Nat) => (n : Int))
  rw [← setN_back, List.pairwise_map] at h
  exact h.imp fun h => by omega
theorem intsOf_setN : ∀ L : List Nat, intsOf (L.map nD) = some (L.map fun (n : Nat) => (n : Int))
  | [] => rfl
  | n :: L => by
    show (intsOf (L.map nD)).map _ = _
    rw [intsOf_setN L]; rfl
theorem uniqI_few {l : List Nat} {n : Nat} (h : ∀ x ∈ l, x < n) : (uniqI (l.map fun (n : Nat) => (n : Int))).length ≤ n := by
  have h1 : (setN l).length ≤ n := by
    have nd : (setN l).Nodup := (setN_lt l).imp fun h => by omega
    have := List.Nodup.length_le_of_subset nd (l₂ := List.range n) fun x hx => List.mem_range.mpr (h x (setN_mem.mp hx))
    simpa using this
  have h2 : (setN l).length = (uniqI (l.map fun (n : Nat) => (n : Int))).length := by
    rw [← List.length_map (as := setN l) (fun (n : Nat) => (n : Int)), setN_back]
    exact (sortI_perm _).length_eq
  omega
theorem sortSet_nat {l : List Nat} (h1 : l.length ≤ 1000) (h : ∀ x ∈ l, x < 63) : oSortSet (.list (l.map nD)) = .val (.own false (.list ((setN l).map nD))) := by
  have := uniqI_few h
  rw [sortSet_list (intsOf_setN l) (by simpa using h1) (by omega), ← setN_back, List.map_map]; rfl
end DL

namespace DL
open PySem L2
def c__law_marks (a : Addr) (x : Str) : CS := (cSeq (cIfS (cOrT (cNotT (toT (cIsE a true 0))) (cNotT (toT (cIsE a true 0)))) (cRet (cK (.str "other"))) cNext)
    (cSeq (cSet 1 (cLst [(.ex (cIsE a (x == "NoNet") 0)), (.ex (cIsE a (x == "NoSpot") 0)), (.ex (cIsE a (x == "NoRules") 0)), (.ex (cIsE a (x == "NoStones") 0))]))
    (cSeq (cSet 1 (cOp2 oAdd (.nm 1) (.ex (cLst [(.ex (cIsE a (x == "NoLay") 0)), (.ex (cIsE a (x == "NoStep") 0)), (.ex (cIsE a (x == "NoPlay") 0)), (.ex (cIsE a (x == "NoTree") 0))]))))
    (cSeq (cDrop (cMethT "list" mAppend 1 [(.ex (cIsE a (x == "NoText") 0))]))
    (cSeq (cIfS (toT (cOp2 oNe (.ex (cMethV "list" oCount (.nm 1) [(.ex (cK (.bool true)))])) (.ex (cK (.int 1))))) (cRet (cK (.str "other"))) cNext)
    (cRet (cOp2 oIx (.ex (cLst [(.ex (cK (.str "net"))), (.ex (cK (.str "spot"))), (.ex (cK (.str "rules"))), (.ex (cK (.str "stones"))), (.ex (cK (.str "lay"))), (.ex (cK (.str "step"))), (.ex (cK (.str "play"))), (.ex (cK (.str "tree"))), (.ex (cK (.str "text")))])) (.ex (cMethV "list" oIndex (.nm 1) [(.ex (cK (.bool true)))])))))))))
def m__law_marks (a : Addr) (x : Str) : Fn := runDef 2 (c__law_marks a x)
@[simp] theorem ev_isE (a : Addr) (b : Bool) (i : Nat) (env : Cs) : cIsE a b i env = match gC i env with
    | .frz d => match isAdr a d with
      | true => .ok (.frz (.bool b)) env
      | false => .no
    | _ => .no := by unfold cIsE; rw [getD_gC] <;> (cases gC i env with | frz d => dsimp only; cases isAdr a d <;> rfl | _ => rfl)
@[simp] theorem ev_methV (T : String) (k : OpV) (o : Opd) (os : List Opd) (env : Cs) : cMethV T k o os env = (o.ev env).bind fun l env1 => match l.get env1 with
    | none => .no
    | some d0 => match tyD T d0 with
      | false => .no
      | true => (evs os env1).bind fun ls env2 => match l.get env2, gets env2 ls with
        | some d, some ds => (k d ds).fin env2
        | _, _ => .no := rfl
@[simp] theorem tyD_list (ds : List PyData) : tyD "list" (.list ds) = true := rfl
@[simp] theorem ev_try (i : Nat) (hm : Exc → Option Cell) (cb : CS) (env : Cs) : cTry i hm cb env = match cb env with
    | .ex x env1 => match decide (i < env1.length), hm x with
      | true, some c => .rt c env1
      | _, _ => .no
    | r => r := rfl
@[simp] theorem nn_NoNet_NoSpot : (Str.ofString "NoNet" == Str.ofString "NoSpot") = false := by decide +kernel
@[simp] theorem nn_NoNet_NoRules : (Str.ofString "NoNet" == Str.ofString "NoRules") = false := by decide +kernel
@[simp] theorem nn_NoNet_NoStones : (Str.ofString "NoNet" == Str.ofString "NoStones") = false := by decide +kernel
@[simp] theorem nn_NoNet_NoLay : (Str.ofString "NoNet" == Str.ofString "NoLay") = false := by decide +kernel
@[simp] theorem nn_NoNet_NoStep : (Str.ofString "NoNet" == Str.ofString "NoStep") = false := by decide +kernel
@[simp] theorem nn_NoNet_NoPlay : (Str.ofString "NoNet" == Str.ofString "NoPlay") = false := by decide +kernel
@[simp] theorem nn_NoNet_NoTree : (Str.ofString "NoNet" == Str.ofString "NoTree") = false := by decide +kernel
@[simp] theorem nn_NoNet_NoText : (Str.ofString "NoNet" == Str.ofString "NoText") = false := by decide +kernel
@[simp] theorem nn_NoNet_NoWay : (Str.ofString "NoNet" == Str.ofString "NoWay") = false := by decide +kernel
@[simp] theorem nn_NoNet_NoOrder : (Str.ofString "NoNet" == Str.ofString "NoOrder") = false := by decide +kernel
@[simp] theorem nn_NoNet_NoGoals : (Str.ofString "NoNet" == Str.ofString "NoGoals") = false := by decide +kernel
@[simp] theorem nn_NoNet_NoRow : (Str.ofString "NoNet" == Str.ofString "NoRow") = false := by decide +kernel
@[simp] theorem nn_NoSpot_NoNet : (Str.ofString "NoSpot" == Str.ofString "NoNet") = false := by decide +kernel
@[simp] theorem nn_NoSpot_NoRules : (Str.ofString "NoSpot" == Str.ofString "NoRules") = false := by decide +kernel
@[simp] theorem nn_NoSpot_NoStones : (Str.ofString "NoSpot" == Str.ofString "NoStones") = false := by decide +kernel
@[simp] theorem nn_NoSpot_NoLay : (Str.ofString "NoSpot" == Str.ofString "NoLay") = false := by decide +kernel
@[simp] theorem nn_NoSpot_NoStep : (Str.ofString "NoSpot" == Str.ofString "NoStep") = false := by decide +kernel
@[simp] theorem nn_NoSpot_NoPlay : (Str.ofString "NoSpot" == Str.ofString "NoPlay") = false := by decide +kernel
@[simp] theorem nn_NoSpot_NoTree : (Str.ofString "NoSpot" == Str.ofString "NoTree") = false := by decide +kernel
@[simp] theorem nn_NoSpot_NoText : (Str.ofString "NoSpot" == Str.ofString "NoText") = false := by decide +kernel
@[simp] theorem nn_NoSpot_NoWay : (Str.ofString "NoSpot" == Str.ofString "NoWay") = false := by decide +kernel
@[simp] theorem nn_NoSpot_NoOrder : (Str.ofString "NoSpot" == Str.ofString "NoOrder") = false := by decide +kernel
@[simp] theorem nn_NoSpot_NoGoals : (Str.ofString "NoSpot" == Str.ofString "NoGoals") = false := by decide +kernel
@[simp] theorem nn_NoSpot_NoRow : (Str.ofString "NoSpot" == Str.ofString "NoRow") = false := by decide +kernel
@[simp] theorem nn_NoRules_NoNet : (Str.ofString "NoRules" == Str.ofString "NoNet") = false := by decide +kernel
@[simp] theorem nn_NoRules_NoSpot : (Str.ofString "NoRules" == Str.ofString "NoSpot") = false := by decide +kernel
@[simp] theorem nn_NoRules_NoStones : (Str.ofString "NoRules" == Str.ofString "NoStones") = false := by decide +kernel
@[simp] theorem nn_NoRules_NoLay : (Str.ofString "NoRules" == Str.ofString "NoLay") = false := by decide +kernel
@[simp] theorem nn_NoRules_NoStep : (Str.ofString "NoRules" == Str.ofString "NoStep") = false := by decide +kernel
@[simp] theorem nn_NoRules_NoPlay : (Str.ofString "NoRules" == Str.ofString "NoPlay") = false := by decide +kernel
@[simp] theorem nn_NoRules_NoTree : (Str.ofString "NoRules" == Str.ofString "NoTree") = false := by decide +kernel
@[simp] theorem nn_NoRules_NoText : (Str.ofString "NoRules" == Str.ofString "NoText") = false := by decide +kernel
@[simp] theorem nn_NoRules_NoWay : (Str.ofString "NoRules" == Str.ofString "NoWay") = false := by decide +kernel
@[simp] theorem nn_NoRules_NoOrder : (Str.ofString "NoRules" == Str.ofString "NoOrder") = false := by decide +kernel
@[simp] theorem nn_NoRules_NoGoals : (Str.ofString "NoRules" == Str.ofString "NoGoals") = false := by decide +kernel
@[simp] theorem nn_NoRules_NoRow : (Str.ofString "NoRules" == Str.ofString "NoRow") = false := by decide +kernel
@[simp] theorem nn_NoStones_NoNet : (Str.ofString "NoStones" == Str.ofString "NoNet") = false := by decide +kernel
@[simp] theorem nn_NoStones_NoSpot : (Str.ofString "NoStones" == Str.ofString "NoSpot") = false := by decide +kernel
@[simp] theorem nn_NoStones_NoRules : (Str.ofString "NoStones" == Str.ofString "NoRules") = false := by decide +kernel
@[simp] theorem nn_NoStones_NoLay : (Str.ofString "NoStones" == Str.ofString "NoLay") = false := by decide +kernel
@[simp] theorem nn_NoStones_NoStep : (Str.ofString "NoStones" == Str.ofString "NoStep") = false := by decide +kernel
@[simp] theorem nn_NoStones_NoPlay : (Str.ofString "NoStones" == Str.ofString "NoPlay") = false := by decide +kernel
@[simp] theorem nn_NoStones_NoTree : (Str.ofString "NoStones" == Str.ofString "NoTree") = false := by decide +kernel
@[simp] theorem nn_NoStones_NoText : (Str.ofString "NoStones" == Str.ofString "NoText") = false := by decide +kernel
@[simp] theorem nn_NoStones_NoWay : (Str.ofString "NoStones" == Str.ofString "NoWay") = false := by decide +kernel
@[simp] theorem nn_NoStones_NoOrder : (Str.ofString "NoStones" == Str.ofString "NoOrder") = false := by decide +kernel
@[simp] theorem nn_NoStones_NoGoals : (Str.ofString "NoStones" == Str.ofString "NoGoals") = false := by decide +kernel
@[simp] theorem nn_NoStones_NoRow : (Str.ofString "NoStones" == Str.ofString "NoRow") = false := by decide +kernel
@[simp] theorem nn_NoLay_NoNet : (Str.ofString "NoLay" == Str.ofString "NoNet") = false := by decide +kernel
@[simp] theorem nn_NoLay_NoSpot : (Str.ofString "NoLay" == Str.ofString "NoSpot") = false := by decide +kernel
@[simp] theorem nn_NoLay_NoRules : (Str.ofString "NoLay" == Str.ofString "NoRules") = false := by decide +kernel
@[simp] theorem nn_NoLay_NoStones : (Str.ofString "NoLay" == Str.ofString "NoStones") = false := by decide +kernel
@[simp] theorem nn_NoLay_NoStep : (Str.ofString "NoLay" == Str.ofString "NoStep") = false := by decide +kernel
@[simp] theorem nn_NoLay_NoPlay : (Str.ofString "NoLay" == Str.ofString "NoPlay") = false := by decide +kernel
@[simp] theorem nn_NoLay_NoTree : (Str.ofString "NoLay" == Str.ofString "NoTree") = false := by decide +kernel
@[simp] theorem nn_NoLay_NoText : (Str.ofString "NoLay" == Str.ofString "NoText") = false := by decide +kernel
@[simp] theorem nn_NoLay_NoWay : (Str.ofString "NoLay" == Str.ofString "NoWay") = false := by decide +kernel
@[simp] theorem nn_NoLay_NoOrder : (Str.ofString "NoLay" == Str.ofString "NoOrder") = false := by decide +kernel
@[simp] theorem nn_NoLay_NoGoals : (Str.ofString "NoLay" == Str.ofString "NoGoals") = false := by decide +kernel
@[simp] theorem nn_NoLay_NoRow : (Str.ofString "NoLay" == Str.ofString "NoRow") = false := by decide +kernel
@[simp] theorem nn_NoStep_NoNet : (Str.ofString "NoStep" == Str.ofString "NoNet") = false := by decide +kernel
@[simp] theorem nn_NoStep_NoSpot : (Str.ofString "NoStep" == Str.ofString "NoSpot") = false := by decide +kernel
@[simp] theorem nn_NoStep_NoRules : (Str.ofString "NoStep" == Str.ofString "NoRules") = false := by decide +kernel
@[simp] theorem nn_NoStep_NoStones : (Str.ofString "NoStep" == Str.ofString "NoStones") = false := by decide +kernel
@[simp] theorem nn_NoStep_NoLay : (Str.ofString "NoStep" == Str.ofString "NoLay") = false := by decide +kernel
@[simp] theorem nn_NoStep_NoPlay : (Str.ofString "NoStep" == Str.ofString "NoPlay") = false := by decide +kernel
@[simp] theorem nn_NoStep_NoTree : (Str.ofString "NoStep" == Str.ofString "NoTree") = false := by decide +kernel
@[simp] theorem nn_NoStep_NoText : (Str.ofString "NoStep" == Str.ofString "NoText") = false := by decide +kernel
@[simp] theorem nn_NoStep_NoWay : (Str.ofString "NoStep" == Str.ofString "NoWay") = false := by decide +kernel
@[simp] theorem nn_NoStep_NoOrder : (Str.ofString "NoStep" == Str.ofString "NoOrder") = false := by decide +kernel
@[simp] theorem nn_NoStep_NoGoals : (Str.ofString "NoStep" == Str.ofString "NoGoals") = false := by decide +kernel
@[simp] theorem nn_NoStep_NoRow : (Str.ofString "NoStep" == Str.ofString "NoRow") = false := by decide +kernel
@[simp] theorem nn_NoPlay_NoNet : (Str.ofString "NoPlay" == Str.ofString "NoNet") = false := by decide +kernel
@[simp] theorem nn_NoPlay_NoSpot : (Str.ofString "NoPlay" == Str.ofString "NoSpot") = false := by decide +kernel
@[simp] theorem nn_NoPlay_NoRules : (Str.ofString "NoPlay" == Str.ofString "NoRules") = false := by decide +kernel
@[simp] theorem nn_NoPlay_NoStones : (Str.ofString "NoPlay" == Str.ofString "NoStones") = false := by decide +kernel
@[simp] theorem nn_NoPlay_NoLay : (Str.ofString "NoPlay" == Str.ofString "NoLay") = false := by decide +kernel
@[simp] theorem nn_NoPlay_NoStep : (Str.ofString "NoPlay" == Str.ofString "NoStep") = false := by decide +kernel
@[simp] theorem nn_NoPlay_NoTree : (Str.ofString "NoPlay" == Str.ofString "NoTree") = false := by decide +kernel
@[simp] theorem nn_NoPlay_NoText : (Str.ofString "NoPlay" == Str.ofString "NoText") = false := by decide +kernel
@[simp] theorem nn_NoPlay_NoWay : (Str.ofString "NoPlay" == Str.ofString "NoWay") = false := by decide +kernel
@[simp] theorem nn_NoPlay_NoOrder : (Str.ofString "NoPlay" == Str.ofString "NoOrder") = false := by decide +kernel
@[simp] theorem nn_NoPlay_NoGoals : (Str.ofString "NoPlay" == Str.ofString "NoGoals") = false := by decide +kernel
@[simp] theorem nn_NoPlay_NoRow : (Str.ofString "NoPlay" == Str.ofString "NoRow") = false := by decide +kernel
@[simp] theorem nn_NoTree_NoNet : (Str.ofString "NoTree" == Str.ofString "NoNet") = false := by decide +kernel
@[simp] theorem nn_NoTree_NoSpot : (Str.ofString "NoTree" == Str.ofString "NoSpot") = false := by decide +kernel
@[simp] theorem nn_NoTree_NoRules : (Str.ofString "NoTree" == Str.ofString "NoRules") = false := by decide +kernel
@[simp] theorem nn_NoTree_NoStones : (Str.ofString "NoTree" == Str.ofString "NoStones") = false := by decide +kernel
@[simp] theorem nn_NoTree_NoLay : (Str.ofString "NoTree" == Str.ofString "NoLay") = false := by decide +kernel
@[simp] theorem nn_NoTree_NoStep : (Str.ofString "NoTree" == Str.ofString "NoStep") = false := by decide +kernel
@[simp] theorem nn_NoTree_NoPlay : (Str.ofString "NoTree" == Str.ofString "NoPlay") = false := by decide +kernel
@[simp] theorem nn_NoTree_NoText : (Str.ofString "NoTree" == Str.ofString "NoText") = false := by decide +kernel
@[simp] theorem nn_NoTree_NoWay : (Str.ofString "NoTree" == Str.ofString "NoWay") = false := by decide +kernel
@[simp] theorem nn_NoTree_NoOrder : (Str.ofString "NoTree" == Str.ofString "NoOrder") = false := by decide +kernel
@[simp] theorem nn_NoTree_NoGoals : (Str.ofString "NoTree" == Str.ofString "NoGoals") = false := by decide +kernel
@[simp] theorem nn_NoTree_NoRow : (Str.ofString "NoTree" == Str.ofString "NoRow") = false := by decide +kernel
@[simp] theorem nn_NoText_NoNet : (Str.ofString "NoText" == Str.ofString "NoNet") = false := by decide +kernel
@[simp] theorem nn_NoText_NoSpot : (Str.ofString "NoText" == Str.ofString "NoSpot") = false := by decide +kernel
@[simp] theorem nn_NoText_NoRules : (Str.ofString "NoText" == Str.ofString "NoRules") = false := by decide +kernel
@[simp] theorem nn_NoText_NoStones : (Str.ofString "NoText" == Str.ofString "NoStones") = false := by decide +kernel
@[simp] theorem nn_NoText_NoLay : (Str.ofString "NoText" == Str.ofString "NoLay") = false := by decide +kernel
@[simp] theorem nn_NoText_NoStep : (Str.ofString "NoText" == Str.ofString "NoStep") = false := by decide +kernel
@[simp] theorem nn_NoText_NoPlay : (Str.ofString "NoText" == Str.ofString "NoPlay") = false := by decide +kernel
@[simp] theorem nn_NoText_NoTree : (Str.ofString "NoText" == Str.ofString "NoTree") = false := by decide +kernel
@[simp] theorem nn_NoText_NoWay : (Str.ofString "NoText" == Str.ofString "NoWay") = false := by decide +kernel
@[simp] theorem nn_NoText_NoOrder : (Str.ofString "NoText" == Str.ofString "NoOrder") = false := by decide +kernel
@[simp] theorem nn_NoText_NoGoals : (Str.ofString "NoText" == Str.ofString "NoGoals") = false := by decide +kernel
@[simp] theorem nn_NoText_NoRow : (Str.ofString "NoText" == Str.ofString "NoRow") = false := by decide +kernel
@[simp] theorem nn_NoWay_NoNet : (Str.ofString "NoWay" == Str.ofString "NoNet") = false := by decide +kernel
@[simp] theorem nn_NoWay_NoSpot : (Str.ofString "NoWay" == Str.ofString "NoSpot") = false := by decide +kernel
@[simp] theorem nn_NoWay_NoRules : (Str.ofString "NoWay" == Str.ofString "NoRules") = false := by decide +kernel
@[simp] theorem nn_NoWay_NoStones : (Str.ofString "NoWay" == Str.ofString "NoStones") = false := by decide +kernel
@[simp] theorem nn_NoWay_NoLay : (Str.ofString "NoWay" == Str.ofString "NoLay") = false := by decide +kernel
@[simp] theorem nn_NoWay_NoStep : (Str.ofString "NoWay" == Str.ofString "NoStep") = false := by decide +kernel
@[simp] theorem nn_NoWay_NoPlay : (Str.ofString "NoWay" == Str.ofString "NoPlay") = false := by decide +kernel
@[simp] theorem nn_NoWay_NoTree : (Str.ofString "NoWay" == Str.ofString "NoTree") = false := by decide +kernel
@[simp] theorem nn_NoWay_NoText : (Str.ofString "NoWay" == Str.ofString "NoText") = false := by decide +kernel
@[simp] theorem nn_NoWay_NoOrder : (Str.ofString "NoWay" == Str.ofString "NoOrder") = false := by decide +kernel
@[simp] theorem nn_NoWay_NoGoals : (Str.ofString "NoWay" == Str.ofString "NoGoals") = false := by decide +kernel
@[simp] theorem nn_NoWay_NoRow : (Str.ofString "NoWay" == Str.ofString "NoRow") = false := by decide +kernel
@[simp] theorem nn_NoOrder_NoNet : (Str.ofString "NoOrder" == Str.ofString "NoNet") = false := by decide +kernel
@[simp] theorem nn_NoOrder_NoSpot : (Str.ofString "NoOrder" == Str.ofString "NoSpot") = false := by decide +kernel
@[simp] theorem nn_NoOrder_NoRules : (Str.ofString "NoOrder" == Str.ofString "NoRules") = false := by decide +kernel
@[simp] theorem nn_NoOrder_NoStones : (Str.ofString "NoOrder" == Str.ofString "NoStones") = false := by decide +kernel
@[simp] theorem nn_NoOrder_NoLay : (Str.ofString "NoOrder" == Str.ofString "NoLay") = false := by decide +kernel
@[simp] theorem nn_NoOrder_NoStep : (Str.ofString "NoOrder" == Str.ofString "NoStep") = false := by decide +kernel
@[simp] theorem nn_NoOrder_NoPlay : (Str.ofString "NoOrder" == Str.ofString "NoPlay") = false := by decide +kernel
@[simp] theorem nn_NoOrder_NoTree : (Str.ofString "NoOrder" == Str.ofString "NoTree") = false := by decide +kernel
@[simp] theorem nn_NoOrder_NoText : (Str.ofString "NoOrder" == Str.ofString "NoText") = false := by decide +kernel
@[simp] theorem nn_NoOrder_NoWay : (Str.ofString "NoOrder" == Str.ofString "NoWay") = false := by decide +kernel
@[simp] theorem nn_NoOrder_NoGoals : (Str.ofString "NoOrder" == Str.ofString "NoGoals") = false := by decide +kernel
@[simp] theorem nn_NoOrder_NoRow : (Str.ofString "NoOrder" == Str.ofString "NoRow") = false := by decide +kernel
@[simp] theorem nn_NoGoals_NoNet : (Str.ofString "NoGoals" == Str.ofString "NoNet") = false := by decide +kernel
@[simp] theorem nn_NoGoals_NoSpot : (Str.ofString "NoGoals" == Str.ofString "NoSpot") = false := by decide +kernel
@[simp] theorem nn_NoGoals_NoRules : (Str.ofString "NoGoals" == Str.ofString "NoRules") = false := by decide +kernel
@[simp] theorem nn_NoGoals_NoStones : (Str.ofString "NoGoals" == Str.ofString "NoStones") = false := by decide +kernel
@[simp] theorem nn_NoGoals_NoLay : (Str.ofString "NoGoals" == Str.ofString "NoLay") = false := by decide +kernel
@[simp] theorem nn_NoGoals_NoStep : (Str.ofString "NoGoals" == Str.ofString "NoStep") = false := by decide +kernel
@[simp] theorem nn_NoGoals_NoPlay : (Str.ofString "NoGoals" == Str.ofString "NoPlay") = false := by decide +kernel
@[simp] theorem nn_NoGoals_NoTree : (Str.ofString "NoGoals" == Str.ofString "NoTree") = false := by decide +kernel
@[simp] theorem nn_NoGoals_NoText : (Str.ofString "NoGoals" == Str.ofString "NoText") = false := by decide +kernel
@[simp] theorem nn_NoGoals_NoWay : (Str.ofString "NoGoals" == Str.ofString "NoWay") = false := by decide +kernel
@[simp] theorem nn_NoGoals_NoOrder : (Str.ofString "NoGoals" == Str.ofString "NoOrder") = false := by decide +kernel
@[simp] theorem nn_NoGoals_NoRow : (Str.ofString "NoGoals" == Str.ofString "NoRow") = false := by decide +kernel
@[simp] theorem nn_NoRow_NoNet : (Str.ofString "NoRow" == Str.ofString "NoNet") = false := by decide +kernel
@[simp] theorem nn_NoRow_NoSpot : (Str.ofString "NoRow" == Str.ofString "NoSpot") = false := by decide +kernel
@[simp] theorem nn_NoRow_NoRules : (Str.ofString "NoRow" == Str.ofString "NoRules") = false := by decide +kernel
@[simp] theorem nn_NoRow_NoStones : (Str.ofString "NoRow" == Str.ofString "NoStones") = false := by decide +kernel
@[simp] theorem nn_NoRow_NoLay : (Str.ofString "NoRow" == Str.ofString "NoLay") = false := by decide +kernel
@[simp] theorem nn_NoRow_NoStep : (Str.ofString "NoRow" == Str.ofString "NoStep") = false := by decide +kernel
@[simp] theorem nn_NoRow_NoPlay : (Str.ofString "NoRow" == Str.ofString "NoPlay") = false := by decide +kernel
@[simp] theorem nn_NoRow_NoTree : (Str.ofString "NoRow" == Str.ofString "NoTree") = false := by decide +kernel
@[simp] theorem nn_NoRow_NoText : (Str.ofString "NoRow" == Str.ofString "NoText") = false := by decide +kernel
@[simp] theorem nn_NoRow_NoWay : (Str.ofString "NoRow" == Str.ofString "NoWay") = false := by decide +kernel
@[simp] theorem nn_NoRow_NoOrder : (Str.ofString "NoRow" == Str.ofString "NoOrder") = false := by decide +kernel
@[simp] theorem nn_NoRow_NoGoals : (Str.ofString "NoRow" == Str.ofString "NoGoals") = false := by decide +kernel
@[simp] theorem eqF_bb (a b : Bool) : eqF (.bool a) (.bool b) = (a == b) := rfl
@[simp] theorem isFlat_b (b : Bool) : isFlat (.bool b) = true := rfl
@[simp] theorem isFlat_i (b : Int) : isFlat (.int b) = true := rfl
@[simp] theorem isFlat_s (b : Str) : isFlat (.str b) = true := rfl
@[simp] theorem oCount_list (ds : List PyData) (d : PyData) : oCount (.list ds) [d] = if isFlat d && ds.all isFlat then frzI (ds.countP fun z => eqF z d : Nat) else .no := rfl
@[simp] theorem oIndex_list (ds : List PyData) (d : PyData) : oIndex (.list ds) [d] = if isFlat d && ds.all isFlat then match ds.findIdx? fun z => eqF z d with
    | some j => frzI (j : Nat)
    | none => .no
    else .no := rfl
end DL

namespace DL
open PySem L2
def c__law_classes (a : Addr) (x : Str) : CS := (cSeq (cSet 1 (cLst [(.ex (cIsE a (x == "NoNet") 0)), (.ex (cIsE a (x == "NoSpot") 0)), (.ex (cIsE a (x == "NoRules") 0)), (.ex (cIsE a (x == "NoStones") 0))]))
    (cSeq (cSet 1 (cOp2 oAdd (.nm 1) (.ex (cLst [(.ex (cIsE a (x == "NoLay") 0)), (.ex (cIsE a (x == "NoStep") 0)), (.ex (cIsE a (x == "NoPlay") 0)), (.ex (cIsE a (x == "NoTree") 0))]))))
    (cSeq (cSet 1 (cOp2 oAdd (.nm 1) (.ex (cLst [(.ex (cIsE a (x == "NoText") 0)), (.ex (cIsE a (x == "NoWay") 0)), (.ex (cIsE a (x == "NoOrder") 0)), (.ex (cIsE a (x == "NoGoals") 0))]))))
    (cRet (cOp2 oAdd (.nm 1) (.ex (cLst [(.ex (cIsE a (x == "NoRow") 0))])))))))
def m__law_classes (a : Addr) (x : Str) : Fn := runDef 2 (c__law_classes a x)
def c__law_only (a : Addr) (x : Str) : CS := (cSeq (cIfS (cOrT (cNotT (toT (cIsE a true 0))) (cNotT (toT (cIsE a true 0)))) (cRet (cK (.bool false))) cNext)
    (cRet (cOp2 oEq (.ex (cCall (m__law_classes a x) [(.nm 0)])) (.ex (cComp (.one 2) (iArgs rg1 [(.ex (cK (.int 13)))]) tYesC (cOp2 oEq (.nm 2) (.nm 1)) [2])))))
def m__law_only (a : Addr) (x : Str) : Fn := runDef 3 (c__law_only a x)
def idxT : List (Str × Nat) := [("NoNet", 0), ("NoSpot", 1), ("NoRules", 2), ("NoStones", 3), ("NoLay", 4), ("NoStep", 5), ("NoPlay", 6), ("NoTree", 7), ("NoText", 8), ("NoWay", 9), ("NoOrder", 10), ("NoGoals", 11), ("NoRow", 12)]
def boolsAt (q : Nat) : List PyData := (List.range 13).map fun k => .bool (decide (k = q))
end DL

namespace DL
open PySem L2
def nds (net : List (List Nat)) (s : Nat) : List Nat := net[s]?.getD []
inductive Reach (net : List (List Nat)) (s : Nat) : Nat → Prop
  | here : Reach net s s
  | down {a b : Nat} : Reach net s a → b ∈ nds net a → Reach net s b
theorem nds_lt {net : List (List Nat)} (h : NetOk net) {s n : Nat} (m : n ∈ nds net s) : n < s := by
  unfold nds at m
  cases e : net[s]? with
  | none => rw [e] at m; cases m
  | some l => rw [e] at m; exact h.low s l e n m
theorem nds_inc {net : List (List Nat)} (h : NetOk net) (s : Nat) : (nds net s).Pairwise (· < ·) := by
  unfold nds
  cases e : net[s]? with
  | none => exact .nil
  | some l => exact h.inc s l e
theorem Reach.le {net : List (List Nat)} (h : NetOk net) {s a : Nat} (r : Reach net s a) : a ≤ s := by
  induction r with
  | here => exact Nat.le_refl _
  | down _ m ih => have := nds_lt h m; omega
theorem Reach.trans {net : List (List Nat)} {s a b : Nat} (r : Reach net s a) (q : Reach net a b) : Reach net s b := by
  induction q with
  | here => exact r
  | down _ m ih => exact .down ih m
def insN (x : Nat) : List Nat → List Nat
  | [] => [x]
  | y :: l => if x ≤ y then x :: y :: l else y :: insN x l
def sortN : List Nat → List Nat
  | [] => []
  | x :: l => insN x (sortN l)
theorem insN_perm (x : Nat) : ∀ l : List Nat, (insN x l).Perm (x :: l)
  | [] => .refl _
  | y :: l => by
    unfold insN
    by_cases h : x ≤ y
    · rw [if_pos h]
    · rw [if_neg h]; exact ((insN_perm x l).cons y).trans (.swap x y l)
theorem sortN_perm : ∀ l : List Nat, (sortN l).Perm l
  | [] => .refl _
  | x :: l => (insN_perm x (sortN l)).trans ((sortN_perm l).cons x)
theorem insI_map (x : Nat) : ∀ l : List Nat, insI (x : Int) (l.map fun (n : Nat) => (n : Int)) = (insN x l).map fun (n : Nat) => (n : Int)
  | [] => rfl
  | y :: l => by
    rw [List.map_cons]; unfold insI insN
    by_cases h : x ≤ y
    · rw [if_pos h, if_pos (by omega)]; rfl
    · rw [if_neg h, if_neg (by omega), insI_map x l]; rfl
theorem sortI_map : ∀ l : List Nat, sortI (l.map fun (n : Nat) => (n : Int)) = (sortN l).map fun (n : Nat) => (n : Int)
  | [] => rfl
  | x :: l => by
    rw [List.map_cons]; unfold sortI sortN
    rw [sortI_map l, insI_map]
theorem insN_sorted (x : Nat) : ∀ l : List Nat, l.Pairwise (· ≤ ·) → (insN x l).Pairwise (· ≤ ·)
  | [], _ => by unfold insN; simp
  | y :: l, h => by
    rw [List.pairwise_cons] at h
    unfold insN
    by_cases q : x ≤ y
    · rw [if_pos q, List.pairwise_cons, List.pairwise_cons]
      refine ⟨fun a ha => ?_, h.1, h.2⟩
      rcases List.mem_cons.mp ha with rfl | ha
      · exact q
      · have := h.1 a ha; omega
    · rw [if_neg q, List.pairwise_cons]
      refine ⟨fun a ha => ?_, insN_sorted x l h.2⟩
      have := (insN_perm x l).mem_iff.mp ha
      rcases List.mem_cons.mp this with rfl | ha
      · omega
      · exact h.1 a ha
theorem sortN_sorted : ∀ l : List Nat, (sortN l).Pairwise (· ≤ ·)
  | [] => .nil
  | x :: l => insN_sorted x _ (sortN_sorted l)
theorem perm_sorted_eq : ∀ {a b : List Nat}, a.Perm b → a.Pairwise (· ≤ ·) → b.Pairwise (· ≤ ·) → a = b := fun p h1 h2 =>
  List.Perm.eq_of_pairwise (fun a b _ _ h h' => Nat.le_antisymm h h') h1 h2 p
theorem sortN_of_sorted {l : List Nat} (h : l.Pairwise (· ≤ ·)) : sortN l = l := perm_sorted_eq (sortN_perm l) (sortN_sorted l) h
theorem intsOf_nD : ∀ l : List Nat, intsOf (l.map nD) = some (l.map fun (n : Nat) => (n : Int))
  | [] => rfl
  | x :: l => by rw [List.map_cons, List.map_cons]; unfold intsOf; simp [intsOf_nD l]
@[simp] theorem oSorted_nD (l : List Nat) : oSortedA [.list (l.map nD)] = .val (.own false (.list ((sortN l).map nD))) := by
  unfold oSortedA
  simp [intsOf_nD, sortI_map]
@[simp] theorem oSorted_la (l : List Nat) : oSortedA [laD l] = .val (.own false (.list ((sortN l).map nD))) := by
  unfold oSortedA laD
  simp [intsOf_nD, sortI_map]
@[simp] theorem oSorted_snoc (l : List Nat) (n : Nat) : oSortedA [.list (l.map nD ++ [PyData.int (n : Int)])] = .val (.own false (.list ((sortN (l ++ [n])).map nD))) := by
  have := oSorted_nD (l ++ [n])
  rw [List.map_append] at this
  exact this
open Classical in
noncomputable def below (net : List (List Nat)) (s : Nat) : List Nat := (List.range (s + 1)).filter fun x => decide (Reach net s x)
theorem mem_below {net : List (List Nat)} (h : NetOk net) {s x : Nat} : x ∈ below net s ↔ Reach net s x := by
  unfold below
  rw [List.mem_filter]
  simp only [List.mem_range, decide_eq_true_eq]
  exact ⟨fun q => q.2, fun q => ⟨by have := q.le h; omega, q⟩⟩
theorem below_inc (net : List (List Nat)) (s : Nat) : (below net s).Pairwise (· < ·) := by
  unfold below; exact List.Pairwise.filter _ List.pairwise_lt_range
theorem lt_nodup {l : List Nat} (h : l.Pairwise (· < ·)) : l.Nodup := h.imp fun q => Nat.ne_of_lt q
theorem lt_le {l : List Nat} (h : l.Pairwise (· < ·)) : l.Pairwise (· ≤ ·) := h.imp fun q => Nat.le_of_lt q
theorem below_len {net : List (List Nat)} (s : Nat) : (below net s).length ≤ s + 1 := by
  unfold below; exact Nat.le_trans (List.length_filter_le _ _) (by simp)
theorem nodup_le {l : List Nat} {s : Nat} (h : l.Nodup) (hs : ∀ x ∈ l, x ≤ s) : l.length ≤ s + 1 := by
  have := List.Nodup.length_le_of_subset h (l₂ := List.range (s + 1)) fun x hx => by have := hs x hx; simp; omega
  simpa using this
end DL

namespace DL
open PySem L2
def c__law_below : CS := (cSeq (cSet 2 (cLst [(.ex (cVar 1))]))
    (cSeq (cFor (.one 3) (iArgs rg3 [(.nm 1), (.ex (cNeg (.ex (cK (.int 1))))), (.ex (cNeg (.ex (cK (.int 1)))))]) (cIfS (toT (cOp2 oNe (.ex (cCompO 2 (.one 4) (toT (cOp2 (oIn false) (.nm 3) (.ex (cOp2 oIx (.nm 0) (.nm 4))))) (cVar 4) [4])) (.ex (cLst [])))) (cDrop (cMethT "list" mAppend 2 [(.ex (cVar 3))])) cNext))
    (cRet (cOpN oSortedA [(.nm 2)]))))
def m__law_below : Fn := runDef 5 c__law_below
@[simp] theorem oLen_script (ns : List Int) : oLen [scriptD ns] = .val (.frz (.int ns.length)) := by unfold scriptD; rw [oLen_scr, List.length_map]
theorem law_items (ns : List Int) {N : Int} (h1 : 1 ≤ N) (h2 : N ≤ 100) {env : Cs} (h0 : gC 0 env = .frz (scriptD ns)) :
    ∃ t : Nat, t ≤ 100 ∧ iArgs rg1 [.ex (cOpN oMax2 [.ex (cK (.int 1)), .ex (cOpN oMin2 [.ex (cOpN oLen [.nm 0]), .ex (cK (.int N))])])] env = .ok ((List.range t).map nD) env := by
  simp [h0]
  obtain ⟨t, ht, ht2⟩ : ∃ t : Nat, (if 1 < (if N < (ns.length : Int) then N else (ns.length : Int)) then (if N < (ns.length : Int) then N else (ns.length : Int)) else 1) = (t : Int) ∧ t ≤ 100 := by
    by_cases h : N < (ns.length : Int)
    · simp only [if_pos h]
      by_cases h1 : 1 < N
      · rw [if_pos h1]; exact ⟨N.toNat, by omega, by omega⟩
      · rw [if_neg h1]; exact ⟨1, rfl, by omega⟩
    · simp only [if_neg h]
      by_cases h1 : 1 < (ns.length : Int)
      · rw [if_pos h1]; exact ⟨ns.length, rfl, by omega⟩
      · rw [if_neg h1]; exact ⟨1, rfl, by omega⟩
  refine ⟨t, ht2, ?_⟩
  rw [ht]
  simp [rgD0, show -1000000 ≤ (t : Int) by omega, show (t : Int) ≤ 1000000 by omega]
theorem law_outer {ns : List Int} {n : Nat} {body : CS} {N : Int} (h1 : 1 ≤ N) (h2 : N ≤ 100) (J : Cs → Prop) (h0 : J (emps (n - 1)))
    (hb : ∀ k : Nat, k < 1000 → ∀ js, J js → ∀ K', (∀ js', J js' → K'.nx (.frz (scriptD ns) :: js')) → (∀ js', J js' → K'.ct (.frz (scriptD ns) :: js')) → isO ((Tg.one 1).put (nD k) (.frz (scriptD ns) :: js)) fun e1 => (body e1).sat K') :
    runDef n (cSeq (cFor (.one 1) (iArgs rg1 [.ex (cOpN oMax2 [.ex (cK (.int 1)), .ex (cOpN oMin2 [.ex (cOpN oLen [.nm 0]), .ex (cK (.int N))])])]) body) (cRet (cK (.bool true)))) [scriptD ns] = .ok (.frz (.bool true)) := by
  apply run_of; intro K kk
  show SRes.sat K (cSeq _ _ (.frz (scriptD ns) :: emps (n - 1)))
  obtain ⟨t, ht, hi⟩ := law_items ns h1 h2 (env := .frz (scriptD ns) :: emps (n - 1)) rfl
  rw [ev_seq, ev_for, hi]
  refine sat_forT (fun rest e => ∃ js, e = .frz (scriptD ns) :: js ∧ J js ∧ ∀ k ∈ rest, k < 1000) ⟨_, rfl, h0, fun k hk => by simp at hk; omega⟩ ?_ ?_
  · rintro k rest e ⟨js, rfl, hj, hr⟩ K' L
    exact hb k (hr k List.mem_cons_self) js hj K' (fun js' hj' => L.nx _ ⟨js', rfl, hj', fun k hk => hr k (List.mem_cons_of_mem _ hk)⟩) (fun js' hj' => L.ct _ ⟨js', rfl, hj', fun k hk => hr k (List.mem_cons_of_mem _ hk)⟩)
  · rintro e ⟨js, rfl, hj, hr⟩
    exact kk.rt _ _ rfl
end DL

namespace DL
open PySem L2
theorem oNe_strs (a b : Str) : oNe (.str a) (.str b) = .val (.frz (.bool (!(a == b)))) := rfl
theorem oEq_str {a b : Str} (ha : PyData.strOk a = true) (hb : PyData.strOk b = true) : oEq (.str a) (.str b) = .val (.frz (.bool (a == b))) := rfl
theorem oNe_str {a b : Str} (ha : PyData.strOk a = true) (hb : PyData.strOk b = true) : oNe (.str a) (.str b) = .val (.frz (.bool (!(a == b)))) := rfl
inductive Rul where
  | plain
  | slide
  | careful
deriving DecidableEq
def ruS : Rul → Str
  | .plain => "plain"
  | .slide => "slide"
  | .careful => "careful"
def ruD (r : Rul) : PyData := .str (ruS r)
inductive Stp where
  | put (s : Nat)
  | take (s : Nat)
  | slide (n s : Nat)
deriving DecidableEq
def stD : Stp → PyData
  | .put s => .tuple [.str "put", .int s]
  | .take s => .tuple [.str "take", .int s]
  | .slide n s => .tuple [.str "slide", .int n, .int s]
def Stp.top : Stp → Nat
  | .put s => s
  | .take s => s
  | .slide _ s => s
theorem ok_put : PyData.strOk (Str.ofString "put") = true := by decide +kernel
theorem ok_take : PyData.strOk (Str.ofString "take") = true := by decide +kernel
theorem ok_slide : PyData.strOk (Str.ofString "slide") = true := by decide +kernel
theorem ok_plain : PyData.strOk (Str.ofString "plain") = true := by decide +kernel
theorem ok_careful : PyData.strOk (Str.ofString "careful") = true := by decide +kernel
theorem ne_put_take : (Str.ofString "put" == Str.ofString "take") = false := by decide +kernel
theorem ne_take_put : (Str.ofString "take" == Str.ofString "put") = false := by decide +kernel
theorem ne_slide_put : (Str.ofString "slide" == Str.ofString "put") = false := by decide +kernel
theorem ne_slide_take : (Str.ofString "slide" == Str.ofString "take") = false := by decide +kernel
theorem ne_put_slide : (Str.ofString "put" == Str.ofString "slide") = false := by decide +kernel
theorem ne_take_slide : (Str.ofString "take" == Str.ofString "slide") = false := by decide +kernel
theorem ne_plain_slide : (Str.ofString "plain" == Str.ofString "slide") = false := by decide +kernel
theorem ne_plain_careful : (Str.ofString "plain" == Str.ofString "careful") = false := by decide +kernel
theorem ne_slide_plain : (Str.ofString "slide" == Str.ofString "plain") = false := by decide +kernel
theorem ne_slide_careful : (Str.ofString "slide" == Str.ofString "careful") = false := by decide +kernel
theorem ne_careful_plain : (Str.ofString "careful" == Str.ofString "plain") = false := by decide +kernel
theorem ne_careful_slide : (Str.ofString "careful" == Str.ofString "slide") = false := by decide +kernel
@[simp] theorem w_put_put : oEq (.str (Str.ofString "put")) (.str (Str.ofString "put")) = .val (.frz (.bool true)) := by rw [oEq_str ok_put ok_put, beq_self_eq_true]
@[simp] theorem w_put_take : oEq (.str (Str.ofString "put")) (.str (Str.ofString "take")) = .val (.frz (.bool false)) := by rw [oEq_str ok_put ok_take, ne_put_take]
@[simp] theorem w_put_slide : oEq (.str (Str.ofString "put")) (.str (Str.ofString "slide")) = .val (.frz (.bool false)) := by rw [oEq_str ok_put ok_slide, ne_put_slide]
@[simp] theorem w_take_put : oEq (.str (Str.ofString "take")) (.str (Str.ofString "put")) = .val (.frz (.bool false)) := by rw [oEq_str ok_take ok_put, ne_take_put]
@[simp] theorem w_take_take : oEq (.str (Str.ofString "take")) (.str (Str.ofString "take")) = .val (.frz (.bool true)) := by rw [oEq_str ok_take ok_take, beq_self_eq_true]
@[simp] theorem w_take_slide : oEq (.str (Str.ofString "take")) (.str (Str.ofString "slide")) = .val (.frz (.bool false)) := by rw [oEq_str ok_take ok_slide, ne_take_slide]
@[simp] theorem w_slide_put : oEq (.str (Str.ofString "slide")) (.str (Str.ofString "put")) = .val (.frz (.bool false)) := by rw [oEq_str ok_slide ok_put, ne_slide_put]
@[simp] theorem w_slide_take : oEq (.str (Str.ofString "slide")) (.str (Str.ofString "take")) = .val (.frz (.bool false)) := by rw [oEq_str ok_slide ok_take, ne_slide_take]
@[simp] theorem w_slide_slide : oEq (.str (Str.ofString "slide")) (.str (Str.ofString "slide")) = .val (.frz (.bool true)) := by rw [oEq_str ok_slide ok_slide, beq_self_eq_true]
@[simp] theorem v_put_put : oNe (.str (Str.ofString "put")) (.str (Str.ofString "put")) = .val (.frz (.bool false)) := by rw [oNe_str ok_put ok_put, beq_self_eq_true]; rfl
@[simp] theorem v_put_take : oNe (.str (Str.ofString "put")) (.str (Str.ofString "take")) = .val (.frz (.bool true)) := by rw [oNe_str ok_put ok_take, ne_put_take]; rfl
@[simp] theorem v_take_put : oNe (.str (Str.ofString "take")) (.str (Str.ofString "put")) = .val (.frz (.bool true)) := by rw [oNe_str ok_take ok_put, ne_take_put]; rfl
@[simp] theorem v_take_take : oNe (.str (Str.ofString "take")) (.str (Str.ofString "take")) = .val (.frz (.bool false)) := by rw [oNe_str ok_take ok_take, beq_self_eq_true]; rfl
@[simp] theorem v_slide_put : oNe (.str (Str.ofString "slide")) (.str (Str.ofString "put")) = .val (.frz (.bool true)) := by rw [oNe_str ok_slide ok_put, ne_slide_put]; rfl
@[simp] theorem v_slide_take : oNe (.str (Str.ofString "slide")) (.str (Str.ofString "take")) = .val (.frz (.bool true)) := by rw [oNe_str ok_slide ok_take, ne_slide_take]; rfl
theorem ru_ok (r : Rul) : PyData.strOk (ruS r) = true := by cases r <;> first | exact ok_plain | exact ok_slide | exact ok_careful
theorem ru_slide (r : Rul) : (ruS r == Str.ofString "slide") = decide (r = .slide) := by cases r <;> first | exact ne_plain_slide | exact ne_careful_slide | exact beq_self_eq_true _
theorem ru_careful (r : Rul) : (ruS r == Str.ofString "careful") = decide (r = .careful) := by cases r <;> first | exact ne_plain_careful | exact ne_slide_careful | exact beq_self_eq_true _
theorem ru_plain (r : Rul) : (ruS r == Str.ofString "plain") = decide (r = .plain) := by cases r <;> first | exact ne_slide_plain | exact ne_careful_plain | exact beq_self_eq_true _
@[simp] theorem oEq_ru_slide (r : Rul) : oEq (ruD r) (.str (Str.ofString "slide")) = .val (.frz (.bool (decide (r = .slide)))) := by unfold ruD; rw [oEq_str (ru_ok r) ok_slide, ru_slide]
@[simp] theorem oEq_ru_careful (r : Rul) : oEq (ruD r) (.str (Str.ofString "careful")) = .val (.frz (.bool (decide (r = .careful)))) := by unfold ruD; rw [oEq_str (ru_ok r) ok_careful, ru_careful]
@[simp] theorem oEq_ru_plain (r : Rul) : oEq (ruD r) (.str (Str.ofString "plain")) = .val (.frz (.bool (decide (r = .plain)))) := by unfold ruD; rw [oEq_str (ru_ok r) ok_plain, ru_plain]
@[simp] theorem oNe_ru_slide (r : Rul) : oNe (ruD r) (.str (Str.ofString "slide")) = .val (.frz (.bool (!decide (r = .slide)))) := by unfold ruD; rw [oNe_str (ru_ok r) ok_slide, ru_slide]
@[simp] theorem oNe_ru_careful (r : Rul) : oNe (ruD r) (.str (Str.ofString "careful")) = .val (.frz (.bool (!decide (r = .careful)))) := by unfold ruD; rw [oNe_str (ru_ok r) ok_careful, ru_careful]
@[simp] theorem oNe_ru_plain (r : Rul) : oNe (ruD r) (.str (Str.ofString "plain")) = .val (.frz (.bool (!decide (r = .plain)))) := by unfold ruD; rw [oNe_str (ru_ok r) ok_plain, ru_plain]
@[simp] theorem at0_2 (a b : PyData) : atI [a, b] 0 = some a := rfl
@[simp] theorem at1_2 (a b : PyData) : atI [a, b] 1 = some b := rfl
@[simp] theorem atm_2 (a b : PyData) : atI [a, b] (-1) = some b := rfl
@[simp] theorem at0_3 (a b c : PyData) : atI [a, b, c] 0 = some a := rfl
@[simp] theorem at1_3 (a b c : PyData) : atI [a, b, c] 1 = some b := rfl
@[simp] theorem at2_3 (a b c : PyData) : atI [a, b, c] 2 = some c := rfl
@[simp] theorem atm_3 (a b c : PyData) : atI [a, b, c] (-1) = some c := rfl
@[simp] theorem ix_put0 (s : Nat) : oIx (stD (.put s)) (.int 0) = .val (.frz (.str (Str.ofString "put"))) := rfl
@[simp] theorem ix_take0 (s : Nat) : oIx (stD (.take s)) (.int 0) = .val (.frz (.str (Str.ofString "take"))) := rfl
@[simp] theorem ix_slide0 (n s : Nat) : oIx (stD (.slide n s)) (.int 0) = .val (.frz (.str (Str.ofString "slide"))) := rfl
@[simp] theorem ix_put1 (s : Nat) : oIx (stD (.put s)) (.int 1) = .val (.frz (.int s)) := rfl
@[simp] theorem ix_take1 (s : Nat) : oIx (stD (.take s)) (.int 1) = .val (.frz (.int s)) := rfl
@[simp] theorem ix_slide1 (n s : Nat) : oIx (stD (.slide n s)) (.int 1) = .val (.frz (.int n)) := rfl
@[simp] theorem ix_slide2 (n s : Nat) : oIx (stD (.slide n s)) (.int 2) = .val (.frz (.int s)) := rfl
@[simp] theorem ix_top (st : Stp) : oIx (stD st) (.int (-1)) = .val (.frz (.int st.top)) := by cases st <;> rfl
instance : EncOk stD where
  eqv a b := by
    cases a <;> cases b <;> simp only [stD, PyData.eqv, PyData.eqvAll, ne_put_take, ne_take_put, ne_slide_put, ne_slide_take, ne_put_slide, ne_take_slide, beq_self_eq_true, Bool.false_and, Bool.true_and, Bool.and_true] <;> (rw [Bool.eq_iff_iff]; simp; try omega)
  lay a := by
    cases a <;> simp [stD, PyData.canLay0, PyData.canLayAll0, ok_put, ok_take, ok_slide]
  dpt a := by
    cases a <;> simp [stD, PyData.depth, PyData.depthAll]
end DL

namespace DL
open PySem L2
def c_bears_all : CS := (cRet (cOpN oAll [(.ex (cCompO 1 (.one 2) tYesC (cOp2 (oIn false) (.nm 2) (.nm 0)) [2]))]))
def m_bears_all : Fn := runDef 3 c_bears_all
def c_may_put : CS := (cRet (cAnd (cOp2 (oIn true) (.nm 2) (.nm 1)) (cCall m_bears_all [(.nm 1), (.ex (cOp2 oIx (.nm 0) (.nm 2)))])))
def m_may_put : Fn := runDef 3 c_may_put
def c_is_let : CS := (cSeq (cSet 4 (cOp2 oIx (.nm 2) (.ex (cNeg (.ex (cK (.int 1)))))))
    (cSeq (cIfS (toT (cOp2 oEq (.ex (cOp2 oIx (.nm 2) (.ex (cK (.int 0))))) (.ex (cK (.str "put"))))) (cRet (cCall m_may_put [(.nm 0), (.nm 1), (.nm 4)])) cNext)
    (cSeq (cIfS (toT (cOp2 oEq (.ex (cOp2 oIx (.nm 2) (.ex (cK (.int 0))))) (.ex (cK (.str "take"))))) (cRet (cAnd (cOp2 (oIn false) (.nm 4) (.nm 1)) (cOr (cOp2 oNe (.nm 3) (.ex (cK (.str "careful")))) (cCall m_bears_all [(.nm 1), (.ex (cOp2 oIx (.nm 0) (.nm 4)))])))) cNext)
    (cRet (cAnd (cOp2 oEq (.nm 3) (.ex (cK (.str "slide")))) (cAnd (cCall m_may_put [(.nm 0), (.nm 1), (.nm 4)]) (cOp2 (oIn false) (.ex (cOp2 oIx (.nm 2) (.ex (cK (.int 1))))) (.ex (cOp2 oIx (.nm 0) (.nm 4))))))))))
def m_is_let : Fn := runDef 5 c_is_let
def c_behind : CS := (cSeq (cIfS (toT (cOp2 oEq (.ex (cOp2 oIx (.nm 1) (.ex (cK (.int 0))))) (.ex (cK (.str "take"))))) (cRet (cOpN oTuple [(.ex (cCompO 0 (.one 2) (toT (cOp2 oNe (.nm 2) (.ex (cOp2 oIx (.nm 1) (.ex (cK (.int 1))))))) (cVar 2) [2]))])) cNext)
    (cSeq (cSet 3 (cOp2 oAdd (.nm 0) (.ex (cTup [(.ex (cOp2 oIx (.nm 1) (.ex (cNeg (.ex (cK (.int 1)))))))]))))
    (cSeq (cIfS (toT (cOp2 oEq (.ex (cOp2 oIx (.nm 1) (.ex (cK (.int 0))))) (.ex (cK (.str "slide"))))) (cSet 3 (cOpN oTuple [(.ex (cCompO 3 (.one 2) (toT (cOp2 oNe (.nm 2) (.ex (cOp2 oIx (.nm 1) (.ex (cK (.int 1))))))) (cVar 2) [2]))])) cNext)
    (cRet (cOpN oTuple [(.ex (cOpN oSortedA [(.nm 3)]))])))))
def m_behind : Fn := runDef 4 c_behind
def c_steps_let : CS := (cSeq (cSet 3 (cRg1 (fun ds => .val (.own false (.list ds))) (.ex (cOpN oLen [(.nm 0)]))))
    (cSeq (cSet 4 (cOp2 oAdd (.ex (cCompO 3 (.one 5) tYesC (cTup [(.ex (cK (.str "put"))), (.ex (cVar 5))]) [5])) (.ex (cCompO 3 (.one 5) tYesC (cTup [(.ex (cK (.str "take"))), (.ex (cVar 5))]) [5]))))
    (cSeq (cForO 3 (.one 5) (cDrop (cMethT "list" mExtend 4 [(.ex (cComp (.one 6) (iSeq (cOp2 oIx (.nm 0) (.nm 5))) tYesC (cTup [(.ex (cK (.str "slide"))), (.ex (cVar 6)), (.ex (cVar 5))]) [6]))])))
    (cRet (cCompO 4 (.one 7) (toT (cCall m_is_let [(.nm 0), (.nm 1), (.nm 7), (.nm 2)])) (cVar 7) [7])))))
def m_steps_let : Fn := runDef 8 c_steps_let
def c__law_lets : CS := (cSeq (cSet 4 (cOp2 oIx (.nm 2) (.ex (cNeg (.ex (cK (.int 1)))))))
    (cSeq (cSet 5 (cOp2 oEq (.ex (cComp (.one 6) (iSeq (cOp2 oIx (.nm 0) (.nm 4))) (toT (cOp2 (oIn true) (.nm 6) (.nm 1))) (cVar 6) [6])) (.ex (cLst []))))
    (cSeq (cIfS (toT (cOp2 oEq (.ex (cOp2 oIx (.nm 2) (.ex (cK (.int 0))))) (.ex (cK (.str "take"))))) (cRet (cAnd (cOp2 (oIn false) (.nm 4) (.nm 1)) (cOr (cVar 5) (cOp2 oNe (.nm 3) (.ex (cK (.str "careful"))))))) cNext)
    (cSeq (cIfS (cOrT (toT (cOp2 (oIn false) (.nm 4) (.nm 1))) (cNotT (toT (cVar 5)))) (cRet (cK (.bool false))) cNext)
    (cRet (cOr (cOp2 oEq (.ex (cOp2 oIx (.nm 2) (.ex (cK (.int 0))))) (.ex (cK (.str "put")))) (cAnd (cOp2 oEq (.nm 3) (.ex (cK (.str "slide")))) (cOp2 (oIn false) (.ex (cOp2 oIx (.nm 2) (.ex (cK (.int 1))))) (.ex (cOp2 oIx (.nm 0) (.nm 4)))))))))))
def m__law_lets : Fn := runDef 7 c__law_lets
def c__law_after : CS := (cSeq (cSet 2 (cNeg (.ex (cK (.int 1)))))
    (cSeq (cIfS (toT (cOp2 oNe (.ex (cOp2 oIx (.nm 1) (.ex (cK (.int 0))))) (.ex (cK (.str "put"))))) (cSet 2 (cOp2 oIx (.nm 1) (.ex (cK (.int 1))))) cNext)
    (cSeq (cSet 3 (cCompO 0 (.one 4) (toT (cOp2 oNe (.nm 4) (.nm 2))) (cVar 4) [4]))
    (cSeq (cIfS (toT (cOp2 oNe (.ex (cOp2 oIx (.nm 1) (.ex (cK (.int 0))))) (.ex (cK (.str "take"))))) (cDrop (cMethT "list" mAppend 3 [(.ex (cOp2 oIx (.nm 1) (.ex (cNeg (.ex (cK (.int 1)))))))])) cNext)
    (cRet (cOpN oTuple [(.ex (cOpN oSortedA [(.nm 3)]))]))))))
def m__law_after : Fn := runDef 5 c__law_after
def c__law_steps : CS := (cSeq (cSet 3 (cComp (.one 4) (iArgs rg1 [(.ex (cOpN oLen [(.nm 0)]))]) tYesC (cTup [(.ex (cK (.str "put"))), (.ex (cVar 4))]) [4]))
    (cSeq (cSet 3 (cOp2 oAdd (.nm 3) (.ex (cComp (.one 4) (iArgs rg1 [(.ex (cOpN oLen [(.nm 0)]))]) tYesC (cTup [(.ex (cK (.str "take"))), (.ex (cVar 4))]) [4]))))
    (cSeq (cFor (.one 4) (iArgs rg1 [(.ex (cOpN oLen [(.nm 0)]))]) (cSet 3 (cOp2 oAdd (.nm 3) (.ex (cComp (.one 5) (iSeq (cOp2 oIx (.nm 0) (.nm 4))) tYesC (cTup [(.ex (cK (.str "slide"))), (.ex (cVar 5)), (.ex (cVar 4))]) [5])))))
    (cRet (cCompO 3 (.one 6) (toT (cCall m__law_lets [(.nm 0), (.nm 1), (.nm 6), (.nm 2)])) (cVar 6) [6])))))
def m__law_steps : Fn := runDef 7 c__law_steps
def c__law_rules : CS := (cRet (cOp2 oIx (.ex (cLst [(.ex (cK (.str "plain"))), (.ex (cK (.str "slide"))), (.ex (cK (.str "careful")))])) (.ex (cCallI m__law_take 0 [(.ex (cK (.int 3)))]))))
def m__law_rules : Fm := runDefI 1 c__law_rules
def c__law_lay : CS := (cRet (cOpN oTuple [(.ex (cComp (.one 2) (iArgs rg1 [(.ex (cOpN oLen [(.nm 1)]))]) (toT (cOp2 oEq (.ex (cCallI m__law_take 0 [(.ex (cK (.int 2)))])) (.ex (cK (.int 1))))) (cVar 2) [2]))]))
def m__law_lay : Fm := runDefI 3 c__law_lay
def c__law_cost : CS := (cRet (cOpN oLen [(.ex (cCompO 0 (.one 1) (toT (cOp2 oNe (.ex (cOp2 oIx (.nm 1) (.ex (cK (.int 0))))) (.ex (cK (.str "take"))))) (cVar 1) [1]))]))
def m__law_cost : Fn := runDef 2 c__law_cost
def fullB (net : List (List Nat)) (lay : List Nat) (s : Nat) : Bool := (nds net s).all fun n => lay.contains n
def letB (net : List (List Nat)) (lay : List Nat) (r : Rul) : Stp → Bool
  | .put s => !lay.contains s && fullB net lay s
  | .take s => lay.contains s && (decide (r ≠ .careful) || fullB net lay s)
  | .slide n s => decide (r = .slide) && (!lay.contains s && fullB net lay s) && (nds net s).contains n
def aft (lay : List Nat) : Stp → List Nat
  | .put s => sortN (lay ++ [s])
  | .take s => lay.filter fun x => !decide (x = s)
  | .slide n s => sortN ((lay.filter fun x => !decide (x = n)) ++ [s])
def Stp.inn (many : Nat) : Stp → Prop
  | .put s => s < many
  | .take s => s < many
  | .slide n s => n < many ∧ s < many
structure LayV (many : Nat) (lay : List Nat) : Prop where
  inc : lay.Pairwise (· < ·)
  low : ∀ x ∈ lay, x < many
theorem nds_at {net : List (List Nat)} {s : Nat} (h : s < net.length) : net[s]? = some (nds net s) := by
  unfold nds; rw [List.getElem?_eq_getElem h]; rfl
theorem nds_len {net : List (List Nat)} (h : NetOk net) (s : Nat) : (nds net s).length ≤ s + 1 := nodup_le (lt_nodup (nds_inc h s)) fun x hx => by have := nds_lt h hx; omega
theorem ev_bears (lay needs : List Nat) : m_bears_all [laD lay, laD needs] = .ok (.frz (.bool (needs.all fun n => lay.contains n))) := by
  apply run_of; intro K kk
  have hc := compO_ro (i := 1) (v := 2) (ct := tYesC) (ce := cOp2 (oIn false) (.nm 2) (.nm 0)) (env := [.frz (laD lay), .frz (laD needs), .emp]) (f := nD) (xs := needs) (fun _ => true) (fun n => .bool (lay.contains n))
    (.inr (.inl rfl)) (by simp) (by simp) (by decide) (fun x hx => by simp [tYesC, laD])
  simp only [List.contains_eq_mem] at hc
  simp [c_bears_all, hc]
  exact kk.rt _ _ (by simp)
theorem ev_may_put {net : List (List Nat)} (lay : List Nat) (s : Nat) (hs : s < net.length) : m_may_put [netD net, laD lay, .int s] = .ok (.frz (.bool (!lay.contains s && fullB net lay s))) := by
  apply run_of; intro K kk
  have e : oIn true (.int (s : Int)) (laD lay) = .val (.frz (.bool (!lay.contains s))) := oIn_tuple true s lay
  simp only [List.contains_eq_mem] at e
  simp [c_may_put, e, atI_nat, nds_at hs, ev_bears]
  exact kk.rt _ _ (by simp [fullB])
@[simp] theorem oIn_la (neg : Bool) (n : Nat) (l : List Nat) : oIn neg (.int (n : Int)) (laD l) = .val (.frz (.bool (if neg then !l.contains n else l.contains n))) := oIn_tuple neg n l
theorem ev_is_let {net : List (List Nat)} (lay : List Nat) (st : Stp) (r : Rul) (hs : st.top < net.length) : m_is_let [netD net, laD lay, stD st, ruD r] = .ok (.frz (.bool (letB net lay r st))) := by
  apply run_of; intro K kk
  cases st with
  | put s => simp [c_is_let, stD, ev_may_put lay s hs]; exact kk.rt _ _ (by simp [letB])
  | take s =>
    have hs : s < net.length := hs
    simp [c_is_let, stD, atI_nat, nds_at hs, ev_bears]
    exact kk.rt _ _ (by simp [letB, fullB])
  | slide n s =>
    have hs : s < net.length := hs
    simp [c_is_let, stD, atI_nat, nds_at hs, ev_may_put lay s hs]
    exact kk.rt _ _ (by simp [letB, Bool.and_assoc])
@[simp] theorem aft_take (lay : List Nat) (s : Nat) : aft lay (.take s) = lay.filter fun x => !decide (x = s) := rfl
def Stp.fit : Stp → Prop
  | .slide n s => n ≠ s
  | _ => True
theorem oTup_la (l : List Nat) : PyData.tuple (l.map nD) = laD l := rfl
theorem ev_behind (lay : List Nat) (st : Stp) (hf : st.fit) (hl : lay.length < 1000) : m_behind [laD lay, stD st] = .ok (.frz (laD (aft lay st))) := by
  apply run_of; intro K kk
  have e1 : ∀ s : Nat, lay.map nD ++ [PyData.int (s : Int)] = (lay ++ [s]).map nD := fun s => by simp
  cases st with
  | put s =>
    simp [c_behind, stD, lim, show lay.length + 1 ≤ 1000000 by omega, e1]
    exact kk.rt _ _ rfl
  | take s =>
    have hc := compO_ro (i := 0) (v := 2) (ct := toT (cOp2 oNe (.nm 2) (.ex (cOp2 oIx (.nm 1) (.ex (cK (.int 1))))))) (ce := cVar 2) (env := [.frz (laD lay), .frz (stD (.take s)), .emp, .emp]) (f := nD) (xs := lay) (fun x => !decide (x = s)) nD
      (.inr (.inl rfl)) (by simp) (by simp) (by decide) (fun x hx => by simp [stD, Int.ofNat_inj])
    simp only [stD] at hc
    simp [c_behind, stD, hc]
    exact kk.rt _ _ rfl
  | slide n s =>
    have hf : n ≠ s := hf
    have hc := compO_ro (i := 3) (v := 2) (ct := toT (cOp2 oNe (.nm 2) (.ex (cOp2 oIx (.nm 1) (.ex (cK (.int 1))))))) (ce := cVar 2) (env := [.frz (laD lay), .frz (stD (.slide n s)), .emp, .frz (laD (lay ++ [s]))]) (f := nD) (xs := lay ++ [s]) (fun x => !decide (x = n)) nD
      (.inr (.inl rfl)) (by simp) (by simp) (by decide) (fun x hx => by simp [stD, Int.ofNat_inj])
    have e2 : (lay ++ [s]).filter (fun x => !decide (x = n)) = (lay.filter fun x => !decide (x = n)) ++ [s] := by
      rw [List.filter_append]; simp [Ne.symm hf]
    rw [e2] at hc
    simp only [stD] at hc
    simp [c_behind, stD, lim, show lay.length + 1 ≤ 1000000 by omega, oTup_la]
    rw [hc]
    simp [e1]
    have e3 := oSorted_la ((lay.filter fun x => !decide (x = n)) ++ [s])
    simp only [laD, List.map_append, List.map_cons, List.map_nil, nD_eq] at e3
    simp [e3]
    exact kk.rt _ _ rfl
def allSteps (net : List (List Nat)) : List Stp := (List.range net.length).map .put ++ (List.range net.length).map .take ++ (List.range net.length).flatMap fun s => (nds net s).map fun n => .slide n s
theorem allSteps_inn {net : List (List Nat)} (hk : NetOk net) {st : Stp} (h : st ∈ allSteps net) : st.inn net.length ∧ st.fit := by
  unfold allSteps at h
  simp at h
  rcases h with ⟨s, hs, rfl⟩ | ⟨s, hs, rfl⟩ | ⟨s, hs, n, hn, rfl⟩
  · exact ⟨hs, trivial⟩
  · exact ⟨hs, trivial⟩
  · have := nds_lt hk hn; exact ⟨⟨by omega, hs⟩, by show n ≠ s; omega⟩
def Stp.paid : Stp → Bool
  | .take _ => false
  | _ => true
def costL (p : List Stp) : Nat := p.countP Stp.paid
end DL

namespace DL
open PySem L2
def c_need_rules : CS := (cIfS (cOrT (cNotT (toT (cIsi "str" (.nm 0)))) (toT (cOp2 (oIn true) (.nm 0) (.ex (cTup [(.ex (cK (.str "plain"))), (.ex (cK (.str "slide"))), (.ex (cK (.str "careful")))]))))) (cRaise "NoRules") cNext)
def m_need_rules : Fn := runDef 1 c_need_rules
def c_is_lay : CS := (cRet (cAnd (cIsi "tuple" (.nm 1)) (cCall m_is_rising [(.nm 1), (.ex (cOpN oLen [(.nm 0)]))])))
def m_is_lay : Fn := runDef 2 c_is_lay
def c_is_step : CS := (cSeq (cIfS (cOrT (cNotT (toT (cIsi "tuple" (.nm 1)))) (cOrT (toT (cOp2 oLt (.ex (cOpN oLen [(.nm 1)])) (.ex (cK (.int 2))))) (cNotT (toT (cIsi "str" (.ex (cOp2 oIx (.nm 1) (.ex (cK (.int 0)))))))))) (cRet (cK (.bool false))) cNext)
    (cSeq (cIfS (toT (cOp2 oNe (.ex (cKGet [(Str.ofString "put", PyData.int 2), (Str.ofString "take", PyData.int 2), (Str.ofString "slide", PyData.int 3)] (.ex (cOp2 oIx (.nm 1) (.ex (cK (.int 0))))))) (.ex (cOpN oLen [(.nm 1)])))) (cRet (cK (.bool false))) cNext)
    (cRet (cOpN oAll [(.ex (cComp (.one 2) (iSeq (cSl (.nm 1) (.some (.ex (cK (.int 1)))) .none)) tYesC (cAnd (cCall m_is_whole [(.nm 2)]) (cChain oLe oLt (.ex (cK (.int 0))) (.nm 2) (.ex (cOpN oLen [(.nm 0)])))) [2]))]))))
def m_is_step : Fn := runDef 3 c_is_step
def c_first_wrong : CS := (cSeq (cDrop (cCall m_need_net [(.nm 0)]))
    (cSeq (cDrop (cCall m_need_rules [(.nm 2)]))
    (cSeq (cIfS (cNotT (toT (cIsi "list" (.nm 1)))) (cRaise "NoPlay") cNext)
    (cSeq (cSet 3 (cTup []))
    (cSeq (cFor (.many [4, 5]) (iEnumC (cVar 1)) (cSeq (cIfS (cNotT (toT (cCall m_is_step [(.nm 0), (.nm 5)]))) (cRet (cTup [(.ex (cK (.str "form"))), (.ex (cVar 4))])) cNext)
    (cSeq (cIfS (cNotT (toT (cCall m_is_let [(.nm 0), (.nm 3), (.nm 5), (.nm 2)]))) (cRet (cTup [(.ex (cK (.str "rule"))), (.ex (cVar 4))])) cNext)
    (cSet 3 (cCall m_behind [(.nm 3), (.nm 5)])))))
    (cRet (cK .none)))))))
def m_first_wrong : Fn := runDef 6 c_first_wrong
def c_lays_of : CS := (cSeq (cIfS (toT (cOp2 oNotN (.ex (cCall m_first_wrong [(.nm 0), (.nm 1), (.nm 2)])) (.ex (cK .none)))) (cRaise "NoPlay") cNext)
    (cSeq (cSet 3 (cLst [(.ex (cTup []))]))
    (cSeq (cForO 1 (.one 4) (cDrop (cMethT "list" mAppend 3 [(.ex (cCall m_behind [(.ex (cOp2 oIx (.nm 3) (.ex (cNeg (.ex (cK (.int 1))))))), (.nm 4)]))])))
    (cRet (cMove 3)))))
def m_lays_of : Fn := runDef 5 c_lays_of
def c_stones_of : CS := (cRet (cOpN oMax [(.ex (cComp (.one 3) (iSeq (cCall m_lays_of [(.nm 0), (.nm 1), (.nm 2)])) tYesC (cOpN oLen [(.nm 3)]) [3]))]))
def m_stones_of : Fn := runDef 4 c_stones_of
def c_costs : CS := (cRet (cOpN oInt [(.ex (cOp2 oNe (.ex (cOp2 oIx (.nm 0) (.ex (cK (.int 0))))) (.ex (cK (.str "take")))))]))
def m_costs : Fn := runDef 1 c_costs
def c_cost_of : CS := (cSeq (cDrop (cCall m_lays_of [(.nm 0), (.nm 1), (.nm 2)]))
    (cRet (cOpN oSum [(.ex (cCompO 1 (.one 3) tYesC (cCall m_costs [(.nm 3)]) [3]))])))
def m_cost_of : Fn := runDef 4 c_cost_of
def c__law_play : CS := (cSeq (cSet 5 (cTup []))
    (cSeq (cSet 6 (cLst []))
    (cSeq (cFor (.one 7) (iArgs rg1 [(.ex (cCallI m__law_take 0 [(.ex (cOp2 oAdd (.nm 3) (.ex (cK (.int 1)))))]))]) (cSeq (cSet 8 (cCall m__law_steps [(.nm 1), (.nm 5), (.nm 2)]))
    (cSeq (cSet 8 (cCompO 8 (.one 9) (toT (cOp2 oLe (.ex (cOpN oLen [(.ex (cCall m__law_after [(.nm 5), (.nm 9)]))])) (.nm 4))) (cVar 9) [9]))
    (cSeq (cIfS (toT (cOp2 oEq (.nm 8) (.ex (cLst [])))) (cRet (cMove 6)) cNext)
    (cSeq (cSet 10 (cOp2 oIx (.nm 8) (.ex (cCallI m__law_take 0 [(.ex (cOpN oLen [(.nm 8)]))]))))
    (cSeq (cIfS (cAndT (toT (cOp2 oEq (.ex (cOp2 oIx (.nm 10) (.ex (cK (.int 0))))) (.ex (cK (.str "take"))))) (toT (cOp2 oGt (.ex (cCallI m__law_take 0 [(.ex (cK (.int 3)))])) (.ex (cK (.int 0)))))) (cSet 10 (cOp2 oIx (.nm 8) (.ex (cK (.int 0))))) cNext)
    (cSeq (cDrop (cMethT "list" mAppend 6 [(.ex (cVar 10))]))
    (cSet 5 (cCall m__law_after [(.nm 5), (.nm 10)])))))))))
    (cRet (cMove 6)))))
def m__law_play : Fm := runDefI 11 c__law_play
def c__law_lays : CS := (cSeq (cSet 1 (cLst [(.ex (cTup []))]))
    (cSeq (cForO 0 (.one 2) (cDrop (cMethT "list" mAppend 1 [(.ex (cCall m__law_after [(.ex (cOp2 oIx (.nm 1) (.ex (cNeg (.ex (cK (.int 1))))))), (.nm 2)]))])))
    (cRet (cMove 1))))
def m__law_lays : Fn := runDef 3 c__law_lays
theorem LayV.nil (n : Nat) : LayV n [] := ⟨.nil, by simp⟩
theorem LayV.aft {net : List (List Nat)} {lay : List Nat} {r : Rul} {st : Stp} (hk : NetOk net) (h : LayV net.length lay) (hs : st ∈ allSteps net) (hl : letB net lay r st = true) : LayV net.length (aft lay st) := by
  have hi := allSteps_inn hk hs
  cases st with
  | put s =>
    have hm : s ∉ lay := by intro z; simp [letB, z] at hl
    have hn : (lay ++ [s]).Nodup := by
      rw [List.nodup_append]; exact ⟨lt_nodup h.inc, by simp, fun a ha b hb => by simp at hb; subst hb; intro e; exact hm (e ▸ ha)⟩
    refine ⟨?_, fun x hx => ?_⟩
    · have := sortN_sorted (lay ++ [s])
      have hn2 := (sortN_perm (lay ++ [s])).nodup_iff.mpr hn
      exact (List.Pairwise.and this hn2).imp fun q => Nat.lt_of_le_of_ne q.1 q.2
    · have := (sortN_perm (lay ++ [s])).mem_iff.mp hx
      rw [List.mem_append] at this
      rcases this with q | q
      · exact h.low x q
      · simp at q; subst q; exact hi.1
  | take s => exact ⟨h.inc.filter _, fun x hx => h.low x ((List.mem_filter.mp hx).1)⟩
  | slide n s =>
    have hm : s ∉ lay := by intro z; simp [letB, z] at hl
    have hn : ((lay.filter fun x => !decide (x = n)) ++ [s]).Nodup := by
      rw [List.nodup_append]; exact ⟨(lt_nodup h.inc).filter _, by simp, fun a ha b hb => by simp at hb; subst hb; intro e; exact hm (e ▸ (List.mem_filter.mp ha).1)⟩
    refine ⟨?_, fun x hx => ?_⟩
    · have := sortN_sorted ((lay.filter fun x => !decide (x = n)) ++ [s])
      have hn2 := (sortN_perm ((lay.filter fun x => !decide (x = n)) ++ [s])).nodup_iff.mpr hn
      exact (List.Pairwise.and this hn2).imp fun q => Nat.lt_of_le_of_ne q.1 q.2
    · have := (sortN_perm ((lay.filter fun x => !decide (x = n)) ++ [s])).mem_iff.mp hx
      rw [List.mem_append] at this
      rcases this with q | q
      · exact h.low x ((List.mem_filter.mp q).1)
      · simp at q; subst q; exact hi.1.2
theorem LayV.len {n : Nat} {lay : List Nat} (h : LayV n lay) : lay.length ≤ n := by
  have := List.Nodup.length_le_of_subset (lt_nodup h.inc) (l₂ := List.range n) fun x hx => by have := h.low x hx; simpa using this
  simpa using this
def goes (net : List (List Nat)) (r : Rul) : List Nat → List Stp → Prop
  | _, [] => True
  | lay, st :: p => st ∈ allSteps net ∧ letB net lay r st = true ∧ goes net r (aft lay st) p
def laysB (lay : List Nat) : List Stp → List (List Nat)
  | [] => []
  | st :: p => aft lay st :: laysB (aft lay st) p
def lastB (lay : List Nat) : List Stp → List Nat
  | [] => lay
  | st :: p => lastB (aft lay st) p
theorem ev_need_rules (r : Rul) : m_need_rules [ruD r] = .ok (.frz .none) := by
  have h : oIn true (ruD r) (.tuple [.str (Str.ofString "plain"), .str (Str.ofString "slide"), .str (Str.ofString "careful")]) = .val (.frz (.bool false)) := by
    unfold oIn ruD
    have e : hasD (.str (ruS r)) [.str (Str.ofString "plain"), .str (Str.ofString "slide"), .str (Str.ofString "careful")] = true := by
      cases r <;> simp [hasD, PyData.eqv, ruS, ne_plain_slide, ne_plain_careful]
    simp [flatD, e]
  apply run_of; intro K kk
  unfold ruD at h
  simp [c_need_rules, ruD, h]
  exact kk.nx rfl _
@[simp] theorem ev_kget (kvs : List (Str × PyData)) (o : Opd) (env : Cs) : cKGet kvs o env = (o.ev env).bind fun l env1 => match l.get env1 with
  | some (.str x) => .ok (.frz ((lookS kvs x).getD .none)) env1
  | _ => .no := rfl
theorem ne_of_beq {a b : Str} (h : (a == b) = false) : ¬ a = b := fun e => by rw [e, beq_self_eq_true] at h; cases h
abbrev wordsK : List (Str × PyData) := [(Str.ofString "put", PyData.int 2), (Str.ofString "take", PyData.int 2), (Str.ofString "slide", PyData.int 3)]
theorem look_put : lookS wordsK (Str.ofString "put") = some (.int 2) := by unfold wordsK lookS; rw [if_pos rfl]
theorem look_take : lookS wordsK (Str.ofString "take") = some (.int 2) := by unfold wordsK lookS lookS; rw [if_neg (ne_of_beq ne_put_take), if_pos rfl]
theorem look_slide : lookS wordsK (Str.ofString "slide") = some (.int 3) := by unfold wordsK lookS lookS lookS; rw [if_neg (ne_of_beq ne_put_slide), if_neg (ne_of_beq ne_take_slide), if_pos rfl]
def wrongAt (net : List (List Nat)) (r : Rul) : List Nat → List Stp → Nat → Option Nat
  | _, [], _ => none
  | lay, st :: p, k => if letB net lay r st then wrongAt net r (aft lay st) p (k + 1) else some k
def wrongD : Option Nat → PyData
  | none => .none
  | some k => .tuple [.str "rule", .int k]
theorem goes_append {net : List (List Nat)} {r : Rul} : ∀ (p q : List Stp) (lay : List Nat), goes net r lay (p ++ q) ↔ goes net r lay p ∧ goes net r (lastB lay p) q
  | [], q, lay => by simp [goes, lastB]
  | st :: p, q, lay => by
    show (_ ∧ _ ∧ goes net r (aft lay st) (p ++ q)) ↔ _
    rw [goes_append p q]
    simp only [goes, lastB, and_assoc]
end DL

namespace DL
open PySem L2
def c_enough_cost : CS := (cRet (cOpN oLen [(.ex (cCall m_beneath [(.nm 0), (.nm 1)]))]))
def m_enough_cost : Fn := runDef 2 c_enough_cost
def c_enough_play : CS := (cRet (cComp (.one 2) (iSeq (cCall m_beneath [(.nm 0), (.nm 1)])) tYesC (cTup [(.ex (cK (.str "put"))), (.ex (cVar 2))]) [2]))
def m_enough_play : Fn := runDef 3 c_enough_play
end DL

namespace DL
open PySem L2
def c_missed : CS := (cSeq (cDrop (cCall m_need_spot [(.nm 0), (.nm 1)]))
    (cSeq (cSet 4 (cLst []))
    (cSeq (cFor (.one 5) (iSeq (cCall m_lays_of [(.nm 0), (.nm 2), (.nm 3)])) (cDrop (cMethT "list" mExtend 4 [(.ex (cVar 5))])))
    (cRet (cComp (.one 6) (iSeq (cCall m_beneath [(.nm 0), (.nm 1)])) (toT (cOp2 (oIn true) (.nm 6) (.nm 4))) (cVar 6) [6])))))
def m_missed : Fn := runDef 7 c_missed
def ruleOf (n : Nat) : Rul := match n with
  | 0 => .plain
  | 1 => .slide
  | _ => .careful
end DL

namespace DL
open PySem L2
def Bears (p : List Stp) (x : Nat) : Prop := ∃ l ∈ laysB [] p, x ∈ l
noncomputable def missL (net : List (List Nat)) (s : Nat) (p : List Stp) : List Nat := (below net s).filter fun x => !((laysB [] p).flatten).contains x
@[simp] theorem mExtend_la (ds : List PyData) (l : List Nat) : mExtend (.list ds) [laD l] = if ds.length + l.length ≤ lim then .ok (.frz .none) (.list (ds ++ l.map nD)) else .no := by
  show mExtend (.list ds) [.tuple (l.map nD)] = _
  rw [mExtend_tuple, List.length_map]
end DL

namespace DL
open PySem L2
end DL

namespace DL
open PySem L2
def c_need_lay : CS := (cSeq (cDrop (cCall m_need_net [(.nm 0)]))
    (cSeq (cDrop (cCall m_need_rules [(.nm 2)]))
    (cIfS (cNotT (toT (cCall m_is_lay [(.nm 0), (.nm 1)]))) (cRaise "NoLay") cNext)))
def m_need_lay : Fn := runDef 3 c_need_lay
def c_steps_from : CS := (cSeq (cDrop (cCall m_need_lay [(.nm 0), (.nm 1), (.nm 2)]))
    (cRet (cCall m_steps_let [(.nm 0), (.nm 1), (.nm 2)])))
def m_steps_from : Fn := runDef 3 c_steps_from
theorem LayV.all (n : Nat) : LayV n (List.range n) := ⟨List.pairwise_lt_range, fun x hx => by simpa using hx⟩
def c_law_v7 : CS := (cSeq (cFor (.one 1) (iArgs rg1 [(.ex (cOpN oMax2 [(.ex (cK (.int 1))), (.ex (cOpN oMin2 [(.ex (cOpN oLen [(.nm 0)])), (.ex (cK (.int 5)))]))]))]) (cSeq (cSet 2 (cCall m__law_box [(.nm 0), (.nm 1)]))
    (cSeq (cSet 3 (cCallI m__law_net 2 [(.ex (cOp2 oIx (.ex (cLst [(.ex (cK (.int 6))), (.ex (cK (.int 6))), (.ex (cK (.int 6))), (.ex (cK (.int 10)))])) (.ex (cCallI m__law_take 2 [(.ex (cK (.int 4)))]))))]))
    (cFor (.one 4) (iSeq (cLst [(.ex (cCallI m__law_lay 2 [(.ex (cVar 3))])), (.ex (cCallI m__law_lay 2 [(.ex (cVar 3))])), (.ex (cTup [])), (.ex (cRg1 (fun ds => .val (.frz (.tuple ds))) (.ex (cOpN oLen [(.nm 3)]))))])) (cFor (.one 5) (iSeq (cLst [(.ex (cK (.str "plain"))), (.ex (cK (.str "slide"))), (.ex (cK (.str "careful")))])) (cSeq (cSet 6 (cCall m__law_steps [(.nm 3), (.nm 4), (.nm 5)]))
    (cSeq (cSet 7 (cCall m_steps_from [(.nm 3), (.nm 4), (.nm 5)]))
    (cSeq (cIfS (cOrT (cNotT (toT (cIsi "list" (.nm 7)))) (toT (cOp2 oNe (.ex (cOpN oRepr [(.nm 7)])) (.ex (cOpN oRepr [(.nm 6)]))))) (cRet (cK (.bool false))) cNext)
    (cSeq (cDrop (cMethT "list" mAppend 7 [(.ex (cK (.int 0)))]))
    (cIfS (toT (cOp2 oNe (.ex (cOpN oRepr [(.ex (cCall m_steps_from [(.nm 3), (.nm 4), (.nm 5)]))])) (.ex (cOpN oRepr [(.nm 6)])))) (cRet (cK (.bool false))) cNext))))))))))
    (cRet (cK (.bool true))))
def m_law_v7 : Fn := runDef 8 c_law_v7
end DL

namespace DL
open PySem L2
abbrev exc (x : Str) : Exc := ⟨x, none⟩
def noNet (x : PyData) : Prop := scrD x = false ∧ (∀ ds, x = .tuple ds → ∀ d ∈ ds, okN d) ∧ netB x = false
def spotB (n : Nat) : PyData → Bool
  | .int i => decide (0 ≤ i) && decide (i < (n : Int))
  | _ => false
def rulesB : PyData → Bool
  | .str x => x == "plain" || x == "slide" || x == "careful"
  | _ => false
def layB (n : Nat) : PyData → Bool
  | .tuple ds => risingD ds (-1) n
  | _ => false
def stepB (n : Nat) : PyData → Bool
  | .tuple (.str w :: d :: ds) => (match lookS wordsK w with | some (.int k) => decide (k = ((ds.length + 2 : Nat) : Int)) | _ => false) && (d :: ds).all (spotB n)
  | _ => false
theorem lookS_words (w : Str) : lookS wordsK w = none ∨ ∃ k : Int, lookS wordsK w = some (.int k) := by
  unfold wordsK
  simp only [lookS]
  split
  · exact .inr ⟨_, rfl⟩
  · split
    · exact .inr ⟨_, rfl⟩
    · split
      · exact .inr ⟨_, rfl⟩
      · exact .inl rfl
theorem ev_isstep (net : List (List Nat)) {d : PyData} (h : okN d) : m_is_step [netD net, d] = .ok (.frz (.bool (stepB net.length d))) := by
  apply run_of; intro K kk
  cases d with
  | dict k => simp [c_is_step, isi_dict "tuple" k h.1]; exact kk.rt _ _ rfl
  | tuple ds =>
    have hs := h.2 ds rfl
    cases ds with
    | nil => simp [c_is_step]; exact kk.rt _ _ rfl
    | cons w ds =>
      cases ds with
      | nil => simp [c_is_step]; exact kk.rt _ _ (by cases w <;> rfl)
      | cons d ds =>
        have hw := hs w List.mem_cons_self
        have a0 : atI (w :: d :: ds) 0 = some w := atI_nat (w :: d :: ds) 0
        have hl2 : ¬ ((ds.length : Int) + 1 + 1 < 2) := by omega
        have finN : ∀ w, (∀ x, w ≠ PyData.str x) → stepB net.length (.tuple (w :: d :: ds)) = false := fun w hw => by
          cases w with
          | str x => exact (hw x rfl).elim
          | _ => rfl
        cases w with
        | dict k =>
          have hw' : isScr k = false := hw
          simp [c_is_step, a0, isi_dict "str" k hw', hl2]; exact kk.rt _ _ rfl
        | str w =>
          have hc := comp1 (v := 2) (ci := iSeq (cSl (.nm 1) (.some (.ex (cK (.int 1)))) .none)) (ct := tYesC) (ce := cAnd (cCall m_is_whole [.nm 2]) (cChain oLe oLt (.ex (cK (.int 0))) (.nm 2) (.ex (cOpN oLen [.nm 0])))) (env := [.frz (netD net), .frz (.tuple (.str w :: d :: ds)), .emp]) (f := id) (xs := d :: ds) (fun _ => true) (fun x => .bool (spotB net.length x))
            (by
              have e : cutD (.str w :: d :: ds) (some ((1 : Nat) : Int)) none = d :: ds := by
                unfold cutD
                rw [HT.sIx_none, HT.sIx_nat, List.length_cons, show min 1 ((d :: ds).length + 1) = 1 by omega, List.drop_succ_cons, List.drop_zero, show (d :: ds).length + 1 - 1 = (d :: ds).length by omega, List.take_length]
              have e' : cutD (.str w :: d :: ds) (some 1) none = d :: ds := e
              simp [e']) (by simp) (by simp) (fun x hx => by
              have hx' := hs x (List.mem_cons_of_mem _ hx)
              cases x with
              | int i => simp [tYesC, ev_whole, spotB]
              | dict k => simp [tYesC, ev_whole _ hx', wholeD, spotB]
              | _ => simp [tYesC, ev_whole _ hx', wholeD, spotB])
          rw [show (d :: ds).filter (fun _ => true) = d :: ds from List.filter_eq_self.mpr fun _ _ => rfl] at hc
          have ha : oAll [.list ((d :: ds).map fun x => .bool (spotB net.length x))] = .val (.frz (.bool ((d :: ds).all (spotB net.length)))) := oAll_map _ _
          generalize ((d :: ds).map fun x => PyData.bool (spotB net.length x)) = bs at hc ha
          have hlk := lookS_words w
          unfold wordsK at hlk
          rcases hlk with hlk | ⟨k, hlk⟩
          · have e1 : stepB net.length (.tuple (.str w :: d :: ds)) = false := by
              have : lookS wordsK w = none := hlk
              simp [stepB, this]
            rw [e1] at kk
            have e2 : oNe .none (.int ((ds.length : Int) + 1 + 1)) = .val (.frz (.bool true)) := rfl
            simp [c_is_step, a0, hl2, hlk, e2]
            exact kk.rt _ _ rfl
          · have e1 : stepB net.length (.tuple (.str w :: d :: ds)) = (decide (k = ((ds.length + 2 : Nat) : Int)) && (d :: ds).all (spotB net.length)) := by
              have : lookS wordsK w = some (.int k) := hlk
              simp [stepB, this]
            rw [e1] at kk
            simp [c_is_step, a0, hl2, hlk, hc, ha]
            constructor
            · intro hk
              refine kk.rt _ _ ?_
              have : decide (k = ((ds.length + 2 : Nat) : Int)) = false := by simp; omega
              rw [this]; rfl
            · intro hk
              refine kk.rt _ _ ?_
              have : decide (k = ((ds.length + 2 : Nat) : Int)) = true := by simp; omega
              rw [this]; simp
        | _ => simp [c_is_step, a0, hl2]; exact kk.rt _ _ rfl
  | _ => simp [c_is_step]; exact kk.rt _ _ rfl
end DL

namespace DL
open PySem L2
def c_led : CS := (cSeq (cDrop (cCall m_need_lay [(.nm 0), (.nm 1), (.nm 3)]))
    (cSeq (cIfS (cOrT (cNotT (toT (cCall m_is_step [(.nm 0), (.nm 2)]))) (cNotT (toT (cCall m_is_let [(.nm 0), (.nm 1), (.nm 2), (.nm 3)])))) (cRaise "NoStep") cNext)
    (cRet (cCall m_behind [(.nm 1), (.nm 2)]))))
def m_led : Fn := runDef 4 c_led
def c__law_no_spot : CS := (cSeq (cSet 2 (cLst [(.ex (cVar 1)), (.ex (cNeg (.ex (cK (.int 1))))), (.ex (cK (.bool true))), (.ex (cK (.bool false))), (.ex (cK .none)), (.ex (cK (.str "0"))), (.ex (cTup [(.ex (cK (.int 0)))])), (.ex (cOp2 oAdd (.nm 1) (.ex (cCallI m__law_take 0 [(.ex (cK (.int 9)))])))), (.ex (cOp2 oPow (.ex (cK (.int 10))) (.ex (cK (.int 39))))), (.ex (cLst [(.ex (cK (.int 0)))]))]))
    (cRet (cOp2 oIx (.nm 2) (.ex (cCallI m__law_take 0 [(.ex (cK (.int 10)))])))))
def m__law_no_spot : Fm := runDefI 3 c__law_no_spot
def c__law_told_v3 : CS := (cTry 4 hmMarks (cRet (cCall m_led [(.nm 0), (.nm 1), (.nm 2), (.nm 3)])))
def m__law_told_v3 : Fn := runDef 5 c__law_told_v3
def c__law_no_step : CS := (cSeq (cSet 2 (cCallI m__law_no_spot 0 [(.ex (cVar 1))]))
    (cSeq (cSet 3 (cLst [(.ex (cK .none)), (.ex (cTup [])), (.ex (cTup [(.ex (cK (.str "put")))])), (.ex (cTup [(.ex (cK (.str "put"))), (.ex (cK (.int 0))), (.ex (cK (.int 0)))])), (.ex (cLst [(.ex (cK (.str "put"))), (.ex (cK (.int 0)))])), (.ex (cTup [(.ex (cK (.str "Put"))), (.ex (cK (.int 0)))])), (.ex (cTup [(.ex (cK (.str "take"))), (.ex (cVar 2))])), (.ex (cTup [(.ex (cK (.str "put"))), (.ex (cVar 2))])), (.ex (cTup [(.ex (cK (.str "slide"))), (.ex (cK (.int 0)))]))]))
    (cRet (cOp2 oAdd (.nm 3) (.ex (cLst [(.ex (cTup [(.ex (cK (.str "slide"))), (.ex (cK (.int 0))), (.ex (cK (.int 0))), (.ex (cK (.int 0)))])), (.ex (cTup [(.ex (cK (.str "slide"))), (.ex (cVar 2)), (.ex (cK (.int 0)))])), (.ex (cTup [(.ex (cK (.int 0))), (.ex (cK (.str "put")))])), (.ex (cK (.str "put 0"))), (.ex (cTup [(.ex (cK (.str "lay"))), (.ex (cK (.int 0)))])), (.ex (cTup [(.ex (cK (.str "slide"))), (.ex (cVar 2)), (.ex (cVar 2))]))]))))))
def m__law_no_step : Fm := runDefI 4 c__law_no_step
def c__law_no_lay : CS := (cSeq (cSet 2 (cLst [(.ex (cK .none)), (.ex (cLst [(.ex (cK (.int 0)))])), (.ex (cTup [(.ex (cVar 1))])), (.ex (cTup [(.ex (cK (.int 0))), (.ex (cK (.int 0)))])), (.ex (cTup [(.ex (cK (.int 1))), (.ex (cK (.int 0)))])), (.ex (cTup [(.ex (cNeg (.ex (cK (.int 1)))))])), (.ex (cTup [(.ex (cK (.bool true)))])), (.ex (cK (.str ""))), (.ex (cTup [(.ex (cK (.str "0")))])), (.ex (cK (.int 0))), (.ex cDict0), (.ex (cTup [(.ex (cTup [(.ex (cK (.int 0)))]))]))]))
    (cRet (cOp2 oIx (.nm 2) (.ex (cCallI m__law_take 0 [(.ex (cK (.int 12)))])))))
def m__law_no_lay : Fm := runDefI 3 c__law_no_lay
def c_law_v8 : CS := (cSeq (cFor (.one 1) (iArgs rg1 [(.ex (cOpN oMax2 [(.ex (cK (.int 1))), (.ex (cOpN oMin2 [(.ex (cOpN oLen [(.nm 0)])), (.ex (cK (.int 5)))]))]))]) (cSeq (cSet 2 (cCall m__law_box [(.nm 0), (.nm 1)]))
    (cSeq (cSet 3 (cCallI m__law_net 2 [(.ex (cK (.int 6)))]))
    (cSeq (cSet 4 (cCallI m__law_rules 2 []))
    (cSeq (cSet 5 (cRg1 (fun ds => .val (.own false (.list ds))) (.ex (cOpN oLen [(.nm 3)]))))
    (cSeq (cFor (.one 6) (iSeq (cLst [(.ex (cOp2 oIx (.ex (cCall m__law_lays [(.ex (cCallI m__law_play 2 [(.ex (cVar 3)), (.ex (cVar 4)), (.ex (cK (.int 9))), (.ex (cK (.int 9)))]))])) (.ex (cNeg (.ex (cK (.int 1))))))), (.ex (cCallI m__law_lay 2 [(.ex (cVar 3))]))])) (cSeq (cSet 7 (cOp2 oAdd (.ex (cCompO 5 (.one 8) tYesC (cTup [(.ex (cK (.str "put"))), (.ex (cVar 8))]) [8])) (.ex (cCompO 5 (.one 8) tYesC (cTup [(.ex (cK (.str "take"))), (.ex (cVar 8))]) [8]))))
    (cSeq (cForO 5 (.one 9) (cSet 7 (cOp2 oAdd (.nm 7) (.ex (cCompO 5 (.one 8) tYesC (cTup [(.ex (cK (.str "slide"))), (.ex (cVar 9)), (.ex (cVar 8))]) [8])))))
    (cSeq (cForO 7 (.one 10) (cSeq (cSet 11 (cK (.str "step")))
    (cSeq (cIfS (toT (cCall m__law_lets [(.nm 3), (.nm 6), (.nm 10), (.nm 4)])) (cSet 11 (cCall m__law_after [(.nm 6), (.nm 10)])) cNext)
    (cIfS (toT (cOp2 oNe (.ex (cOpN oRepr [(.ex (cCall m__law_told_v3 [(.nm 3), (.nm 6), (.nm 10), (.nm 4)]))])) (.ex (cOpN oRepr [(.nm 11)])))) (cRet (cK (.bool false))) cNext))))
    (cFor (.one 12) (iSeq (cCallI m__law_no_step 2 [(.ex (cOpN oLen [(.nm 3)]))])) (cIfS (toT (cOp2 oNe (.ex (cCall m__law_told_v3 [(.nm 3), (.nm 6), (.nm 12), (.nm 4)])) (.ex (cK (.str "step"))))) (cRet (cK (.bool false))) cNext))))))
    (cSeq (cSet 13 (cCallI m__law_no_lay 2 [(.ex (cOpN oLen [(.nm 3)]))]))
    (cIfS (cOrT (toT (cOp2 oNe (.ex (cCall m__law_told_v3 [(.nm 3), (.nm 13), (.ex (cTup [(.ex (cK (.str "put"))), (.ex (cK (.int 0)))])), (.nm 4)])) (.ex (cK (.str "lay"))))) (toT (cOp2 oNe (.ex (cCall m__law_told_v3 [(.nm 3), (.nm 13), (.ex (cK .none)), (.nm 4)])) (.ex (cK (.str "lay")))))) (cRet (cK (.bool false))) cNext))))))))
    (cRet (cK (.bool true))))
def m_law_v8 : Fn := runDef 14 c_law_v8
theorem pick (ds : List PyData) (b n : Int) (h : (ds.length : Int) = n) (hn : 0 < n) : ∃ x ∈ ds, atI ds (b % n) = some x := by
  have h1 := Int.emod_nonneg b (by omega : n ≠ 0)
  have h2 := Int.emod_lt_of_pos b hn
  obtain ⟨k, hk⟩ : ∃ k : Nat, b % n = (k : Int) := ⟨(b % n).toNat, by omega⟩
  rw [hk, atI_nat]
  have hl : k < ds.length := by omega
  exact ⟨ds[k], List.getElem_mem hl, List.getElem?_eq_getElem hl⟩
def oddS (n : Nat) (x : PyData) : Prop := scrD x = false ∧ spotB n x = false ∧ okN x
def noStep (n : Nat) (d : PyData) : Prop := okN d ∧ stepB n d = false
theorem stepB_cons (n : Nat) (w : Str) (d : PyData) (ds : List PyData) : stepB n (.tuple (.str w :: d :: ds)) = ((match lookS wordsK w with | some (.int k) => decide (k = ((ds.length + 2 : Nat) : Int)) | _ => false) && (d :: ds).all (spotB n)) := rfl
def caught (hm : Exc → Option Cell) : FR → FR
  | .ok x => .ok x.out
  | .ex x => match hm x with | some c => .ok c.out | none => .no
  | .no => .no
@[simp] theorem caught_ok (hm : Exc → Option Cell) (c : Cell) : caught hm (.ok c) = .ok c.out := rfl
@[simp] theorem caught_ex (hm : Exc → Option Cell) (x : Exc) : caught hm (.ex x) = match hm x with | some c => .ok c.out | none => .no := rfl
end DL

namespace DL
open PySem L2
def c__law_no_net : CS := (cSeq (cSet 1 (cLst [(.ex (cK .none)), (.ex (cTup [])), (.ex (cLst [(.ex (cTup []))])), (.ex (cTup [(.ex (cTup [(.ex (cK (.int 0)))]))])), (.ex (cTup [(.ex (cTup [])), (.ex (cTup [(.ex (cK (.int 1)))]))])), (.ex (cTup [(.ex (cTup [])), (.ex (cLst [(.ex (cK (.int 0)))]))])), (.ex (cTup [(.ex (cTup [])), (.ex (cTup [(.ex (cK (.bool true)))]))])), (.ex (cK (.str "0:"))), (.ex (cOp2 oMulT (.ex (cTup [(.ex (cTup []))])) (.ex (cK (.int 11))))), (.ex (cK (.int 5))), (.ex (cTup [(.ex (cTup [])), (.ex (cTup [(.ex (cNeg (.ex (cK (.int 1)))))]))])), (.ex cDict0)]))
    (cRet (cOp2 oIx (.nm 1) (.ex (cCallI m__law_take 0 [(.ex (cK (.int 12)))])))))
def m__law_no_net : Fm := runDefI 2 c__law_no_net
def c__law_no_rules : CS := (cSeq (cSet 1 (cLst [(.ex (cK .none)), (.ex (cK (.str ""))), (.ex (cK (.str "Plain"))), (.ex (cK (.str "plain "))), (.ex (cK (.str "put"))), (.ex (cK (.int 0))), (.ex (cK (.bool true))), (.ex (cTup [(.ex (cK (.str "plain")))])), (.ex (cLst [(.ex (cK (.str "slide")))])), (.ex (cDispI [("plain", 1)]))]))
    (cRet (cOp2 oIx (.nm 1) (.ex (cCallI m__law_take 0 [(.ex (cK (.int 10)))])))))
def m__law_no_rules : Fm := runDefI 2 c__law_no_rules
def listB : PyData → Bool
  | .list _ => true
  | _ => false
theorem ev_fw_play {net : List (List Nat)} (hv : NetV net) (r : Rul) {d : PyData} (hd : scrD d = false) (h : listB d = false) : m_first_wrong [netD net, d, ruD r] = .ex (exc "NoPlay") := by
  apply run_raise; intro K kk
  cases d with
  | list ds => cases h
  | dict k => simp [c_first_wrong, ev_neednet hv, ev_need_rules r, isi_dict "list" k hd]; exact kk.ex _ _ rfl
  | _ => simp [c_first_wrong, ev_neednet hv, ev_need_rules r]; exact kk.ex _ _ rfl
theorem ev_lo_ex {a b c : PyData} {x : Exc} (h : m_first_wrong [a, b, c] = .ex x) : m_lays_of [a, b, c] = .ex x := by
  apply run_raise; intro K kk
  simp [c_lays_of, h]
  exact kk.ex _ _ rfl
theorem ev_lo_wrong {a b c d : PyData} (h : m_first_wrong [a, b, c] = .ok (.frz d)) (hd : oNotN d .none = .val (.frz (.bool true))) (hl : lowC (.frz d) = true) : m_lays_of [a, b, c] = .ex (exc "NoPlay") := by
  apply run_raise; intro K kk
  simp [c_lays_of, h, hd, hl]
  exact kk.ex _ _ rfl
end DL

namespace DL
open PySem L2
theorem strW {w : Str} {k : Int} (h : lookS wordsK w = some (.int k)) : (w = "put" ∧ k = 2) ∨ (w = "take" ∧ k = 2) ∨ (w = "slide" ∧ k = 3) := by
  unfold wordsK at h
  simp only [lookS] at h
  split at h
  · rename_i e; cases h; exact .inl ⟨by first | exact e | exact e.symm, rfl⟩
  · split at h
    · rename_i e; cases h; exact .inr (.inl ⟨by first | exact e | exact e.symm, rfl⟩)
    · split at h
      · rename_i e; cases h; exact .inr (.inr ⟨by first | exact e | exact e.symm, rfl⟩)
      · cases h
theorem spotB_of {n : Nat} {d : PyData} (h : spotB n d = true) : ∃ s : Nat, d = .int (s : Nat) ∧ s < n := by
  cases d with
  | int i =>
    have h : (decide (0 ≤ i) && decide (i < (n : Int))) = true := h
    simp at h
    exact ⟨i.toNat, by rw [Int.toNat_of_nonneg h.1], by omega⟩
  | _ => cases h
theorem stepB_of {n : Nat} {d : PyData} (h : stepB n d = true) : ∃ st : Stp, d = stD st ∧ st.inn n := by
  cases d with
  | tuple ds =>
    match ds, h with
    | [], h => cases h
    | [w], h => cases w <;> cases h
    | w :: d :: ds, h =>
      cases w with
      | str w =>
        rw [stepB_cons] at h
        rcases lookS_words w with e | ⟨k, e⟩
        · rw [e] at h; cases h
        · rw [e] at h
          rw [Bool.and_eq_true, decide_eq_true_eq] at h
          obtain ⟨hk, hall⟩ := h
          rw [List.all_cons, Bool.and_eq_true] at hall
          obtain ⟨s, rfl, hs⟩ := spotB_of hall.1
          rcases strW e with ⟨rfl, rfl⟩ | ⟨rfl, rfl⟩ | ⟨rfl, rfl⟩
          · have hl : ds = [] := List.length_eq_zero_iff.mp (by omega)
            subst hl; exact ⟨.put s, rfl, hs⟩
          · have hl : ds = [] := List.length_eq_zero_iff.mp (by omega)
            subst hl; exact ⟨.take s, rfl, hs⟩
          · obtain ⟨d2, rfl⟩ : ∃ d2, ds = [d2] := by
              match ds, hk with
              | [d2], _ => exact ⟨d2, rfl⟩
              | [], hk => simp at hk
              | _ :: _ :: _, hk => simp at hk; omega
            simp at hall
            obtain ⟨t, rfl, ht⟩ := spotB_of hall.2
            exact ⟨.slide s t, rfl, hs, ht⟩
      | _ => cases h
  | _ => cases h
theorem stepB_stD {n : Nat} {st : Stp} (h : st.inn n) : stepB n (stD st) = true := by
  have sp : ∀ s : Nat, s < n → spotB n (.int (s : Nat)) = true := fun s hs => by simp [spotB, hs]
  cases st with
  | put s => show stepB n (.tuple [.str "put", .int s]) = true; rw [stepB_cons, look_put]; simp [sp s h]
  | take s => show stepB n (.tuple [.str "take", .int s]) = true; rw [stepB_cons, look_take]; simp [sp s h]
  | slide m s => show stepB n (.tuple [.str "slide", .int m, .int s]) = true; rw [stepB_cons, look_slide]; simp [sp s h.2, sp m h.1]
theorem stD_inj {a b : Stp} (h : stD a = stD b) : a = b := by
  have np : (Str.ofString "put") ≠ Str.ofString "take" := fun e => by have := ne_put_take; rw [e] at this; simp at this
  cases a <;> cases b <;> simp [stD] at h
  · simp only [Stp.put.injEq]; omega
  · exact (np h.1).elim
  · exact (np h.1.symm).elim
  · simp only [Stp.take.injEq]; omega
  · simp only [Stp.slide.injEq]; omega
theorem inn_all {net : List (List Nat)} {lay : List Nat} {r : Rul} {st : Stp} (h : st.inn net.length) (hb : letB net lay r st = true) : st ∈ allSteps net := by
  unfold allSteps
  cases st with
  | put s => simp; exact h
  | take s => simp; exact h
  | slide n s =>
    have hn : n ∈ nds net s := by simp [letB] at hb; exact hb.2
    simp; exact ⟨s, h.2, n, hn, rfl, rfl⟩
theorem inn_top {n : Nat} {st : Stp} (h : st.inn n) : st.top < n := by cases st with | put s => exact h | take s => exact h | slide m s => exact h.2
noncomputable def decS (n : Nat) (d : PyData) : Option Stp := by
  classical
  exact if h : stepB n d = true then some (Classical.choose (stepB_of h)) else none
theorem decS_some {n : Nat} {st : Stp} (h : st.inn n) : decS n (stD st) = some st := by
  unfold decS
  have e := stepB_stD h
  rw [dif_pos e]
  exact congrArg some (stD_inj (Classical.choose_spec (stepB_of e)).1.symm)
theorem decS_none {n : Nat} {d : PyData} (h : stepB n d = false) : decS n d = none := by
  unfold decS; rw [dif_neg (by rw [h]; exact Bool.false_ne_true)]
noncomputable def wrongG (net : List (List Nat)) (r : Rul) : List Nat → List PyData → Nat → PyData
  | _, [], _ => .none
  | lay, d :: ds, k => match decS net.length d with
    | none => .tuple [.str "form", .int (k : Nat)]
    | some st => if letB net lay r st then wrongG net r (aft lay st) ds (k + 1) else .tuple [.str "rule", .int (k : Nat)]
theorem wrongG_none {net : List (List Nat)} {r : Rul} {lay : List Nat} {d : PyData} {ds : List PyData} {k : Nat} (h : stepB net.length d = false) : wrongG net r lay (d :: ds) k = .tuple [.str "form", .int (k : Nat)] := by
  unfold wrongG; rw [decS_none h]
theorem wrongG_step {net : List (List Nat)} {r : Rul} {lay : List Nat} {st : Stp} {ds : List PyData} {k : Nat} (h : st.inn net.length) : wrongG net r lay (stD st :: ds) k = if letB net lay r st then wrongG net r (aft lay st) ds (k + 1) else .tuple [.str "rule", .int (k : Nat)] := by
  show (match decS net.length (stD st) with | none => _ | some st => _) = _
  rw [decS_some h]
theorem ev_fw {net : List (List Nat)} (hv : NetV net) (r : Rul) (ds : List PyData) (hd : ∀ d ∈ ds, okN d) : m_first_wrong [netD net, .list ds, ruD r] = .ok (.frz (wrongG net r [] ds 0)) := by
  have h10 := hv.ten
  apply run_of; intro K kk
  simp [c_first_wrong, ev_neednet hv, ev_need_rules, enumD_zip]
  refine sat_forT (fun rest e => ∃ (lay : List Nat) (k : Nat) (j4 j5 : Jk), e = [.frz (netD net), .frz (.list ds), .frz (ruD r), .frz (laD lay), j4.c, j5.c] ∧ LayV net.length lay ∧ ∃ q, rest = q.zipIdx k ∧ (∀ d ∈ q, okN d) ∧ wrongG net r lay q k = wrongG net r [] ds 0) ⟨[], 0, jkE, jkE, rfl, .nil _, ds, rfl, hd, rfl⟩ ?_ ?_
  · rintro ⟨d, i⟩ rest e ⟨lay, k, j4, j5, rfl, hlay, q, hq, hok, hw⟩ K' L
    cases q with
    | nil => cases hq
    | cons y q =>
      rw [List.zipIdx_cons] at hq
      injection hq with h1 h2
      cases h1
      have hy := hok d List.mem_cons_self
      cases hs : stepB net.length d with
      | false =>
        rw [wrongG_none hs] at hw
        simp [ev_isstep net hy, hs]
        exact L.rt _ _ (kk.rt _ _ (by rw [← hw]; rfl))
      | true =>
        obtain ⟨st, rfl, hin⟩ := stepB_of hs
        rw [wrongG_step hin] at hw
        have htop := inn_top hin
        cases hb : letB net lay r st with
        | false =>
          rw [hb] at hw
          simp [ev_isstep net hy, hs, ev_is_let lay st r htop, hb]
          exact L.rt _ _ (kk.rt _ _ (by rw [← hw]; rfl))
        | true =>
          rw [hb] at hw
          have hall := inn_all hin hb
          have hf := (allSteps_inn hv.ok hall).2
          have hln := hlay.len
          simp [ev_isstep net hy, hs, ev_is_let lay st r htop, hb, ev_behind lay st hf (by omega)]
          exact L.nx _ ⟨aft lay st, i + 1, ⟨_, (by first | rfl | exact Jk.u _ | exact Jm.m _ | exact Jm.lck _ | simp | assumption)⟩, ⟨_, (by first | rfl | exact Jk.u _ | exact Jm.m _ | exact Jm.lck _ | simp | assumption)⟩, rfl, hlay.aft hv.ok hall hb, q, h2, fun y hy => hok y (List.mem_cons_of_mem _ hy), hw⟩
  · rintro e ⟨lay, k, j4, j5, rfl, hlay, q, hq, hok, hw⟩
    have hq0 : q = [] := by cases q with | nil => rfl | cons y q => cases hq
    subst hq0
    simp
    exact kk.rt _ _ (by rw [← hw]; rfl)
theorem okN_st (st : Stp) : okN (stD st) := by
  cases st <;> exact ⟨rfl, fun ds e => by cases e; simp [scrD]⟩
theorem wrongG_app {net : List (List Nat)} {r : Rul} (ds : List PyData) : ∀ (p : List Stp) (lay : List Nat) (k : Nat), (∀ st ∈ p, st.inn net.length) → goes net r lay p → wrongG net r lay (p.map stD ++ ds) k = wrongG net r (lastB lay p) ds (k + p.length)
  | [], _, _, _, _ => rfl
  | st :: p, lay, k, hi, g => by
    rw [List.map_cons, List.cons_append, wrongG_step (hi st List.mem_cons_self), if_pos g.2.1, wrongG_app ds p (aft lay st) (k + 1) (fun s hs => hi s (List.mem_cons_of_mem _ hs)) g.2.2]
    show _ = wrongG net r (lastB (aft lay st) p) ds (k + (st :: p).length)
    rw [List.length_cons, Nat.add_assoc, Nat.add_comm 1]
theorem goes_inn {net : List (List Nat)} {r : Rul} (hk : NetOk net) : ∀ (p : List Stp) (lay : List Nat), goes net r lay p → ∀ st ∈ p, st.inn net.length
  | [], _, _, _, h => by cases h
  | x :: p, lay, g, st, h => by
    rcases List.mem_cons.mp h with rfl | h
    · exact (allSteps_inn hk g.1).1
    · exact goes_inn hk p _ g.2.2 st h
theorem wrongG_not {net : List (List Nat)} {r : Rul} : ∀ (ds : List PyData) (lay : List Nat) (k : Nat), wrongG net r lay ds k = .none ∨ ∃ w j, wrongG net r lay ds k = .tuple [.str w, .int (j : Nat)]
  | [], _, _ => .inl rfl
  | d :: ds, lay, k => by
    unfold wrongG
    split
    · exact .inr ⟨_, _, rfl⟩
    · split
      · exact wrongG_not ds _ _
      · exact .inr ⟨_, _, rfl⟩
theorem lo_wrong {net : List (List Nat)} (hv : NetV net) (r : Rul) {ds : List PyData} (hd : ∀ d ∈ ds, okN d) (h : wrongG net r [] ds 0 ≠ .none) : m_lays_of [netD net, .list ds, ruD r] = .ex (exc "NoPlay") := by
  have e := ev_fw hv r ds hd
  rcases wrongG_not (net := net) (r := r) ds [] 0 with z | ⟨w, j, z⟩
  · exact (h z).elim
  · rw [z] at e; exact ev_lo_wrong e rfl rfl
end DL

namespace DL
open PySem L2
def c__law_box_v2 : CS := (cSeq (cSet 2 (cOp2 oAdd (.ex (cOp2 oMul (.ex (cK (.int 7919))) (.nm 1))) (.ex (cK (.int 13)))))
    (cSeq (cIfS (toT (cOp2 oLt (.nm 1) (.ex (cOpN oLen [(.nm 0)])))) (cSet 2 (cOp2 oIx (.nm 0) (.nm 1))) cNext)
    (cSeq (cIfS (toT (cOp2 oEq (.ex (cOp2 oMod (.nm 2) (.ex (cK (.int 2))))) (.ex (cK (.int 0))))) (cRet (cLst [(.ex (cOp2 oFdiv (.nm 2) (.ex (cK (.int 2)))))])) cNext)
    (cSeq (cSet 3 (cK (.int 0)))
    (cSeq (cFor (.one 4) (iArgs rg1 [(.ex (cK (.int 16)))]) (cSeq (cSet 5 (cOp2 oMod (.ex (cOp2 oAdd (.ex (cOp2 oAdd (.ex (cOp2 oMul (.ex (cOp2 oMod (.nm 2) (.ex (cK (.int 2147483647))))) (.ex (cK (.int 48271))))) (.ex (cOp2 oMul (.ex (cK (.int 7919))) (.nm 4))))) (.ex (cK (.int 1))))) (.ex (cK (.int 2147483647)))))
    (cSeq (cSet 5 (cOp2 oMod (.ex (cOp2 oMul (.nm 5) (.nm 5))) (.ex (cK (.int 2147483629)))))
    (cSet 3 (cOp2 oAdd (.ex (cOp2 oMul (.nm 3) (.ex (cK (.int 2147483647))))) (.ex (cOp2 oMod (.ex (cOp2 oMul (.nm 5) (.ex (cOp2 oAdd (.nm 5) (.ex (cK (.int 13))))))) (.ex (cK (.int 2147483647))))))))))
    (cRet (cLst [(.ex (cVar 3))])))))))
def m__law_box_v2 : Fn := runDef 6 c__law_box_v2
def c__law_lets_v2 : CS := (cSeq (cSet 3 (cComp (.one 4) (iArgs rg1 [(.ex (cOpN oLen [(.nm 0)]))]) (cAndT (toT (cOp2 (oIn true) (.nm 4) (.nm 1))) (toT (cOpN oAll [(.ex (cComp (.one 5) (iSeq (cOp2 oIx (.nm 0) (.nm 4))) tYesC (cOp2 (oIn false) (.nm 5) (.nm 1)) [5]))]))) (cVar 4) [4]))
    (cSeq (cSet 6 (cCompO 3 (.one 4) tYesC (cTup [(.ex (cK (.str "put"))), (.ex (cVar 4))]) [4]))
    (cSeq (cSet 7 (cCompO 1 (.one 4) (cOrT (toT (cOp2 oNe (.nm 2) (.ex (cK (.str "careful"))))) (toT (cOpN oAll [(.ex (cComp (.one 5) (iSeq (cOp2 oIx (.nm 0) (.nm 4))) tYesC (cOp2 (oIn false) (.nm 5) (.nm 1)) [5]))]))) (cVar 4) [4]))
    (cSeq (cSet 6 (cOp2 oAdd (.nm 6) (.ex (cCompO 7 (.one 4) tYesC (cTup [(.ex (cK (.str "take"))), (.ex (cVar 4))]) [4]))))
    (cSeq (cIfS (toT (cOp2 oEq (.nm 2) (.ex (cK (.str "slide"))))) (cForO 3 (.one 4) (cSet 6 (cOp2 oAdd (.nm 6) (.ex (cComp (.one 5) (iSeq (cOp2 oIx (.nm 0) (.nm 4))) tYesC (cTup [(.ex (cK (.str "slide"))), (.ex (cVar 5)), (.ex (cVar 4))]) [5]))))) cNext)
    (cRet (cMove 6)))))))
def m__law_lets_v2 : Fn := runDef 8 c__law_lets_v2
def c__law_behind : CS := (cSeq (cSet 2 (cCompO 0 (.one 3) (cOrT (toT (cOp2 oNe (.nm 3) (.ex (cOp2 oIx (.nm 1) (.ex (cK (.int 1))))))) (toT (cOp2 oEq (.ex (cOp2 oIx (.nm 1) (.ex (cK (.int 0))))) (.ex (cK (.str "put")))))) (cVar 3) [3]))
    (cSeq (cIfS (toT (cOp2 oNe (.ex (cOp2 oIx (.nm 1) (.ex (cK (.int 0))))) (.ex (cK (.str "take"))))) (cDrop (cMethT "list" mAppend 2 [(.ex (cOp2 oIx (.nm 1) (.ex (cNeg (.ex (cK (.int 1)))))))])) cNext)
    (cRet (cOpN oTuple [(.ex (cOpN oSortedA [(.nm 2)]))]))))
def m__law_behind : Fn := runDef 4 c__law_behind
def c__law_play_v2 : CS := (cSeq (cSet 4 (cTup []))
    (cSeq (cSet 5 (cLst []))
    (cSeq (cFor (.one 6) (iArgs rg1 [(.ex (cCallI m__law_take 0 [(.ex (cOp2 oAdd (.nm 3) (.ex (cK (.int 1)))))]))]) (cSeq (cSet 7 (cCall m__law_lets_v2 [(.nm 1), (.nm 4), (.nm 2)]))
    (cSeq (cSet 8 (cCompO 7 (.one 9) (toT (cOp2 oEq (.ex (cOp2 oIx (.nm 9) (.ex (cK (.int 0))))) (.ex (cK (.str "put"))))) (cVar 9) [9]))
    (cSeq (cIfS (cAndT (toT (cOp2 oNe (.nm 8) (.ex (cLst [])))) (toT (cOp2 oGt (.ex (cCallI m__law_take 0 [(.ex (cK (.int 3)))])) (.ex (cK (.int 0)))))) (cSet 7 (cVar 8)) cNext)
    (cIfS (toT (cOp2 oNe (.nm 7) (.ex (cLst [])))) (cSeq (cDrop (cMethT "list" mAppend 5 [(.ex (cOp2 oIx (.nm 7) (.ex (cCallI m__law_take 0 [(.ex (cOpN oLen [(.nm 7)]))]))))]))
    (cSet 4 (cCall m__law_behind [(.nm 4), (.ex (cOp2 oIx (.nm 5) (.ex (cNeg (.ex (cK (.int 1)))))))]))) cNext)))))
    (cRet (cMove 5)))))
def m__law_play_v2 : Fm := runDefI 10 c__law_play_v2
def c__law_lays_v2 : CS := (cSeq (cSet 1 (cLst [(.ex (cTup []))]))
    (cSeq (cForO 0 (.one 2) (cDrop (cMethT "list" mAppend 1 [(.ex (cCall m__law_behind [(.ex (cOp2 oIx (.nm 1) (.ex (cNeg (.ex (cK (.int 1))))))), (.nm 2)]))])))
    (cRet (cMove 1))))
def m__law_lays_v2 : Fn := runDef 3 c__law_lays_v2
def putsV (net : List (List Nat)) (lay : List Nat) : List Nat := (List.range net.length).filter fun s => !lay.contains s && fullB net lay s
def takesV (net : List (List Nat)) (lay : List Nat) (r : Rul) : List Nat := lay.filter fun s => !decide (r = .careful) || fullB net lay s
def slidesV (net : List (List Nat)) (ps : List Nat) : List Stp := ps.flatMap fun s => (nds net s).map fun n => .slide n s
def letsV (net : List (List Nat)) (lay : List Nat) (r : Rul) : List Stp := (putsV net lay).map .put ++ (takesV net lay r).map .take ++ if r = .slide then slidesV net (putsV net lay) else []
end DL

namespace DL
open PySem L2
def c_is_clean : CS := (cSeq (cDrop (cCall m_need_spot [(.nm 0), (.nm 2)]))
    (cSeq (cDrop (cCall m_need_rules [(.nm 3)]))
    (cRet (cOp2 oEq (.ex (cOp2 oIx (.ex (cCall m_lays_of [(.nm 0), (.nm 1), (.nm 3)])) (.ex (cNeg (.ex (cK (.int 1))))))) (.ex (cTup [(.ex (cVar 2))]))))))
def m_is_clean : Fn := runDef 4 c_is_clean
def c__law_odd_v2 : CS := (cSeq (cSet 1 (cLst [(.ex (cK .none)), (.ex (cK (.bool true))), (.ex (cK (.bool false))), (.ex (cK (.str "1"))), (.ex (cK (.str ""))), (.ex (cTup [(.ex (cK (.int 1)))])), (.ex (cLst [(.ex (cK (.int 1)))])), (.ex (cDispI [("a", 1)])), (.ex (cTup [])), (.ex (cOp2 oPow (.ex (cK (.int 10))) (.ex (cK (.int 39))))), (.ex (cNeg (.ex (cK (.int 1))))), (.ex (cLst [(.ex (cK (.str "put")))])), (.ex (cTup [(.ex (cK (.str "put"))), (.ex (cK (.str "1")))])), (.ex (cK (.int 11)))]))
    (cRet (cOp2 oIx (.nm 1) (.ex (cCallI m__law_take 0 [(.ex (cK (.int 14)))])))))
def m__law_odd_v2 : Fm := runDefI 2 c__law_odd_v2
def c__law_told_v14 : CS := (cTry 4 hmPlaces (cRet (cCall m_is_clean [(.nm 0), (.nm 1), (.nm 2), (.nm 3)])))
def m__law_told_v14 : Fn := runDef 6 c__law_told_v14
def c_law_v46 : CS := (cSeq (cFor (.one 1) (iArgs rg1 [(.ex (cOpN oMax2 [(.ex (cK (.int 1))), (.ex (cOpN oMin2 [(.ex (cOpN oLen [(.nm 0)])), (.ex (cK (.int 3)))]))]))]) (cSeq (cSet 2 (cCall m__law_box_v2 [(.nm 0), (.nm 1)]))
    (cSeq (cSet 3 (cCallI m__law_net 2 [(.ex (cK (.int 7)))]))
    (cSeq (cSet 4 (cCallI m__law_rules 2 []))
    (cSeq (cSet 5 (cCallI m__law_play_v2 2 [(.ex (cVar 3)), (.ex (cVar 4)), (.ex (cK (.int 12)))]))
    (cSeq (cSet 6 (cOp2 oIx (.ex (cCall m__law_lays_v2 [(.nm 5)])) (.ex (cNeg (.ex (cK (.int 1)))))))
    (cSeq (cIfS (cAndT (toT (cOp2 oEq (.ex (cCallI m__law_take 2 [(.ex (cK (.int 2)))])) (.ex (cK (.int 1))))) (toT (cOp2 oNe (.nm 4) (.ex (cK (.str "careful")))))) (cSeq (cSet 7 (cCallI m__law_take 2 [(.ex (cOp2 oAdd (.ex (cOpN oLen [(.nm 6)])) (.ex (cK (.int 1)))))]))
    (cSeq (cSet 5 (cOp2 oAdd (.nm 5) (.ex (cComp (.one 8) (iArgs rg1 [(.ex (cOpN oLen [(.nm 6)]))]) (toT (cOp2 oNe (.nm 8) (.nm 7))) (cTup [(.ex (cK (.str "take"))), (.ex (cOp2 oIx (.nm 6) (.nm 8)))]) [8]))))
    (cSet 6 (cOp2 oIx (.ex (cCall m__law_lays_v2 [(.nm 5)])) (.ex (cNeg (.ex (cK (.int 1))))))))) cNext)
    (cSeq (cSet 9 (cOpN oList [(.nm 5)]))
    (cSeq (cFor (.one 10) (iArgs rg1 [(.ex (cOpN oLen [(.nm 3)]))]) (cSeq (cSet 11 (cCall m__law_told_v14 [(.nm 3), (.nm 9), (.nm 10), (.nm 4)]))
    (cIfS (cOrT (cNotT (toT (cIsi "bool" (.nm 11)))) (cOrT (toT (cOp2 oNe (.nm 11) (.ex (cOp2 oEq (.nm 6) (.ex (cTup [(.ex (cVar 10))])))))) (toT (cOp2 oNe (.nm 9) (.nm 5))))) (cRet (cK (.bool false))) cNext)))
    (cSeq (cSet 12 (cOp2 oIx (.ex (cLst [(.ex (cOp2 oAdd (.nm 5) (.ex (cLst [(.ex (cTup [(.ex (cK (.str "put"))), (.ex (cOpN oLen [(.nm 3)]))]))])))), (.ex (cK .none)), (.ex (cOpN oTuple [(.nm 5)])), (.ex (cOp2 oAdd (.nm 5) (.ex (cLst [(.ex (cK (.int 0)))]))))])) (.ex (cCallI m__law_take 2 [(.ex (cK (.int 4)))]))))
    (cSeq (cSet 10 (cCallI m__law_take 2 [(.ex (cOpN oLen [(.nm 3)]))]))
    (cSeq (cIfS (cOrT (toT (cOp2 oNe (.ex (cCall m__law_told_v14 [(.nm 3), (.nm 12), (.nm 10), (.nm 4)])) (.ex (cLst [(.ex (cK (.int 6)))])))) (toT (cOp2 oNe (.ex (cCall m__law_told_v14 [(.nm 3), (.nm 12), (.nm 10), (.ex (cK (.str "quick")))])) (.ex (cLst [(.ex (cK (.int 2)))]))))) (cRet (cK (.bool false))) cNext)
    (cIfS (cOrT (toT (cOp2 oNe (.ex (cCall m__law_told_v14 [(.nm 3), (.nm 12), (.ex (cOpN oLen [(.nm 3)])), (.ex (cK (.str "quick")))])) (.ex (cLst [(.ex (cK (.int 1)))])))) (toT (cOp2 oNe (.ex (cCall m__law_told_v14 [(.ex (cK .none)), (.nm 12), (.ex (cOpN oLen [(.nm 3)])), (.ex (cK (.str "quick")))])) (.ex (cLst [(.ex (cK (.int 0)))]))))) (cRet (cK (.bool false))) cNext)))))))))))))
    (cRet (cK (.bool true))))
def m_law_v46 : Fn := runDef 13 c_law_v46
def badP (net : List (List Nat)) (r : Rul) (x : PyData) : Prop := m_lays_of [netD net, x, ruD r] = .ex (exc "NoPlay")
theorem badP_app {net : List (List Nat)} (hv : NetV net) (r : Rul) {p : List Stp} (hg : goes net r [] p) {d : PyData} (h : okN d) (hs : stepB net.length d = false) : badP net r (.list (p.map stD ++ [d])) := by
  refine lo_wrong hv r (fun x hx => ?_) ?_
  · rcases List.mem_append.mp hx with hx | hx
    · obtain ⟨st, _, rfl⟩ := List.mem_map.mp hx; exact okN_st st
    · rw [List.mem_singleton.mp hx]; exact h
  · rw [wrongG_app _ p [] 0 (goes_inn hv.ok p [] hg) hg, wrongG_none hs]
    exact fun h => by cases h
theorem badP_not {net : List (List Nat)} (hv : NetV net) (r : Rul) {d : PyData} (hd : scrD d = false) (h : listB d = false) : badP net r d := ev_lo_ex (ev_fw_play hv r hd h)
end DL

namespace DL
open PySem L2
def c_open_to (rec : Fn) : CS := (cSeq (cIfS (toT (cOp2 (oIn false) (.nm 2) (.nm 1))) (cRet (cK .none)) cNext)
    (cSeq (cIfS (toT (cOp2 oEq (.ex (cOp2 oIx (.nm 0) (.nm 2))) (.ex (cTup [])))) (cRet (cLst [(.ex (cVar 2))])) cNext)
    (cSeq (cSet 3 (cK .none))
    (cSeq (cFor (.one 4) (iSeq (cOp2 oIx (.nm 0) (.nm 2))) (cSeq (cSet 5 (cCall rec [(.nm 0), (.nm 1), (.nm 4)]))
    (cIfS (cAndT (toT (cOp2 oNotN (.nm 5) (.ex (cK .none)))) (cOrT (toT (cOp2 oIsN (.nm 3) (.ex (cK .none)))) (toT (cOp2 oLtD (.ex (cOp2 oAdd (.nm 5) (.ex (cLst [(.ex (cVar 2))])))) (.nm 3))))) (cSet 3 (cOp2 oAdd (.nm 5) (.ex (cLst [(.ex (cVar 2))])))) cNext)))
    (cRet (cMove 3))))))
def m_open_to : Fn := iterF (fun rec => runDef 6 (c_open_to rec)) 11
def c_open_way : CS := (cSeq (cDrop (cCall m_need_spot [(.nm 0), (.nm 2)]))
    (cSeq (cIfS (cNotT (toT (cCall m_is_lay [(.nm 0), (.nm 1)]))) (cRaise "NoLay") cNext)
    (cRet (cCall m_open_to [(.nm 0), (.nm 1), (.nm 2)]))))
def m_open_way : Fn := runDef 3 c_open_way
def c_is_path : CS := (cSeq (cIfS (cOrT (cNotT (toT (cIsi "list" (.nm 1)))) (toT (cOp2 oEq (.nm 1) (.ex (cLst []))))) (cRet (cK (.bool false))) cNext)
    (cSeq (cIfS (cNotT (toT (cOpN oAll [(.ex (cCompO 1 (.one 2) tYesC (cAnd (cCall m_is_whole [(.nm 2)]) (cChain oLe oLt (.ex (cK (.int 0))) (.nm 2) (.ex (cOpN oLen [(.nm 0)])))) [2]))]))) (cRet (cK (.bool false))) cNext)
    (cSeq (cIfS (toT (cOp2 oNe (.ex (cOp2 oIx (.nm 0) (.ex (cOp2 oIx (.nm 1) (.ex (cK (.int 0))))))) (.ex (cTup [])))) (cRet (cK (.bool false))) cNext)
    (cRet (cOpN oAll [(.ex (cComp (.one 3) (iArgs rg2 [(.ex (cK (.int 1))), (.ex (cOpN oLen [(.nm 1)]))]) tYesC (cOp2 (oIn false) (.ex (cOp2 oIx (.nm 1) (.ex (cOp2 oSub (.nm 3) (.ex (cK (.int 1))))))) (.ex (cOp2 oIx (.nm 0) (.ex (cOp2 oIx (.nm 1) (.nm 3)))))) [3]))])))))
def m_is_path : Fn := runDef 4 c_is_path
def c_is_way : CS := (cSeq (cDrop (cCall m_need_spot [(.nm 1), (.nm 2)]))
    (cRet (cAnd (cCall m_is_path [(.nm 1), (.nm 0)]) (cOp2 oEq (.ex (cOp2 oIx (.nm 0) (.ex (cNeg (.ex (cK (.int 1))))))) (.nm 2)))))
def m_is_way : Fn := runDef 3 c_is_way
def c_blocked_marks : CS := (cSeq (cSet 4 (cCall m_lays_of [(.nm 0), (.nm 1), (.nm 3)]))
    (cRet (cTup [(.ex (cCompO 4 (.one 5) tYesC (cOp2 oIsN (.ex (cCall m_open_to [(.nm 0), (.nm 5), (.nm 2)])) (.ex (cK .none))) [5])), (.ex (cCompO 4 (.one 5) tYesC (cOp2 (oIn false) (.nm 2) (.nm 5)) [5]))])))
def m_blocked_marks : Fn := runDef 6 c_blocked_marks
def c_need_all : CS := (cSeq (cDrop (cCall m_need_spot [(.nm 0), (.nm 1)]))
    (cDrop (cCall m_need_rules [(.nm 2)])))
def m_need_all : Fn := runDef 3 c_need_all
def c_first_blocked : CS := (cSeq (cDrop (cCall m_need_all [(.nm 0), (.nm 2), (.nm 3)]))
    (cSeq (cUnp (.many [4, 5]) (cCall m_blocked_marks [(.nm 0), (.nm 1), (.nm 2), (.nm 3)]))
    (cSeq (cIfS (toT (cOp2 (oIn true) (.ex (cK (.bool true))) (.nm 4))) (cRet (cK .none)) cNext)
    (cRet (cMethV "list" oIndex (.nm 4) [(.ex (cK (.bool true)))])))))
def m_first_blocked : Fn := runDef 6 c_first_blocked
def c_last_blocked : CS := (cSeq (cDrop (cCall m_need_all [(.nm 0), (.nm 2), (.nm 3)]))
    (cSeq (cUnp (.many [4, 5]) (cCall m_blocked_marks [(.nm 0), (.nm 1), (.nm 2), (.nm 3)]))
    (cSeq (cIfS (toT (cOp2 (oIn true) (.ex (cK (.bool true))) (.nm 5))) (cRet (cK .none)) cNext)
    (cSeq (cSet 6 (cMethV "list" oIndex (.nm 5) [(.ex (cK (.bool true)))]))
    (cSeq (whileL (cAndT (toT (cOp2 oGt (.nm 6) (.ex (cK (.int 0))))) (toT (cOp2 oIx (.nm 4) (.ex (cOp2 oSub (.nm 6) (.ex (cK (.int 1)))))))) (cSet 6 (cOp2 oSub (.nm 6) (.ex (cK (.int 1))))) 100000)
    (cRet (cMove 6)))))))
def m_last_blocked : Fn := runDef 7 c_last_blocked
def c_is_side : CS := (cSeq (cIfS (cOrT (cNotT (toT (cCall m_is_path [(.nm 0), (.nm 2)]))) (cOrT (toT (cOp2 oLt (.ex (cOpN oLen [(.nm 2)])) (.ex (cK (.int 2))))) (toT (cOp2 (oIn true) (.ex (cOp2 oIx (.nm 2) (.ex (cNeg (.ex (cK (.int 1))))))) (.nm 1))))) (cRet (cK (.bool false))) cNext)
    (cRet (cNot (cOpN oAny [(.ex (cComp (.one 3) (iSeq (cSl (.nm 2) .none (.some (.ex (cNeg (.ex (cK (.int 1)))))))) tYesC (cOp2 (oIn false) (.nm 3) (.nm 1)) [3]))]))))
def m_is_side : Fn := runDef 4 c_is_side
def c_are_sides : CS := (cSeq (cDrop (cCall m_need_spot [(.nm 1), (.nm 2)]))
    (cSeq (cIfS (cNotT (toT (cCall m_is_way [(.nm 3), (.nm 1), (.nm 2)]))) (cRaise "NoWay") cNext)
    (cSeq (cIfS (cOrT (cNotT (toT (cIsi "list" (.nm 0)))) (cNotT (toT (cOpN oAll [(.ex (cCompO 0 (.one 4) tYesC (cCall m_is_side [(.nm 1), (.nm 3), (.nm 4)]) [4]))])))) (cRet (cK (.bool false))) cNext)
    (cSeq (cSet 5 (cLst []))
    (cSeq (cForO 0 (.one 4) (cDrop (cMethT "list" mExtend 5 [(.ex (cSl (.nm 4) .none (.some (.ex (cNeg (.ex (cK (.int 1))))))))])))
    (cRet (cOp2 oEq (.ex (cOp1 oLenSet (.nm 5))) (.ex (cOpN oLen [(.nm 5)])))))))))
def m_are_sides : Fn := runDef 6 c_are_sides
def c__law_told_v9 : CS := (cSeq (cTry 5 hmPlaces (cIfS (toT (cOp2 oEq (.nm 0) (.ex (cK (.int 0))))) (cDrop (cCall m_open_way [(.nm 1), (.nm 3), (.nm 2)])) (cIfS (toT (cOp2 oEq (.nm 0) (.ex (cK (.int 1))))) (cDrop (cCall m_is_way [(.nm 3), (.nm 1), (.nm 2)])) (cIfS (toT (cOp2 oEq (.nm 0) (.ex (cK (.int 2))))) (cDrop (cCall m_first_blocked [(.nm 1), (.nm 3), (.nm 2), (.nm 4)])) (cIfS (toT (cOp2 oEq (.nm 0) (.ex (cK (.int 3))))) (cDrop (cCall m_last_blocked [(.nm 1), (.nm 3), (.nm 2), (.nm 4)])) (cDrop (cCall m_are_sides [(.ex (cLst [])), (.nm 1), (.nm 2), (.nm 3)])))))))
    (cRet (cLst [])))
def m__law_told_v9 : Fn := runDef 7 c__law_told_v9
def c_law_v36 : CS := (cSeq (cFor (.one 1) (iArgs rg1 [(.ex (cOpN oMax2 [(.ex (cK (.int 1))), (.ex (cOpN oMin2 [(.ex (cOpN oLen [(.nm 0)])), (.ex (cK (.int 4)))]))]))]) (cSeq (cSet 2 (cCall m__law_box_v2 [(.nm 0), (.nm 1)]))
    (cSeq (cSet 3 (cCallI m__law_net 2 [(.ex (cK (.int 7)))]))
    (cSeq (cSet 4 (cCallI m__law_take 2 [(.ex (cOpN oLen [(.nm 3)]))]))
    (cSeq (cSet 5 (cCallI m__law_play_v2 2 [(.ex (cVar 3)), (.ex (cK (.str "plain"))), (.ex (cK (.int 6)))]))
    (cSeq (cSet 6 (cOp2 oIx (.ex (cLst [(.ex (cOpN oList [(.nm 3)])), (.ex (cOp2 oAdd (.nm 3) (.ex (cTup [(.ex (cTup [(.ex (cOpN oLen [(.nm 3)]))]))])))), (.ex (cTup [])), (.ex (cTup [(.ex (cTup [(.ex (cK (.int 0)))]))])), (.ex (cK .none)), (.ex (cTup [(.ex (cK (.int 1)))])), (.ex (cTup [(.ex (cTup [])), (.ex (cLst [(.ex (cK (.int 0)))]))]))])) (.ex (cCallI m__law_take 2 [(.ex (cK (.int 7)))]))))
    (cSeq (cSet 7 (cOp2 oIx (.ex (cLst [(.ex (cOpN oLen [(.nm 3)])), (.ex (cNeg (.ex (cK (.int 1))))), (.ex (cK (.bool true))), (.ex (cK .none)), (.ex (cK (.str "0"))), (.ex (cTup [(.ex (cK (.int 0)))]))])) (.ex (cCallI m__law_take 2 [(.ex (cK (.int 6)))]))))
    (cSeq (cSet 8 (cOp2 oIx (.ex (cLst [(.ex (cLst [])), (.ex (cTup [(.ex (cOpN oLen [(.nm 3)]))])), (.ex (cTup [(.ex (cK (.int 0))), (.ex (cK (.int 0)))])), (.ex (cTup [(.ex (cK (.bool true)))])), (.ex (cK .none)), (.ex (cTup [(.ex (cK (.int 1))), (.ex (cK (.int 0)))])), (.ex (cK (.int 0)))])) (.ex (cCallI m__law_take 2 [(.ex (cK (.int 7)))]))))
    (cSeq (cSet 9 (cOp2 oIx (.ex (cLst [(.ex (cK (.str "Plain"))), (.ex (cK .none)), (.ex (cK (.str ""))), (.ex (cK (.bool true))), (.ex (cLst [(.ex (cK (.str "plain")))])), (.ex (cK (.int 0)))])) (.ex (cCallI m__law_take 2 [(.ex (cK (.int 6)))]))))
    (cSeq (cSet 10 (cLst [(.ex (cOp2 oAdd (.nm 5) (.ex (cLst [(.ex (cTup [(.ex (cK (.str "put"))), (.ex (cOpN oLen [(.nm 3)]))]))])))), (.ex (cOp2 oAdd (.ex (cOpN oTuple [(.nm 5)])) (.ex (cTup [(.ex (cK (.int 0)))])))), (.ex (cK .none)), (.ex (cOp2 oAdd (.nm 5) (.ex (cLst [(.ex (cTup [(.ex (cK (.str "slide"))), (.ex (cK (.int 0))), (.ex (cK (.int 0)))]))])))), (.ex (cK (.str ""))), (.ex (cLst [(.ex (cK (.int 0)))]))]))
    (cSeq (cSet 10 (cOp2 oIx (.nm 10) (.ex (cCallI m__law_take 2 [(.ex (cK (.int 6)))]))))
    (cSeq (cSet 11 (cOp2 oIx (.ex (cLst [(.ex (cLst [])), (.ex (cK .none)), (.ex (cTup [(.ex (cVar 4))])), (.ex (cLst [(.ex (cOpN oLen [(.nm 3)]))])), (.ex (cLst [(.ex (cVar 4)), (.ex (cVar 4))])), (.ex (cK (.str "0"))), (.ex (cLst [(.ex (cK (.bool true)))]))])) (.ex (cCallI m__law_take 2 [(.ex (cK (.int 7)))]))))
    (cFor (.one 12) (iArgs rg1 [(.ex (cK (.int 5)))]) (cSeq (cSet 13 (cOp2 oIx (.ex (cLst [(.ex (cVar 8)), (.ex (cK .none)), (.ex (cVar 10)), (.ex (cVar 10)), (.ex (cVar 11))])) (.nm 12)))
    (cSeq (cIfS (toT (cOp2 oNe (.ex (cCall m__law_told_v9 [(.nm 12), (.nm 6), (.nm 7), (.nm 13), (.nm 9)])) (.ex (cLst [(.ex (cK (.int 0)))])))) (cRet (cK (.bool false))) cNext)
    (cSeq (cIfS (toT (cOp2 oNe (.ex (cCall m__law_told_v9 [(.nm 12), (.nm 3), (.nm 7), (.nm 13), (.nm 9)])) (.ex (cLst [(.ex (cK (.int 1)))])))) (cRet (cK (.bool false))) cNext)
    (cSeq (cIfS (cAndT (toT (cOp2 (oIn false) (.nm 12) (.ex (cTup [(.ex (cK (.int 2))), (.ex (cK (.int 3)))])))) (toT (cOp2 oNe (.ex (cCall m__law_told_v9 [(.nm 12), (.nm 3), (.nm 4), (.nm 13), (.nm 9)])) (.ex (cLst [(.ex (cK (.int 2)))]))))) (cRet (cK (.bool false))) cNext)
    (cSeq (cSet 14 (cOp2 oIx (.ex (cLst [(.ex (cLst [(.ex (cK (.int 4)))])), (.ex (cLst [])), (.ex (cLst [(.ex (cK (.int 6)))])), (.ex (cLst [(.ex (cK (.int 6)))])), (.ex (cLst [(.ex (cK (.int 9)))]))])) (.nm 12)))
    (cIfS (toT (cOp2 oNe (.ex (cCall m__law_told_v9 [(.nm 12), (.nm 3), (.nm 4), (.nm 13), (.ex (cK (.str "plain")))])) (.nm 14))) (cRet (cK (.bool false))) cNext)))))))))))))))))))
    (cRet (cK (.bool true))))
def m_law_v36 : Fn := runDef 15 c_law_v36
def inB (n : Nat) : PyData → Bool := spotB n
end DL

namespace DL
open PySem L2
def c__law_told_v6 : CS := (cSeq (cTry 4 hmMarks (cIfS (toT (cOp2 oEq (.nm 0) (.ex (cK (.int 0))))) (cDrop (cCall m_steps_from [(.nm 1), (.nm 2), (.nm 3)])) (cIfS (toT (cOp2 oEq (.nm 0) (.ex (cK (.int 1))))) (cDrop (cCall m_led [(.nm 1), (.nm 2), (.ex (cTup [(.ex (cK (.str "put"))), (.ex (cK (.int 0)))])), (.nm 3)])) (cIfS (toT (cOp2 oEq (.nm 0) (.ex (cK (.int 2))))) (cDrop (cCall m_first_wrong [(.nm 1), (.nm 2), (.nm 3)])) (cIfS (toT (cOp2 oEq (.nm 0) (.ex (cK (.int 3))))) (cDrop (cCall m_lays_of [(.nm 1), (.nm 2), (.nm 3)])) (cIfS (toT (cOp2 oEq (.nm 0) (.ex (cK (.int 4))))) (cDrop (cCall m_stones_of [(.nm 1), (.nm 2), (.nm 3)])) (cDrop (cCall m_cost_of [(.nm 1), (.nm 2), (.nm 3)]))))))))
    (cRet (cK (.str "told"))))
def m__law_told_v6 : Fn := runDef 5 c__law_told_v6
def c__law_missed : CS := (cSeq (cTry 4 hmMarks (cDrop (cCall m_missed [(.nm 0), (.nm 1), (.nm 2), (.nm 3)])))
    (cRet (cK (.str "told"))))
def m__law_missed : Fn := runDef 5 c__law_missed
def c_law_v11 : CS := (cSeq (cFor (.one 1) (iArgs rg1 [(.ex (cOpN oMax2 [(.ex (cK (.int 1))), (.ex (cOpN oMin2 [(.ex (cOpN oLen [(.nm 0)])), (.ex (cK (.int 6)))]))]))]) (cSeq (cSet 2 (cCall m__law_box [(.nm 0), (.nm 1)]))
    (cSeq (cSet 3 (cCallI m__law_net 2 [(.ex (cK (.int 6)))]))
    (cSeq (cPar 4 5 (cCallI m__law_no_net 2 []) (cCallI m__law_no_rules 2 []))
    (cSeq (cSet 6 (cCallI m__law_no_spot 2 [(.ex (cOpN oLen [(.nm 3)]))]))
    (cSeq (cFor (.one 7) (iArgs rg1 [(.ex (cK (.int 6)))]) (cSeq (cSet 8 (cOp2 oIx (.ex (cLst [(.ex (cK (.str "lay"))), (.ex (cK (.str "play")))])) (.ex (cOpN oInt [(.ex (cOp2 oGt (.nm 7) (.ex (cK (.int 1)))))]))))
    (cSeq (cIfS (cOrT (toT (cOp2 oNe (.ex (cCall m__law_told_v6 [(.nm 7), (.nm 4), (.ex (cK .none)), (.nm 5)])) (.ex (cK (.str "net"))))) (toT (cOp2 oNe (.ex (cCall m__law_told_v6 [(.nm 7), (.nm 4), (.ex (cTup [])), (.ex (cK (.str "plain")))])) (.ex (cK (.str "net")))))) (cRet (cK (.bool false))) cNext)
    (cSeq (cIfS (cOrT (toT (cOp2 oNe (.ex (cCall m__law_told_v6 [(.nm 7), (.nm 3), (.ex (cK .none)), (.nm 5)])) (.ex (cK (.str "rules"))))) (toT (cOp2 oNe (.ex (cCall m__law_told_v6 [(.nm 7), (.nm 3), (.ex (cTup [])), (.nm 5)])) (.ex (cK (.str "rules")))))) (cRet (cK (.bool false))) cNext)
    (cIfS (toT (cOp2 oNe (.ex (cCall m__law_told_v6 [(.nm 7), (.nm 3), (.ex (cK .none)), (.ex (cK (.str "slide")))])) (.nm 8))) (cRet (cK (.bool false))) cNext)))))
    (cSeq (cIfS (cOrT (toT (cOp2 oNe (.ex (cCall m__law_missed [(.nm 4), (.nm 6), (.ex (cK .none)), (.nm 5)])) (.ex (cK (.str "net"))))) (toT (cOp2 oNe (.ex (cCall m__law_missed [(.nm 3), (.nm 6), (.ex (cK .none)), (.nm 5)])) (.ex (cK (.str "spot")))))) (cRet (cK (.bool false))) cNext)
    (cSeq (cIfS (cOrT (toT (cOp2 oNe (.ex (cCall m__law_missed [(.nm 3), (.ex (cK (.int 0))), (.ex (cK .none)), (.nm 5)])) (.ex (cK (.str "rules"))))) (toT (cOp2 oNe (.ex (cCall m__law_missed [(.nm 3), (.ex (cK (.int 0))), (.ex (cK .none)), (.ex (cK (.str "plain")))])) (.ex (cK (.str "play")))))) (cRet (cK (.bool false))) cNext)
    (cIfS (cOrT (toT (cOp2 oNe (.ex (cCall m__law_missed [(.nm 3), (.ex (cK (.int 0))), (.ex (cLst [(.ex (cTup [(.ex (cK (.str "take"))), (.ex (cK (.int 0)))]))])), (.ex (cK (.str "plain")))])) (.ex (cK (.str "play"))))) (toT (cOp2 oNe (.ex (cCall m__law_missed [(.nm 3), (.ex (cK (.int 0))), (.ex (cLst [])), (.ex (cK (.str "careful")))])) (.ex (cK (.str "told")))))) (cRet (cK (.bool false))) cNext)))))))))
    (cRet (cK (.bool true))))
def m_law_v11 : Fn := runDef 9 c_law_v11
end DL

namespace DL
open PySem L2
def c_roots : CS := (cSeq (cDrop (cCall m_need_net [(.nm 0)]))
    (cRet (cComp (.many [1, 2]) (iEnumC (cVar 0)) (toT (cOp2 oEq (.nm 2) (.ex (cTup [])))) (cVar 1) [1, 2])))
def m_roots : Fn := runDef 3 c_roots
def c_heights : CS := (cSeq (cDrop (cCall m_need_net [(.nm 0)]))
    (cSeq (cSet 1 (cLst []))
    (cSeq (cForO 0 (.one 2) (cDrop (cMethT "list" mAppend 1 [(.ex (cOpN oMax [(.ex (cOp2 oAdd (.ex (cCompO 2 (.one 3) tYesC (cOp2 oAdd (.ex (cOp2 oIx (.nm 1) (.nm 3))) (.ex (cK (.int 1)))) [3])) (.ex (cLst [(.ex (cK (.int 0)))]))))]))])))
    (cRet (cMove 1)))))
def m_heights : Fn := runDef 4 c_heights
def c__law_height : CS := (cSeq (cSet 2 (cOpN oList [(.ex (cOp2 oIx (.nm 0) (.nm 1)))]))
    (cSeq (cSet 3 (cK (.int 0)))
    (cSeq (whileL (toT (cOp2 oNe (.nm 2) (.ex (cLst [])))) (cSeq (cSet 3 (cOp2 oAdd (.nm 3) (.ex (cK (.int 1)))))
    (cSeq (cSet 4 (cLst []))
    (cSeq (cForO 2 (.one 5) (cSet 4 (cOp2 oAdd (.nm 4) (.ex (cOpN oList [(.ex (cOp2 oIx (.nm 0) (.nm 5)))])))))
    (cSet 2 (cOp1 oSortSet (.nm 4)))))) 100000)
    (cRet (cMove 3)))))
def m__law_height : Fn := runDef 6 c__law_height
def maxM (f : Nat → Nat) : List Nat → Nat
  | [] => 0
  | x :: l => max (f x + 1) (maxM f l)
def hF (net : List (List Nat)) : Nat → Nat → Nat
  | 0, _ => 0
  | n + 1, s => maxM (hF net n) (nds net s)
def hgt (net : List (List Nat)) (s : Nat) : Nat := hF net (s + 1) s
def needs (net : List (List Nat)) (l : List Nat) : List Nat := l.flatMap (nds net)
def rootsN (net : List (List Nat)) : List Nat := (List.range net.length).filter fun s => decide (nds net s = [])
@[simp] theorem oEq_la0 (l : List Nat) : oEq (laD l) (.tuple []) = .val (.frz (.bool (decide (l = [])))) := oEq_tupleN (f := nD) l
@[simp] theorem oList_la (l : List Nat) : oList [laD l] = .val (.own false (.list (l.map nD))) := rfl
end DL

namespace DL
open PySem L2
def c_show_net : CS := (cSeq (cDrop (cCall m_need_net [(.nm 0)]))
    (cRet (cJoin "\n" (.ex (cComp (.many [2, 3]) (iEnumC (cVar 0)) tYesC (cJoin " " (.ex (cOp2 oAdd (.ex (cLst [(.ex (cOp2 oAdd (.ex (cOpN oStr [(.nm 2)])) (.ex (cK (.str ":")))))])) (.ex (cCompO 3 (.one 1) tYesC (cOpN oStr [(.nm 1)]) [1]))))) [2, 3])))))
def m_show_net : Fn := runDef 4 c_show_net
def c__law_told_v2 : CS := (cSeq (cTry 3 hmMarks (cIfS (toT (cOp2 oEq (.nm 0) (.ex (cK (.int 0))))) (cDrop (cCall m_beneath [(.nm 1), (.nm 2)])) (cIfS (toT (cOp2 oEq (.nm 0) (.ex (cK (.int 1))))) (cDrop (cCall m_above [(.nm 1), (.nm 2)])) (cIfS (toT (cOp2 oEq (.nm 0) (.ex (cK (.int 2))))) (cDrop (cCall m_enough_cost [(.nm 1), (.nm 2)])) (cIfS (toT (cOp2 oEq (.nm 0) (.ex (cK (.int 3))))) (cDrop (cCall m_enough_play [(.nm 1), (.nm 2)])) (cIfS (toT (cOp2 oEq (.nm 0) (.ex (cK (.int 4))))) (cDrop (cCall m_roots [(.nm 1)])) (cIfS (toT (cOp2 oEq (.nm 0) (.ex (cK (.int 5))))) (cDrop (cCall m_heights [(.nm 1)])) (cDrop (cCall m_show_net [(.nm 1)])))))))))
    (cRet (cK (.str "told"))))
def m__law_told_v2 : Fn := runDef 4 c__law_told_v2
def c_law_v6 : CS := (cSeq (cFor (.one 1) (iArgs rg1 [(.ex (cOpN oMax2 [(.ex (cK (.int 1))), (.ex (cOpN oMin2 [(.ex (cOpN oLen [(.nm 0)])), (.ex (cK (.int 6)))]))]))]) (cSeq (cSet 2 (cCall m__law_box [(.nm 0), (.nm 1)]))
    (cSeq (cSet 3 (cCallI m__law_net 2 [(.ex (cK (.int 6)))]))
    (cSeq (cPar 4 5 (cCallI m__law_no_net 2 []) (cCallI m__law_no_spot 2 [(.ex (cOpN oLen [(.nm 3)]))]))
    (cFor (.one 6) (iArgs rg1 [(.ex (cK (.int 7)))]) (cSeq (cIfS (cOrT (toT (cOp2 oNe (.ex (cCall m__law_told_v2 [(.nm 6), (.nm 4), (.ex (cK (.int 0)))])) (.ex (cK (.str "net"))))) (toT (cOp2 oNe (.ex (cCall m__law_told_v2 [(.nm 6), (.nm 4), (.nm 5)])) (.ex (cK (.str "net")))))) (cRet (cK (.bool false))) cNext)
    (cSeq (cIfS (toT (cOp2 oNe (.ex (cCall m__law_told_v2 [(.nm 6), (.nm 3), (.nm 5)])) (.ex (cOp2 oIx (.ex (cLst [(.ex (cK (.str "told"))), (.ex (cK (.str "spot")))])) (.ex (cOpN oInt [(.ex (cOp2 oLt (.nm 6) (.ex (cK (.int 4)))))])))))) (cRet (cK (.bool false))) cNext)
    (cIfS (toT (cOp2 oNe (.ex (cCall m__law_told_v2 [(.nm 6), (.nm 3), (.ex (cOp2 oSub (.ex (cOpN oLen [(.nm 3)])) (.ex (cK (.int 1)))))])) (.ex (cK (.str "told"))))) (cRet (cK (.bool false))) cNext))))))))
    (cRet (cK (.bool true))))
def m_law_v6 : Fn := runDef 7 c_law_v6
@[simp] theorem ev_join (s : Str) (o : Opd) (env : Cs) : cJoin s o env = (o.ev env).bind fun l env1 => match l.get env1 with
  | some (.list ds) => match strsJ ds with
    | some ys => if (ys.map (·.length)).sum + ys.length * s.length ≤ 16777216 then .ok (.frz (.str (Txt.join s ys))) env1 else .no
    | none => .no
  | _ => .no := rfl
theorem join_len_le (s : Str) (ys : List Str) : (Txt.join s ys).length ≤ (ys.map (·.length)).sum + ys.length * s.length := by
  have e : Txt.join s ys = Str.join s ys := PySem.StrLaws.glued_eq_join s ys
  rw [e]
  cases ys with
  | nil => exact Nat.zero_le _
  | cons a l =>
    rw [PyProof.Rows.len_join_cons, List.length_cons, Nat.succ_mul]; omega
theorem strsJ_map {α : Type} (g : α → Str) : ∀ l : List α, strsJ (l.map fun x => PyData.str (g x)) = some (l.map g)
  | [] => rfl
  | x :: l => by
    rw [List.map_cons]
    show (strsJ (l.map fun x => PyData.str (g x))).map (g x :: ·) = _
    rw [strsJ_map g l]; rfl
def sN (n : Nat) : Str := Str.ofString (toString (n : Int))
theorem sN_len : ∀ n < 12, (sN n).length ≤ 3 := by decide +kernel
theorem oStr_nat {n : Nat} (h : n < 12) : oStr [.int (n : Int)] = .val (.frz (.str (sN n))) := by
  show (if (n : Int).natAbs < 2 ^ 200 then OR.val (.frz (.str (sN n))) else .no) = _
  rw [if_pos (by rw [Int.natAbs_natCast]; exact Nat.lt_trans h (by decide))]
theorem sum_le {g : Nat → Nat} {B : Nat} : ∀ l : List Nat, (∀ x ∈ l, g x ≤ B) → (l.map g).sum ≤ l.length * B
  | [], _ => by simp
  | x :: l, h => by
    have h1 := h x List.mem_cons_self
    have h2 := sum_le l fun y hy => h y (List.mem_cons_of_mem _ hy)
    simp only [List.map_cons, List.sum_cons, List.length_cons, Nat.succ_mul]; omega
def rowS (i : Nat) (l : List Nat) : Str := Txt.join " " ((sN i ++ Str.ofString ":") :: l.map sN)
theorem sColon (i : Nat) (hi : i < 12) : (sN i ++ Str.ofString ":").length ≤ 4 := by
  revert i hi; decide +kernel
theorem rowS_len {i : Nat} {l : List Nat} (hi : i < 12) (hl : ∀ x ∈ l, x < 12) (hn : l.length ≤ 12) : (((sN i ++ Str.ofString ":") :: l.map sN).map (·.length)).sum + ((sN i ++ Str.ofString ":") :: l.map sN).length * (" " : Str).length ≤ 100 ∧ (rowS i l).length ≤ 100 := by
  have h1 := sColon i hi
  have h2 := sum_le (g := fun x => (sN x).length) (B := 3) l fun x hx => sN_len x (hl x hx)
  have e : ((l.map sN).map (·.length)) = l.map fun x => (sN x).length := by rw [List.map_map]; rfl
  have hs : (" " : Str).length = 1 := by decide +kernel
  have h3 : (((sN i ++ Str.ofString ":") :: l.map sN).map (·.length)).sum + ((sN i ++ Str.ofString ":") :: l.map sN).length * (" " : Str).length ≤ 100 := by
    rw [hs, List.map_cons, List.sum_cons, e, List.length_cons, List.length_map]; omega
  exact ⟨h3, Nat.le_trans (join_len_le _ _) h3⟩
end DL

namespace DL
open PySem L2 TL
def c_number_in : CS := (cSeq (cIfS (cAndT (toT (cOp2 oEq (.ex (cOpN oLen [(.nm 0)])) (.ex (cK (.int 1))))) (toT (cOp2 oInStr (.nm 0) (.ex (cK (.str "0123456789")))))) (cRet (cOpN oIntS [(.nm 0)])) cNext)
    (cRet (cK .none)))
def m_number_in : Fn := runDef 1 c_number_in
def c_needs_in : CS := (cSeq (cSet 2 (cSplit " " (.nm 0)))
    (cSeq (cSet 3 (cOpN oTuple [(.ex (cComp (.one 4) (iSeq (cSl (.nm 2) (.some (.ex (cK (.int 1)))) .none)) tYesC (cCall m_number_in [(.nm 4)]) [4]))]))
    (cSeq (cIfS (cOrT (toT (cOp2 oNe (.ex (cOp2 oIx (.nm 2) (.ex (cK (.int 0))))) (.ex (cOp2 oAdd (.ex (cOpN oStr [(.nm 1)])) (.ex (cK (.str ":"))))))) (cNotT (toT (cCall m_is_rising [(.nm 3), (.nm 1)])))) (cRet (cK .none)) cNext)
    (cRet (cMove 3)))))
def m_needs_in : Fn := runDef 5 c_needs_in
def c_read_net : CS := (cSeq (cIfS (cNotT (toT (cIsi "str" (.nm 0)))) cNever cNext)
    (cSeq (cSet 1 (cLst []))
    (cSeq (cFor (.many [2, 3]) (iEnumC (cSplit "\n" (.nm 0))) (cSeq (cSet 4 (cCall m_needs_in [(.nm 3), (.nm 2)]))
    (cSeq (cIfS (cOrT (toT (cOp2 oIsN (.nm 4) (.ex (cK .none)))) (toT (cOp2 oEq (.nm 2) (.ex (cK (.int 10)))))) cNever cNext)
    (cDrop (cMethT "list" mAppend 1 [(.ex (cVar 4))])))))
    (cRet (cOpN oTuple [(.nm 1)])))))
def m_read_net : Fn := runDef 5 c_read_net
def c__law_text : CS := (cSeq (cSet 1 (cLst []))
    (cSeq (cFor (.one 2) (iArgs rg1 [(.ex (cOpN oLen [(.nm 0)]))]) (cDrop (cMethT "list" mAppend 1 [(.ex (cOp2 oAdd (.ex (cOp2 oAdd (.ex (cOpN oStr [(.nm 2)])) (.ex (cK (.str ":"))))) (.ex (cJoin "" (.ex (cComp (.one 3) (iSeq (cOp2 oIx (.nm 0) (.nm 2))) tYesC (cOp2 oAdd (.ex (cK (.str " "))) (.ex (cOpN oStr [(.nm 3)]))) [3]))))))])))
    (cRet (cJoin "\n" (.nm 1)))))
def m__law_text : Fn := runDef 4 c__law_text
def rowsT (net : List (List Nat)) : List Str := net.zipIdx.map fun p => rowS p.2 p.1
def textT (net : List (List Nat)) : Str := Txt.join (Str.ofString "\n") (rowsT net)
theorem rowsT_succ {net : List (List Nat)} {n : Nat} {l : List Nat} (h : net[n]? = some l) : rowsT (net.take n) ++ [rowS n l] = rowsT (net.take (n + 1)) := by
  obtain ⟨hl, e⟩ := List.getElem?_eq_some_iff.mp h
  unfold rowsT
  rw [List.take_succ_eq_append_getElem hl, List.zipIdx_append, List.map_append, e]
  simp [List.length_take]
  congr 1
  omega
theorem joinE (p : List Nat) (ps : List (List Nat)) : joinL [] (p :: ps) = p ++ joinL [] ps := by
  cases ps with
  | nil => show p = p ++ []; rw [List.append_nil]
  | cons q r => rfl
theorem joinS (S : List Nat) : ∀ (ps : List (List Nat)) (p : List Nat), joinL S (p :: ps) = p ++ joinL [] (ps.map fun q => S ++ q)
  | [], p => by show p = p ++ []; rw [List.append_nil]
  | q :: r, p => by
    show p ++ (S ++ joinL S (q :: r)) = _
    rw [joinS S r q, List.map_cons, joinE, List.append_assoc]
theorem tl_joinT (y : Str) (parts : List Str) : tl (Txt.join y parts) = joinL (tl y) (parts.map tl) := by rw [join_eq, tl_join]
theorem join_sp (s a : Str) (bs : List Str) : Txt.join s (a :: bs) = a ++ Txt.join (Str.ofString "") (bs.map fun b => s ++ b) := by
  refine ext_tl ?_
  rw [tl_joinT, tl_append, tl_joinT, List.map_cons, joinS, List.map_map]
  congr 1
  rw [show tl (Str.ofString "") = [] from rfl]
  congr 1
  rw [List.map_map]
  refine List.map_congr_left fun b _ => ?_
  show tl s ++ tl b = tl (s ++ b)
  rw [tl_append]
def lineL (i : Nat) (l : List Nat) : Str := sN i ++ Str.ofString ":" ++ Txt.join (Str.ofString "") (l.map fun n => Str.ofString " " ++ sN n)
theorem line_eq (i : Nat) (l : List Nat) : lineL i l = rowS i l := by
  unfold lineL rowS
  rw [show ((" " : Str)) = Str.ofString " " from rfl, join_sp, List.map_map]; rfl
theorem row_ok {net : List (List Nat)} (hv : NetV net) {i : Nat} {l : List Nat} (h : net[i]? = some l) : i < 10 ∧ (∀ x ∈ l, x < i) ∧ l.length ≤ 12 ∧ l.Pairwise (· < ·) := by
  have hl := (List.getElem?_eq_some_iff.mp h).1
  have h10 := hv.ten
  have e : nds net i = l := by unfold nds; rw [h]; rfl
  refine ⟨by omega, fun x hx => nds_lt hv.ok (e ▸ hx), ?_, e ▸ nds_inc hv.ok i⟩
  have := nds_len hv.ok i
  rw [e] at this; omega
def intB (r : FR) (i : Int) : Bool := match r with
  | .ok (.frz (.int j)) => decide (j = i)
  | _ => false
theorem int_of {r : FR} {i : Int} (h : intB r i = true) : r = .ok (.frz (.int i)) := by
  unfold intB at h
  split at h
  · rw [of_decide_eq_true h]
  · cases h
theorem ev_numin : ∀ n < 10, m_number_in [.str (sN n)] = .ok (.frz (.int (n : Nat))) := by
  intro n hn
  refine int_of ?_
  revert n hn
  decide +kernel
theorem ev_ltext {net : List (List Nat)} (hv : NetV net) : m__law_text [netD net] = .ok (.frz (.str (textT net))) := by
  have h10 := hv.ten
  have hl : (rowsT net).length = net.length := by unfold rowsT; rw [List.length_map, List.length_zipIdx]
  apply run_of; intro K kk
  simp [c__law_text, rgD0, show (net.length : Int) ≤ 1000000 by omega]
  refine sat_forT (f := nD) (xs := List.range net.length) (fun rest e => ∃ (m : Nat) (j2 : Jk) (j3 : Jm), e = [.frz (netD net), .own false (.list ((rowsT (net.take m)).map .str)), j2.c, j3.c] ∧ rest = List.range' m (net.length - m) ∧ m ≤ net.length) ⟨0, jkE, jmE, rfl, by simp [List.range_eq_range'], Nat.zero_le _⟩ ?_ ?_
  · rintro i rest e ⟨m, j2, j3, rfl, hr, hm⟩ K' L
    obtain ⟨rfl, hk, rfl⟩ := range'_cons hr
    have hml : i < net.length := by omega
    have hg := nds_at hml
    obtain ⟨a, b, c, d⟩ := row_ok hv hg
    have b12 : ∀ x ∈ nds net i, x < 12 := fun x hx => by have := b x hx; omega
    have hlen := (rowS_len (i := i) (by omega) b12 c).2
    have hst := oStr_nat (n := i) (by omega)
    have hco : (Str.ofString ":").length = 1 := by decide +kernel
    have hsp : (Str.ofString " ").length = 1 := by decide +kernel
    have had : oAdd (.str (sN i)) (.str (Str.ofString ":")) = .val (.frz (.str (sN i ++ Str.ofString ":"))) := by
      show (if (sN i).length + (Str.ofString ":").length ≤ lim then _ else _) = _
      rw [if_pos (by have := sN_len i (by omega); rw [hco]; unfold lim; omega)]
    have hin := comp1 (v := 3) (ci := iSeq (cOp2 oIx (.nm 0) (.nm 2))) (ct := tYesC) (ce := cOp2 oAdd (.ex (cK (.str (Str.ofString " ")))) (.ex (cOpN oStr [(.nm 3)]))) (env := [.frz (netD net), .own false (.list ((rowsT (net.take i)).map .str)), .frz (.int (i : Nat)), j3.c]) (f := nD) (xs := nds net i) (fun _ => true) (fun n => .str (Str.ofString " " ++ sN n))
      (by simp [atI_nat, hg]) (by simp) (by simp) (fun n hn => by
        have h1 := oStr_nat (n := n) (b12 n hn)
        have h2 : oAdd (.str (Str.ofString " ")) (.str (sN n)) = .val (.frz (.str (Str.ofString " " ++ sN n))) := by
          show (if (Str.ofString " ").length + (sN n).length ≤ lim then _ else _) = _
          rw [if_pos (by have := sN_len n (b12 n hn); rw [hsp]; unfold lim; omega)]
        generalize Str.ofString " " ++ sN n = SS at h2 ⊢
        generalize sN n = S0 at h1 h2
        generalize Str.ofString " " = SP at h2 ⊢
        simp [tYesC, h1, h2])
    rw [filterT] at hin
    have hsj := strsJ_map (fun n => Str.ofString " " ++ sN n) (nds net i)
    have hline := line_eq i (nds net i)
    have hjl : (((nds net i).map fun n => Str.ofString " " ++ sN n).map (·.length)).sum + ((nds net i).map fun n => Str.ofString " " ++ sN n).length * (Str.ofString "").length ≤ 16777216 := by
      have h0 : (Str.ofString "").length = 0 := by decide +kernel
      have hs := sum_le (g := fun n => (Str.ofString " " ++ sN n).length) (B := 4) (nds net i) fun n hn => by
        have := sN_len n (b12 n hn)
        rw [len_tl, tl_append, List.length_append, ← len_tl, ← len_tl, hsp]; omega
      rw [h0, List.map_map]
      have e : ((fun s : Str => s.length) ∘ fun n => Str.ofString " " ++ sN n) = fun n => (Str.ofString " " ++ sN n).length := rfl
      rw [e]; omega
    have had2 : oAdd (.str (sN i ++ Str.ofString ":")) (.str (Txt.join (Str.ofString "") ((nds net i).map fun n => Str.ofString " " ++ sN n))) = .val (.frz (.str (rowS i (nds net i)))) := by
      show (if (sN i ++ Str.ofString ":").length + (Txt.join (Str.ofString "") ((nds net i).map fun n => Str.ofString " " ++ sN n)).length ≤ lim then OR.val (.frz (.str (sN i ++ Str.ofString ":" ++ Txt.join (Str.ofString "") ((nds net i).map fun n => Str.ofString " " ++ sN n)))) else _) = _
      have e : (lineL i (nds net i)).length = (sN i ++ Str.ofString ":").length + (Txt.join (Str.ofString "") ((nds net i).map fun n => Str.ofString " " ++ sN n)).length := by
        unfold lineL
        rw [len_tl, tl_append, List.length_append, ← len_tl, ← len_tl]
      rw [if_pos (by rw [← e, hline]; unfold lim; omega)]
      rw [← hline]; rfl
    have fin := L.nx [.frz (netD net), .own false (.list ((rowsT (net.take (i + 1))).map .str)), .frz (.int (i : Nat)), j3.c] ⟨i + 1, ⟨.frz (.int (i : Nat)), rfl⟩, j3, rfl, by rw [Nat.sub_sub], hml⟩
    rw [← rowsT_succ hg, List.map_append] at fin
    have hl2 : ((rowsT (net.take i)).map PyData.str).length ≤ 10 := by unfold rowsT; rw [List.length_map, List.length_map, List.length_zipIdx, List.length_take]; omega
    have hap : mAppend (.list ((rowsT (net.take i)).map .str)) [.str (rowS i (nds net i))] = .ok (.frz .none) (.list ((rowsT (net.take i)).map .str ++ [rowS i (nds net i)].map .str)) := by
      show (if ((rowsT (net.take i)).map PyData.str).length < lim then OM.ok (Cell.frz PyData.none) (PyData.list (_ ++ [_])) else OM.no) = _
      rw [if_pos (by unfold lim; omega)]; rfl
    generalize (rowsT (net.take i)).map PyData.str ++ [rowS i (nds net i)].map .str = A2 at hap fin
    generalize (rowsT (net.take i)).map PyData.str = A1 at hap hin
    generalize rowS i (nds net i) = RW at *
    generalize ((nds net i).map fun n => PyData.str (Str.ofString " " ++ sN n)) = VV at hin hsj
    generalize ((nds net i).map fun n => Str.ofString " " ++ sN n) = WW at hsj hjl had2
    generalize sN i ++ Str.ofString ":" = S1 at had had2
    generalize sN i = S0 at hst had
    simp [hst, had, hin, hsj, hjl, had2, hap]
    exact fin
  · rintro e ⟨m, j2, j3, rfl, hr, hm⟩
    have hml : net.length ≤ m := by
      have := congrArg List.length hr
      simp at this; omega
    rw [List.take_of_length_le hml]
    have hsj : strsJ ((rowsT net).map PyData.str) = some (rowsT net) := by have := strsJ_map id (rowsT net); rw [List.map_id] at this; exact this
    have hjl : ((rowsT net).map (·.length)).sum + (rowsT net).length * (Str.ofString "\n").length ≤ 16777216 := by
      have hnl : (Str.ofString "\n").length = 1 := by decide +kernel
      have hsum : ∀ Ts : List Str, (∀ t ∈ Ts, t.length ≤ 100) → (Ts.map (·.length)).sum ≤ Ts.length * 100 := by
        intro Ts
        induction Ts with
        | nil => intro _; simp
        | cons t Ts ih =>
          intro h
          have h1 := h t List.mem_cons_self
          have h2 := ih fun y hy => h y (List.mem_cons_of_mem _ hy)
          simp only [List.map_cons, List.sum_cons, List.length_cons, Nat.succ_mul]; omega
      have hb := hsum (rowsT net) fun t ht => by
        unfold rowsT at ht
        obtain ⟨q, hq, rfl⟩ := List.mem_map.mp ht
        obtain ⟨a, b, c, _⟩ := row_ok hv (List.mem_zipIdx_iff_getElem?.mp hq)
        exact (rowS_len (by omega) (fun x hx => by have := b x hx; omega) c).2
      rw [hnl]; omega
    have htx : textT net = Txt.join (Str.ofString "\n") (rowsT net) := rfl
    rw [htx] at kk
    generalize (rowsT net).map PyData.str = RT at hsj ⊢
    simp [hsj, hjl]
    exact kk.rt _ _ rfl
end DL

namespace DL
open PySem L2
def c__law_ways (rec : Fn) : CS := (cSeq (cIfS (toT (cOp2 oEq (.ex (cOp2 oIx (.nm 0) (.nm 1))) (.ex (cTup [])))) (cRet (cLst [(.ex (cLst [(.ex (cVar 1))]))])) cNext)
    (cSeq (cSet 2 (cLst []))
    (cSeq (cFor (.one 3) (iSeq (cOp2 oIx (.nm 0) (.nm 1))) (cSet 2 (cOp2 oAdd (.nm 2) (.ex (cComp (.one 4) (iSeq (cCall rec [(.nm 0), (.nm 3)])) tYesC (cOp2 oAdd (.nm 4) (.ex (cLst [(.ex (cVar 1))]))) [4])))))
    (cRet (cOpN oSortD [(.nm 2)])))))
def m__law_ways : Fn := iterF (fun rec => runDef 5 (c__law_ways rec)) 11
def c__law_open : CS := (cRet (cComp (.one 3) (iSeq (cCall m__law_ways [(.nm 0), (.nm 2)])) (toT (cOp2 oEq (.ex (cCompO 3 (.one 4) (toT (cOp2 (oIn false) (.nm 4) (.nm 1))) (cVar 4) [4])) (.ex (cLst [])))) (cVar 3) [3]))
def m__law_open : Fn := runDef 5 c__law_open
inductive IsWay (net : List (List Nat)) : Nat → List Nat → Prop
  | root {s : Nat} : nds net s = [] → IsWay net s [s]
  | step {s n : Nat} {w : List Nat} : n ∈ nds net s → IsWay net n w → IsWay net s (w ++ [s])
theorem IsWay.low {net : List (List Nat)} (hk : NetOk net) {s : Nat} {w : List Nat} (h : IsWay net s w) : w.Pairwise (· < ·) ∧ ∀ x ∈ w, x ≤ s := by
  induction h with
  | root _ => exact ⟨by simp, by simp⟩
  | step hn _ ih =>
    have := nds_lt hk hn
    refine ⟨?_, fun x hx => ?_⟩
    · rw [List.pairwise_append]
      exact ⟨ih.1, by simp, fun a ha b hb => by simp at hb; subst hb; have := ih.2 a ha; omega⟩
    · rcases List.mem_append.mp hx with hx | hx
      · have := ih.2 x hx; omega
      · simp at hx; omega
theorem IsWay.last {net : List (List Nat)} {s : Nat} {w : List Nat} (h : IsWay net s w) : ∃ v, w = v ++ [s] := by
  cases h with
  | root _ => exact ⟨[], rfl⟩
  | step _ _ => exact ⟨_, rfl⟩
theorem IsWay.len {net : List (List Nat)} (hk : NetOk net) {s : Nat} {w : List Nat} (h : IsWay net s w) : w.length ≤ s + 1 := by
  obtain ⟨h1, h2⟩ := h.low hk
  have := List.Nodup.length_le_of_subset (lt_nodup h1) (l₂ := List.range (s + 1)) fun x hx => by have := h2 x hx; simp; omega
  simpa using this
theorem IsWay.apart {net : List (List Nat)} (hk : NetOk net) {s x : Nat} {w t : List Nat} (h : IsWay net s w) (h2 : IsWay net s (w ++ x :: t)) : False := by
  obtain ⟨v, rfl⟩ := h.last
  obtain ⟨h1, _⟩ := h2.low hk
  obtain ⟨u, hu⟩ := h2.last
  rw [List.pairwise_append] at h1
  have hm : s ∈ x :: t := by
    have e := congrArg List.getLast? hu
    rw [List.getLast?_append, List.getLast?_append] at e
    have e2 : (x :: t).getLast? = some s := by
      cases h : (x :: t).getLast? with
      | none => simp at h
      | some y => rw [h] at e; simpa using e
    exact List.mem_of_getLast? e2
  have := h1.2.2 s (by simp) s hm
  omega
def sortW (L : List (List Nat)) : List (List Nat) := L.mergeSort fun a b => !decide (b < a)
def wysF (net : List (List Nat)) : Nat → Nat → List (List Nat)
  | 0, _ => []
  | f + 1, s => if nds net s = [] then [[s]] else sortW ((nds net s).flatMap fun n => (wysF net f n).map (· ++ [s]))
def fac : Nat → Nat
  | 0 => 1
  | n + 1 => (n + 1) * fac n
instance : EncOk liD where
  eqv a b := by show PyData.eqv (.list (a.map nD)) (.list (b.map nD)) = _; simp only [PyData.eqv, eqvAll_map (f := nD)]
  lay a := by show PyData.canLay0 (.list (a.map nD)) = true; simp only [PyData.canLay0, layAll_map (f := nD)]
  dpt a := by
    show PyData.depth (.list (a.map nD)) ≤ 8
    have : ∀ a : List Nat, PyData.depthAll (a.map nD) = 0 := fun a => by
      induction a with
      | nil => rfl
      | cons x a ih => simp only [List.map_cons, PyData.depthAll, ih]; rfl
    simp only [PyData.depth, this]; omega
end DL

namespace DL
open PySem L2
def wys (net : List (List Nat)) (s : Nat) : List (List Nat) := wysF net 11 s
def opn (lay w : List Nat) : Bool := w.all fun x => !lay.contains x
def opens (net : List (List Nat)) (lay : List Nat) (s : Nat) : List (List Nat) := (wys net s).filter (opn lay)
def Least (net : List (List Nat)) (lay : List Nat) (s : Nat) : Option (List Nat) → Prop
  | none => ∀ w, IsWay net s w → opn lay w = false
  | some v => IsWay net s v ∧ opn lay v = true ∧ ∀ w, IsWay net s w → opn lay w = true → ¬ w < v
def olW : Option (List Nat) → Cell
  | none => .frz .none
  | some w => .own false (liD w)
end DL

namespace DL
open PySem L2
def pathB (net : List (List Nat)) (l : List Nat) : Bool := decide (nds net (l.getD 0 0) = []) && (List.range' 1 (l.length - 1)).all fun i => (nds net (l.getD i 0)).contains (l.getD (i - 1) 0)
end DL

namespace DL
open PySem L2
def c_need_rows : CS := (cIfS (cOrT (cNotT (toT (cCall m_is_whole [(.nm 0)]))) (cNotT (toT (cChain oLe oLe (.ex (cK (.int 1))) (.nm 0) (.ex (cK (.int 4))))))) (cRaise "NoRow") cNext)
def m_need_rows : Fn := runDef 1 c_need_rows
def c_begins : CS := (cSeq (cSet 1 (cLst [(.ex (cK (.int 0)))]))
    (cSeq (cFor (.one 2) (iArgs rg1 [(.nm 0)]) (cDrop (cMethT "list" mAppend 1 [(.ex (cOp2 oSub (.ex (cOp2 oAdd (.ex (cOp2 oIx (.nm 1) (.ex (cNeg (.ex (cK (.int 1))))))) (.nm 0))) (.nm 2)))])))
    (cRet (cMove 1))))
def m_begins : Fn := runDef 3 c_begins
def c_stair_of : CS := (cSeq (cSet 1 (cCall m_begins [(.nm 0)]))
    (cSeq (cSet 2 (cLst []))
    (cSeq (cFor (.one 3) (iArgs rg1 [(.nm 0)]) (cFor (.one 4) (iArgs rg1 [(.ex (cOp2 oSub (.nm 0) (.nm 3)))]) (cSeq (cSet 5 (cTup []))
    (cSeq (cIfS (toT (cOp2 oGt (.nm 3) (.ex (cK (.int 0))))) (cSet 5 (cTup [(.ex (cOp2 oAdd (.ex (cOp2 oIx (.nm 1) (.ex (cOp2 oSub (.nm 3) (.ex (cK (.int 1))))))) (.nm 4))), (.ex (cOp2 oAdd (.ex (cOp2 oAdd (.ex (cOp2 oIx (.nm 1) (.ex (cOp2 oSub (.nm 3) (.ex (cK (.int 1))))))) (.nm 4))) (.ex (cK (.int 1)))))])) cNext)
    (cDrop (cMethT "list" mAppend 2 [(.ex (cVar 5))]))))))
    (cRet (cOpN oTuple [(.nm 2)])))))
def m_stair_of : Fn := runDef 6 c_stair_of
def c_stair : CS := (cSeq (cDrop (cCall m_need_rows [(.nm 0)]))
    (cRet (cCall m_stair_of [(.nm 0)])))
def m_stair : Fn := runDef 1 c_stair
def c_need_quick : CS := (cSeq (cDrop (cCall m_need_rules [(.nm 0)]))
    (cIfS (toT (cOp2 oEq (.nm 0) (.ex (cK (.str "careful"))))) (cRaise "NoRules") cNext))
def m_need_quick : Fn := runDef 1 c_need_quick
def c_stair_stones : CS := (cSeq (cDrop (cCall m_need_rows [(.nm 0)]))
    (cSeq (cDrop (cCall m_need_quick [(.nm 1)]))
    (cSeq (cIfS (cOrT (toT (cOp2 oEq (.nm 0) (.ex (cK (.int 1))))) (toT (cOp2 oEq (.nm 1) (.ex (cK (.str "slide")))))) (cRet (cMove 0)) cNext)
    (cRet (cOp2 oAdd (.nm 0) (.ex (cK (.int 1))))))))
def m_stair_stones : Fn := runDef 2 c_stair_stones
def c_row_steps : CS := (cSeq (cSet 4 (cLst []))
    (cSeq (cFor (.one 5) (iArgs rg1 [(.nm 2)]) (cIfS (toT (cOp2 oEq (.nm 3) (.ex (cK (.str "slide"))))) (cDrop (cMethT "list" mAppend 4 [(.ex (cTup [(.ex (cK (.str "slide"))), (.ex (cOp2 oAdd (.nm 0) (.nm 5))), (.ex (cOp2 oAdd (.nm 1) (.nm 5)))]))])) (cSeq (cDrop (cMethT "list" mAppend 4 [(.ex (cTup [(.ex (cK (.str "put"))), (.ex (cOp2 oAdd (.nm 1) (.nm 5)))]))]))
    (cDrop (cMethT "list" mAppend 4 [(.ex (cTup [(.ex (cK (.str "take"))), (.ex (cOp2 oAdd (.nm 0) (.nm 5)))]))])))))
    (cRet (cOp2 oAdd (.nm 4) (.ex (cLst [(.ex (cTup [(.ex (cK (.str "take"))), (.ex (cOp2 oAdd (.nm 0) (.nm 2)))]))]))))))
def m_row_steps : Fn := runDef 6 c_row_steps
def c_stair_play : CS := (cSeq (cDrop (cCall m_need_rows [(.nm 0)]))
    (cSeq (cDrop (cCall m_need_quick [(.nm 1)]))
    (cSeq (cSet 2 (cCall m_begins [(.nm 0)]))
    (cSeq (cSet 3 (cComp (.one 4) (iArgs rg1 [(.nm 0)]) tYesC (cTup [(.ex (cK (.str "put"))), (.ex (cVar 4))]) [4]))
    (cSeq (cFor (.one 5) (iArgs rg2 [(.ex (cK (.int 1))), (.nm 0)]) (cDrop (cMethT "list" mExtend 3 [(.ex (cCall m_row_steps [(.ex (cOp2 oIx (.nm 2) (.ex (cOp2 oSub (.nm 5) (.ex (cK (.int 1))))))), (.ex (cOp2 oIx (.nm 2) (.nm 5))), (.ex (cOp2 oSub (.nm 0) (.nm 5))), (.nm 1)]))])))
    (cRet (cMove 3)))))))
def m_stair_play : Fn := runDef 6 c_stair_play
def c_downward : CS := (cSeq (cSet 4 (cCall m_begins [(.nm 0)]))
    (cSeq (cSet 5 (cLst []))
    (cSeq (whileL (toT (cOp2 oGe (.nm 1) (.ex (cK (.int 0))))) (cSeq (cDrop (cMethT "list" mInsert 5 [(.ex (cK (.int 0))), (.ex (cOp2 oAdd (.ex (cOp2 oIx (.nm 4) (.nm 1))) (.nm 2)))]))
    (cSeq (cSet 1 (cOp2 oSub (.nm 1) (.ex (cK (.int 1)))))
    (cSet 2 (cOp2 oAdd (.nm 2) (.nm 3))))) 100000)
    (cRet (cMove 5)))))
def m_downward : Fn := runDef 6 c_downward
def c_stair_sides : CS := (cSeq (cDrop (cCall m_need_rows [(.nm 0)]))
    (cSeq (cSet 2 (cCall m_stair_of [(.nm 0)]))
    (cSeq (cIfS (cOrT (cNotT (toT (cCall m_is_path [(.nm 2), (.nm 1)]))) (toT (cOp2 oNe (.ex (cOp2 oIx (.nm 1) (.ex (cNeg (.ex (cK (.int 1))))))) (.ex (cOp2 oSub (.ex (cOpN oLen [(.nm 2)])) (.ex (cK (.int 1)))))))) (cRaise "NoWay") cNext)
    (cSeq (cSet 3 (cCall m_begins [(.nm 0)]))
    (cSeq (cSet 4 (cLst []))
    (cSeq (cFor (.one 5) (iArgs rg2 [(.ex (cK (.int 1))), (.nm 0)]) (cSeq (cSet 6 (cOp2 oSub (.ex (cOp2 oIx (.nm 1) (.nm 5))) (.ex (cOp2 oIx (.nm 3) (.nm 5)))))
    (cSeq (cSet 7 (cOp2 oSub (.ex (cOp2 oIx (.nm 1) (.ex (cOp2 oSub (.nm 5) (.ex (cK (.int 1))))))) (.ex (cOp2 oIx (.nm 3) (.ex (cOp2 oSub (.nm 5) (.ex (cK (.int 1)))))))))
    (cIfS (toT (cOp2 oEq (.nm 7) (.nm 6))) (cDrop (cMethT "list" mAppend 4 [(.ex (cOp2 oAdd (.ex (cCall m_downward [(.nm 0), (.ex (cOp2 oSub (.nm 5) (.ex (cK (.int 1))))), (.ex (cOp2 oAdd (.nm 6) (.ex (cK (.int 1))))), (.ex (cK (.int 1)))])) (.ex (cLst [(.ex (cOp2 oIx (.nm 1) (.nm 5)))]))))])) (cDrop (cMethT "list" mAppend 4 [(.ex (cOp2 oAdd (.ex (cCall m_downward [(.nm 0), (.ex (cOp2 oSub (.nm 5) (.ex (cK (.int 1))))), (.nm 6), (.ex (cK (.int 0)))])) (.ex (cLst [(.ex (cOp2 oIx (.nm 1) (.nm 5)))]))))]))))))
    (cRet (cMove 4))))))))
def m_stair_sides : Fn := runDef 8 c_stair_sides
def c__law_right_v3 : CS := (cSeq (cIfS (cNotT (toT (cIsi "list" (.nm 1)))) (cRet (cK (.bool false))) cNext)
    (cSeq (cSet 3 (cTup []))
    (cSeq (cForO 1 (.one 4) (cSeq (cIfS (cOrT (cNotT (toT (cIsi "tuple" (.nm 4)))) (cNotT (toT (cOpN oAll [(.ex (cComp (.one 5) (iSeq (cSl (.nm 4) (.some (.ex (cK (.int 1)))) .none)) tYesC (cCall m__law_whole [(.nm 5)]) [5]))])))) (cRet (cK (.bool false))) cNext)
    (cSeq (cIfS (toT (cOp2 (oIn true) (.nm 4) (.ex (cCall m__law_lets_v2 [(.nm 0), (.nm 3), (.nm 2)])))) (cRet (cK (.bool false))) cNext)
    (cSet 3 (cCall m__law_behind [(.nm 3), (.nm 4)])))))
    (cRet (cK (.bool true))))))
def m__law_right_v3 : Fn := runDef 6 c__law_right_v3
def c__law_most : CS := (cRet (cOpN oMax [(.ex (cComp (.one 1) (iSeq (cCall m__law_lays_v2 [(.nm 0)])) tYesC (cOpN oLen [(.nm 1)]) [1]))]))
def m__law_most : Fn := runDef 2 c__law_most
def c__law_stair : CS := (cSeq (cSet 1 (cComp (.one 2) (iArgs rg1 [(.nm 0)]) tYesC (cTup []) [2]))
    (cSeq (cSet 3 (cK (.int 0)))
    (cSeq (cFor (.one 4) (iArgs rg3 [(.ex (cOp2 oSub (.nm 0) (.ex (cK (.int 1))))), (.ex (cK (.int 0))), (.ex (cNeg (.ex (cK (.int 1)))))]) (cSeq (cSet 1 (cOp2 oAdd (.nm 1) (.ex (cComp (.one 2) (iArgs rg1 [(.nm 4)]) tYesC (cTup [(.ex (cOp2 oAdd (.nm 3) (.nm 2))), (.ex (cOp2 oAdd (.ex (cOp2 oAdd (.nm 3) (.nm 2))) (.ex (cK (.int 1)))))]) [2]))))
    (cSet 3 (cOp2 oAdd (.ex (cOp2 oAdd (.nm 3) (.nm 4))) (.ex (cK (.int 1)))))))
    (cRet (cOpN oTuple [(.nm 1)])))))
def m__law_stair : Fn := runDef 5 c__law_stair
def c__law_stair_right : CS := (cSeq (cSet 2 (cCall m__law_stair [(.nm 0)]))
    (cSeq (cSet 3 (cOp2 oAdd (.nm 0) (.ex (cOpN oInt [(.ex (cAnd (cOp2 oGt (.nm 0) (.ex (cK (.int 1)))) (cOp2 oEq (.nm 1) (.ex (cK (.str "plain"))))))]))))
    (cSeq (cSet 4 (cCall m_stair_stones [(.nm 0), (.nm 1)]))
    (cSeq (cSet 5 (cCall m_stair_play [(.nm 0), (.nm 1)]))
    (cSeq (cIfS (cOrT (cNotT (toT (cCall m__law_whole [(.nm 4)]))) (cOrT (toT (cOp2 oNe (.nm 4) (.nm 3))) (cNotT (toT (cCall m__law_right_v3 [(.nm 2), (.nm 5), (.nm 1)]))))) (cRet (cK (.bool false))) cNext)
    (cSeq (cIfS (cOrT (toT (cOp2 oNe (.ex (cCall m__law_most [(.nm 5)])) (.nm 3))) (toT (cOp2 oNe (.ex (cCall m__law_cost [(.nm 5)])) (.ex (cOpN oLen [(.nm 2)]))))) (cRet (cK (.bool false))) cNext)
    (cSeq (cIfS (toT (cOp2 oEq (.ex (cComp (.one 6) (iSeq (cCall m__law_lays_v2 [(.nm 5)])) (toT (cOp2 (oIn false) (.ex (cOp2 oSub (.ex (cOpN oLen [(.nm 2)])) (.ex (cK (.int 1))))) (.nm 6))) (cVar 6) [6])) (.ex (cLst [])))) (cRet (cK (.bool false))) cNext)
    (cSeq (cSet 7 (cOpN oList [(.nm 5)]))
    (cSeq (cDrop (cMethT "list" mAppend 5 [(.ex (cK (.int 0)))]))
    (cRet (cOp2 oEq (.ex (cCall m_stair_play [(.nm 0), (.nm 1)])) (.nm 7))))))))))))
def m__law_stair_right : Fn := runDef 8 c__law_stair_right
mutual
def sameD : PyData → PyData → Bool
  | .none, .none => true
  | .bool a, .bool b => a == b
  | .int a, .int b => decide (a = b)
  | .str a, .str b => decide (a = b)
  | .tuple a, .tuple b => sameL a b
  | .list a, .list b => sameL a b
  | _, _ => false
def sameL : List PyData → List PyData → Bool
  | [], [] => true
  | a :: as, b :: bs => sameD a b && sameL as bs
  | _, _ => false
end
mutual
theorem sameD_eq : ∀ (a b : PyData), sameD a b = true → a = b
  | .none, b, h => by cases b <;> simp [sameD] at h ⊢
  | .bool a, b, h => by cases b <;> simp [sameD] at h ⊢; exact h
  | .int a, b, h => by cases b <;> simp [sameD] at h ⊢; exact h
  | .str a, b, h => by cases b <;> simp [sameD] at h ⊢; exact h
  | .tuple a, b, h => by cases b <;> simp [sameD] at h ⊢; exact sameL_eq _ _ h
  | .list a, b, h => by cases b <;> simp [sameD] at h ⊢; exact sameL_eq _ _ h
  | .dict a, b, h => by cases b <;> simp [sameD] at h
theorem sameL_eq : ∀ (a b : List PyData), sameL a b = true → a = b
  | [], b, h => by cases b <;> simp [sameL] at h ⊢
  | a :: as, b, h => by
    cases b with
    | nil => simp [sameL] at h
    | cons b bs =>
      simp [sameL] at h
      rw [sameD_eq a b h.1, sameL_eq as bs h.2]
end
def gaveB (r : FR) (d : PyData) : Bool := match r with
  | .ok (.frz e) => sameD e d
  | _ => false
def stairL : Nat → List (List Nat)
  | 1 => [[]]
  | 2 => [[], [], [0, 1]]
  | 3 => [[], [], [], [0, 1], [1, 2], [3, 4]]
  | _ => [[], [], [], [], [0, 1], [1, 2], [2, 3], [4, 5], [5, 6], [7, 8]]
end DL

namespace DL
open PySem L2
def c__law_told_v11 : CS := (cSeq (cTry 3 hmPlaces (cIfS (toT (cOp2 oEq (.nm 0) (.ex (cK (.int 0))))) (cDrop (cCall m_stair_stones [(.nm 1), (.nm 2)])) (cDrop (cCall m_stair_play [(.nm 1), (.nm 2)]))))
    (cRet (cLst [])))
def m__law_told_v11 : Fn := runDef 5 c__law_told_v11
def c_law_v41 : CS := (cSeq (cFor (.one 1) (iArgs rg2 [(.ex (cK (.int 1))), (.ex (cK (.int 5)))]) (cFor (.one 2) (iSeq (cLst [(.ex (cK (.str "plain"))), (.ex (cK (.str "slide")))])) (cIfS (cNotT (toT (cCall m__law_stair_right [(.nm 1), (.nm 2)]))) (cRet (cK (.bool false))) cNext)))
    (cSeq (cFor (.one 3) (iArgs rg1 [(.ex (cOpN oMax2 [(.ex (cK (.int 1))), (.ex (cOpN oMin2 [(.ex (cOpN oLen [(.nm 0)])), (.ex (cK (.int 2)))]))]))]) (cSeq (cSet 4 (cCall m__law_box_v2 [(.nm 0), (.nm 3)]))
    (cFor (.one 2) (iSeq (cLst [(.ex (cK (.str "careful"))), (.ex (cCallI m__law_odd_v2 4 [])), (.ex (cK (.str "Plain"))), (.ex (cK .none))])) (cFor (.one 5) (iArgs rg1 [(.ex (cK (.int 2)))]) (cIfS (toT (cOp2 oNe (.ex (cCall m__law_told_v11 [(.nm 5), (.ex (cOp2 oAdd (.ex (cK (.int 1))) (.ex (cCallI m__law_take 4 [(.ex (cK (.int 4)))])))), (.nm 2)])) (.ex (cLst [(.ex (cK (.int 2)))])))) (cRet (cK (.bool false))) cNext)))))
    (cRet (cK (.bool true)))))
def m_law_v41 : Fn := runDef 6 c_law_v41
def odd14 (x : PyData) : Prop := x ∈ [.none, .bool true, .bool false, .str (Str.ofString "1"), .str (Str.ofString ""), .tuple [.int 1], .list [.int 1], dispI [(Str.ofString "a", 1)], .tuple [], .int (10 ^ 39), .int (-1), .list [.str (Str.ofString "put")], .tuple [.str (Str.ofString "put"), .str (Str.ofString "1")], .int 11]
end DL

namespace DL
open PySem L2
def c__law_odd : CS := (cSeq (cSet 1 (cLst [(.ex (cK .none)), (.ex (cK (.bool true))), (.ex (cK (.bool false))), (.ex (cNeg (.ex (cK (.int 1))))), (.ex (cK (.str "1"))), (.ex (cK (.str ""))), (.ex (cK (.str "plain"))), (.ex (cTup [])), (.ex (cLst [])), (.ex (cTup [(.ex (cK (.int 1)))])), (.ex (cLst [(.ex (cK (.int 1)))])), (.ex (cDispI [("a", 1)])), (.ex (cTup [(.ex (cTup [])), (.ex (cTup [(.ex (cK (.int 0)))]))])), (.ex (cOp2 oPow (.ex (cK (.int 10))) (.ex (cK (.int 39))))), (.ex (cTup [(.ex (cTup [(.ex (cK (.int 1)))]))])), (.ex (cLst [(.ex (cTup []))]))]))
    (cRet (cOp2 oIx (.nm 1) (.ex (cCallI m__law_take 0 [(.ex (cK (.int 16)))])))))
def m__law_odd : Fm := runDefI 2 c__law_odd
def c__law_told_v5 : CS := (cTry 4 hmMarks (cSeq (cIfS (toT (cOp2 oEq (.nm 0) (.ex (cK (.int 0))))) (cRet (cCall m_lays_of [(.nm 1), (.nm 2), (.nm 3)])) cNext)
    (cSeq (cIfS (toT (cOp2 oEq (.nm 0) (.ex (cK (.int 1))))) (cRet (cCall m_stones_of [(.nm 1), (.nm 2), (.nm 3)])) cNext)
    (cRet (cCall m_cost_of [(.nm 1), (.nm 2), (.nm 3)])))))
def m__law_told_v5 : Fn := runDef 5 c__law_told_v5
def c_law_v10 : CS := (cSeq (cFor (.one 1) (iArgs rg1 [(.ex (cOpN oMax2 [(.ex (cK (.int 1))), (.ex (cOpN oMin2 [(.ex (cOpN oLen [(.nm 0)])), (.ex (cK (.int 5)))]))]))]) (cSeq (cSet 2 (cCall m__law_box [(.nm 0), (.nm 1)]))
    (cSeq (cSet 3 (cCallI m__law_net 2 [(.ex (cOp2 oIx (.ex (cLst [(.ex (cK (.int 6))), (.ex (cK (.int 6))), (.ex (cK (.int 6))), (.ex (cK (.int 10)))])) (.ex (cCallI m__law_take 2 [(.ex (cK (.int 4)))]))))]))
    (cSeq (cSet 4 (cCallI m__law_rules 2 []))
    (cSeq (cSet 5 (cCallI m__law_play 2 [(.ex (cVar 3)), (.ex (cVar 4)), (.ex (cK (.int 14))), (.ex (cK (.int 9)))]))
    (cSeq (cSet 6 (cCall m__law_lays [(.nm 5)]))
    (cSeq (cSet 7 (cOpN oList [(.nm 5)]))
    (cSeq (cSet 8 (cCall m__law_told_v5 [(.ex (cK (.int 0))), (.nm 3), (.nm 7), (.nm 4)]))
    (cSeq (cIfS (cOrT (toT (cOp2 oNe (.ex (cOpN oRepr [(.nm 8)])) (.ex (cOpN oRepr [(.nm 6)])))) (toT (cOp2 oNe (.ex (cOpN oRepr [(.nm 7)])) (.ex (cOpN oRepr [(.nm 5)]))))) (cRet (cK (.bool false))) cNext)
    (cSeq (cDrop (cMethT "list" mAppend 8 [(.ex (cK (.int 0)))]))
    (cSeq (cSet 9 (cLst [(.ex (cVar 6)), (.ex (cOpN oMax [(.ex (cCompO 6 (.one 10) tYesC (cOpN oLen [(.nm 10)]) [10]))])), (.ex (cCall m__law_cost [(.nm 5)]))]))
    (cSeq (cFor (.one 11) (iArgs rg1 [(.ex (cK (.int 3)))]) (cIfS (toT (cOp2 oNe (.ex (cOpN oRepr [(.ex (cCall m__law_told_v5 [(.nm 11), (.nm 3), (.nm 7), (.nm 4)]))])) (.ex (cOpN oRepr [(.ex (cOp2 oIx (.nm 9) (.nm 11)))])))) (cRet (cK (.bool false))) cNext))
    (cSeq (cSet 12 (cComp (.one 13) (iSeq (cLst [(.ex (cTup [(.ex (cK (.str "put"))), (.ex (cK (.int 0)))])), (.ex (cTup [(.ex (cK (.str "take"))), (.ex (cK (.int 0)))]))])) (cNotT (toT (cCall m__law_lets [(.nm 3), (.ex (cOp2 oIx (.nm 6) (.ex (cNeg (.ex (cK (.int 1))))))), (.nm 13), (.nm 4)]))) (cVar 13) [13]))
    (cFor (.one 14) (iSeq (cLst [(.ex (cOp2 oAdd (.nm 5) (.ex (cSl (.nm 12) .none (.some (.ex (cK (.int 1)))))))), (.ex (cOp2 oAdd (.nm 5) (.ex (cLst [(.ex (cK .none))])))), (.ex (cOpN oTuple [(.nm 5)])), (.ex (cK .none)), (.ex (cCallI m__law_odd 2 []))])) (cFor (.one 11) (iArgs rg1 [(.ex (cK (.int 3)))]) (cIfS (cAndT (toT (cOp2 oNeX (.nm 14) (.ex (cLst [])))) (cAndT (toT (cOp2 oNeX (.nm 14) (.nm 5))) (toT (cOp2 oNe (.ex (cCall m__law_told_v5 [(.nm 11), (.nm 3), (.nm 14), (.nm 4)])) (.ex (cK (.str "play"))))))) (cRet (cK (.bool false))) cNext))))))))))))))))
    (cRet (cK (.bool true))))
def m_law_v10 : Fn := runDef 15 c_law_v10
def odd16 (x : PyData) : Prop := x ∈ [.none, .bool true, .bool false, .int (-1), .str (Str.ofString "1"), .str (Str.ofString ""), .str (Str.ofString "plain"), .tuple [], .list [], .tuple [.int 1], .list [.int 1], dispI [(Str.ofString "a", 1)], .tuple [.tuple [], .tuple [.int 0]], .int (10 ^ 39), .tuple [.tuple [.int 1]], .list [.tuple []]]
theorem ev_odd (b : Int) : ∃ c d, m__law_odd (.list [.int b]) [] = .ok c d ∧ (∃ b' : Int, d = .list [.int b']) ∧ ∃ x, c = .frz x ∧ odd16 x := by
  apply runI_ex; intro K k
  have hpw : oPow (.int 10) (.int 39) = .val (.frz (.int (10 ^ 39))) := rfl
  simp [c__law_odd, ev_take, hpw]
  obtain ⟨x, hx, hat⟩ := pick [.none, .bool true, .bool false, .int (-1), .str (Str.ofString "1"), .str (Str.ofString ""), .str (Str.ofString "plain"), .tuple [], .list [], .tuple [.int 1], .list [.int 1], dispI [(Str.ofString "a", 1)], .tuple [.tuple [], .tuple [.int 0]], .int (10 ^ 39), .tuple [.tuple [.int 1]], .list [.tuple []]] b 16 rfl (by decide)
  have hat' := hat
  simp at hat'
  simp [hat']
  exact k.rt _ _ _ rfl ⟨⟨_, rfl⟩, x, rfl, hx⟩
def thing10 (net : List (List Nat)) (r : Rul) (p : List Stp) (x : PyData) : Prop :=
  (∃ b1 b2, oNeX x (.list []) = .val (.frz (.bool b1)) ∧ oNeX x (.list (p.map stD)) = .val (.frz (.bool b2)) ∧ (b1 = true → b2 = true → badP net r x))
theorem thing_bad {net : List (List Nat)} {r : Rul} {p : List Stp} {x : PyData} (h : badP net r x) {b1 b2 : Bool} (h1 : oNeX x (.list []) = .val (.frz (.bool b1))) (h2 : oNeX x (.list (p.map stD)) = .val (.frz (.bool b2))) : thing10 net r p x := ⟨b1, b2, h1, h2, fun _ _ => h⟩
theorem neX_ex {x : PyData} {L : List PyData} (h : shp x = true ∨ isDic x = true) (hL : shp (.list L) = true) : ∃ b, oNeX x (.list L) = .val (.frz (.bool b)) := by
  unfold oNeX
  by_cases hd : isDic x = true
  · exact ⟨true, by rw [hd, hL]; rfl⟩
  · have hs : shp x = true := by rcases h with h | h; exact h; exact (hd h).elim
    have hd' : isDic x = false := by simpa using hd
    refine ⟨!PyData.eqv x (.list L), ?_⟩
    rw [hd']
    show oNe x (.list L) = _
    unfold oNe oEqD
    cases strD x <;> simp [hs, hL] <;> rfl
theorem thing_any {net : List (List Nat)} {r : Rul} {p : List Stp} {x : PyData} (h : badP net r x) (hx : shp x = true ∨ isDic x = true) : thing10 net r p x := by
  obtain ⟨b1, h1⟩ := neX_ex (L := []) hx shp_nilL
  obtain ⟨b2, h2⟩ := neX_ex (L := p.map stD) hx (shp_listM p)
  exact thing_bad h h1 h2
theorem lay_app : ∀ a b : List PyData, PyData.canLayAll0 (a ++ b) = (PyData.canLayAll0 a && PyData.canLayAll0 b)
  | [], b => by simp [PyData.canLayAll0]
  | x :: a, b => by simp [PyData.canLayAll0, lay_app a b, Bool.and_assoc]
theorem dep_app : ∀ a b : List PyData, PyData.depthAll (a ++ b) ≤ PyData.depthAll a + PyData.depthAll b
  | [], b => by simp [PyData.depthAll]
  | x :: a, b => by
    have := dep_app a b
    simp only [List.cons_append, PyData.depthAll]; omega
theorem shp_app1 (p : List Stp) {d : PyData} (h1 : d.canLay0 = true) (h2 : d.depth ≤ 8) : shp (.list (p.map stD ++ [d])) = true := by
  have e1 := depAll_map (f := stD) p
  have e2 := dep_app (p.map stD) [d]
  have e3 : PyData.depthAll [d] ≤ 8 := by simp [PyData.depthAll]; omega
  unfold shp SeqAt.shaped
  simp [PyData.canLay0, PyData.depth, lay_app, layAll_map (f := stD) p, PyData.canLayAll0, h1]; omega
theorem things {net : List (List Nat)} (hv : NetV net) {r : Rul} {p : List Stp} (hg : goes net r [] p) (B : List Stp) (hB : ∀ st ∈ B, st.inn net.length ∧ letB net (lastB [] p) r st = false) (hB1 : B.length ≤ 1) {o : PyData} (ho : odd16 o) :
    ∀ x ∈ [PyData.list (p.map stD ++ B.map stD), .list (p.map stD ++ [.none]), .tuple (p.map stD), .none, o], thing10 net r p x := by
  have okI : ∀ i : Int, okN (.int i) := fun i => ⟨rfl, fun ds e => by cases e⟩
  intro x hx
  simp only [List.mem_cons, List.not_mem_nil, or_false] at hx
  rcases hx with rfl | rfl | rfl | rfl | rfl
  · match B, hB1 with
    | [], _ =>
      have e : PyData.list (p.map stD ++ ([] : List Stp).map stD) = .list (p.map stD) := by simp
      rw [e]
      exact ⟨!decide (p = []), false, oNe_listN (f := stD) p, (oNe_listM (f := stD) p p).trans (by simp), fun _ h => by cases h⟩
    | [st], _ =>
      obtain ⟨h1, h2⟩ := hB st List.mem_cons_self
      refine thing_any ?_ (.inl ?_)
      · refine lo_wrong hv r (fun d hd => ?_) ?_
        · rcases List.mem_append.mp hd with hd | hd
          · obtain ⟨st, _, rfl⟩ := List.mem_map.mp hd; exact okN_st st
          · rw [List.mem_singleton.mp hd]; exact okN_st st
        · have hw := wrongG_app (net := net) (r := r) [stD st] p [] 0 (goes_inn hv.ok p [] hg) hg
          rw [wrongG_step h1, h2] at hw
          intro h
          have h' : wrongG net r [] (p.map stD ++ [stD st]) 0 = .none := h
          rw [h'] at hw
          simp at hw
      · show shp (.list (p.map stD ++ [st].map stD)) = true
        rw [← List.map_append]; exact shp_listM _
  · exact thing_any (badP_app hv r hg (d := .none) ⟨rfl, fun ds e => by cases e⟩ rfl) (.inl (shp_app1 p rfl (by simp [PyData.depth])))
  · exact thing_any (badP_not hv r rfl rfl) (.inl (shp_tupleM p))
  · exact thing_any (badP_not hv r rfl rfl) (.inl (by decide))
  · have hs : ∀ d, okN d → badP net r (.list [d]) ∨ stepB net.length d = true := fun d hd => by
      cases q : stepB net.length d with
      | true => exact .inr rfl
      | false => exact .inl (badP_app (p := []) hv r trivial hd q)
    simp only [odd16, List.mem_cons, List.not_mem_nil, or_false] at ho
    rcases ho with rfl | rfl | rfl | rfl | rfl | rfl | rfl | rfl | rfl | rfl | rfl | rfl | rfl | rfl | rfl | rfl
    · exact thing_any (badP_not hv r rfl rfl) (.inl (by decide))
    · exact thing_any (badP_not hv r rfl rfl) (.inl (by decide))
    · exact thing_any (badP_not hv r rfl rfl) (.inl (by decide))
    · exact thing_any (badP_not hv r rfl rfl) (.inl (by decide))
    · exact thing_any (badP_not hv r rfl rfl) (.inl (by decide +kernel))
    · exact thing_any (badP_not hv r rfl rfl) (.inl (by decide +kernel))
    · exact thing_any (badP_not hv r rfl rfl) (.inl (by decide +kernel))
    · exact thing_any (badP_not hv r rfl rfl) (.inl (by decide))
    · obtain ⟨b2, h2⟩ := neX_ex (x := .list []) (L := p.map stD) (.inl shp_nilL) (shp_listM p)
      exact ⟨false, b2, rfl, h2, fun h => by cases h⟩
    · exact thing_any (badP_not hv r rfl rfl) (.inl (by decide))
    · exact thing_any (badP_app (p := []) hv r trivial (okI 1) rfl) (.inl (by decide))
    · exact thing_any (badP_not hv r rfl rfl) (.inr rfl)
    · exact thing_any (badP_not hv r rfl rfl) (.inl (by decide))
    · exact thing_any (badP_not hv r rfl rfl) (.inl (by decide))
    · exact thing_any (badP_not hv r rfl rfl) (.inl (by decide))
    · exact thing_any (badP_app (p := []) hv r trivial (d := .tuple []) ⟨rfl, fun ds e => by cases e; simp⟩ rfl) (.inl (by decide))
end DL

namespace DL
open PySem L2
def c_led_on : CS := (cSeq (cDrop (cCall m_need_lay [(.nm 0), (.nm 1), (.nm 3)]))
    (cSeq (cIfS (cNotT (toT (cIsi "list" (.nm 2)))) (cRaise "NoPlay") cNext)
    (cSeq (cSet 4 (cVar 1))
    (cSeq (cForO 2 (.one 5) (cSeq (cIfS (cOrT (cNotT (toT (cCall m_is_step [(.nm 0), (.nm 5)]))) (cNotT (toT (cCall m_is_let [(.nm 0), (.nm 4), (.nm 5), (.nm 3)])))) (cRaise "NoPlay") cNext)
    (cSet 4 (cCall m_behind [(.nm 4), (.nm 5)]))))
    (cRet (cMove 4))))))
def m_led_on : Fn := runDef 6 c_led_on
def c__law_steps_v2 : CS := (cSeq (cSet 4 (cLst []))
    (cSeq (cFor (.one 5) (iArgs rg1 [(.ex (cCallI m__law_take 0 [(.ex (cK (.int 11)))]))]) (cSeq (cSet 6 (cCall m__law_lets_v2 [(.nm 1), (.nm 2), (.nm 3)]))
    (cIfS (toT (cOp2 oNe (.nm 6) (.ex (cLst [])))) (cSeq (cDrop (cMethT "list" mAppend 4 [(.ex (cOp2 oIx (.nm 6) (.ex (cCallI m__law_take 0 [(.ex (cOpN oLen [(.nm 6)]))]))))]))
    (cSet 2 (cCall m__law_behind [(.nm 2), (.ex (cOp2 oIx (.nm 4) (.ex (cNeg (.ex (cK (.int 1)))))))]))) cNext)))
    (cRet (cMove 4))))
def m__law_steps_v2 : Fm := runDefI 7 c__law_steps_v2
def c__law_turned_v3 : CS := (cSeq (cSet 3 (cCallI m__law_take 0 [(.ex (cOp2 oAdd (.ex (cOpN oLen [(.nm 1)])) (.ex (cK (.int 1)))))]))
    (cSeq (cSet 4 (cLst [(.ex (cTup [(.ex (cK (.str "put"))), (.ex (cCallI m__law_take 0 [(.ex (cVar 2))]))])), (.ex (cTup [(.ex (cK (.str "take"))), (.ex (cCallI m__law_take 0 [(.ex (cVar 2))]))])), (.ex (cTup [(.ex (cK (.str "slide"))), (.ex (cK (.int 0))), (.ex (cOp2 oSub (.nm 2) (.ex (cK (.int 1)))))])), (.ex (cTup [(.ex (cK (.str "lift"))), (.ex (cK (.int 0)))]))]))
    (cSeq (cSet 4 (cOp2 oIx (.ex (cOp2 oAdd (.nm 4) (.ex (cLst [(.ex (cTup [(.ex (cK (.str "put"))), (.ex (cK (.bool true)))])), (.ex (cLst [(.ex (cK (.str "put"))), (.ex (cK (.int 0)))])), (.ex (cTup [(.ex (cK (.str "put")))])), (.ex (cK .none)), (.ex (cTup [(.ex (cK (.str "take"))), (.ex (cVar 2))])), (.ex (cTup [(.ex (cK (.int 1))), (.ex (cK (.int 0)))]))])))) (.ex (cCallI m__law_take 0 [(.ex (cK (.int 10)))]))))
    (cRet (cLst [(.ex (cOp2 oAdd (.ex (cOp2 oAdd (.ex (cSl (.nm 1) .none (.some (.nm 3)))) (.ex (cLst [(.ex (cVar 4))])))) (.ex (cSl (.nm 1) (.some (.nm 3)) .none)))), (.ex (cOp2 oAdd (.ex (cSl (.nm 1) .none (.some (.nm 3)))) (.ex (cSl (.nm 1) (.some (.ex (cOp2 oAdd (.nm 3) (.ex (cK (.int 1)))))) .none)))), (.ex (cOp2 oAdd (.ex (cOp2 oAdd (.ex (cSl (.nm 1) .none (.some (.nm 3)))) (.ex (cLst [(.ex (cVar 4))])))) (.ex (cSl (.nm 1) (.some (.ex (cOp2 oAdd (.nm 3) (.ex (cK (.int 1)))))) .none))))])))))
def m__law_turned_v3 : Fm := runDefI 5 c__law_turned_v3
def c__law_due_v2 : CS := (cSeq (cForO 2 (.one 4) (cSeq (cIfS (cOrT (cNotT (toT (cIsi "tuple" (.nm 4)))) (cNotT (toT (cOpN oAll [(.ex (cComp (.one 5) (iSeq (cSl (.nm 4) (.some (.ex (cK (.int 1)))) .none)) tYesC (cCall m__law_whole [(.nm 5)]) [5]))])))) (cRet (cLst [(.ex (cK (.int 6)))])) cNext)
    (cSeq (cIfS (toT (cOp2 (oIn true) (.nm 4) (.ex (cCall m__law_lets_v2 [(.nm 0), (.nm 1), (.nm 3)])))) (cRet (cLst [(.ex (cK (.int 6)))])) cNext)
    (cSet 1 (cCall m__law_behind [(.nm 1), (.nm 4)])))))
    (cRet (cMove 1)))
def m__law_due_v2 : Fn := runDef 6 c__law_due_v2
def c__law_told_v12 : CS := (cTry 4 hmPlaces (cRet (cCall m_led_on [(.nm 0), (.nm 1), (.nm 2), (.nm 3)])))
def m__law_told_v12 : Fn := runDef 6 c__law_told_v12
def c__law_is_lay : CS := (cSeq (cIfS (cOrT (cNotT (toT (cIsi "tuple" (.nm 0)))) (cNotT (toT (cOpN oAll [(.ex (cCompO 0 (.one 2) tYesC (cAnd (cCall m__law_whole [(.nm 2)]) (cChain oLe oLt (.ex (cK (.int 0))) (.nm 2) (.ex (cOpN oLen [(.nm 1)])))) [2]))])))) (cRet (cK (.bool false))) cNext)
    (cRet (cOp2 oEq (.ex (cOpN oList [(.nm 0)])) (.ex (cOp1 oSortSet (.nm 0))))))
def m__law_is_lay : Fn := runDef 3 c__law_is_lay
def c_law_v44 : CS := (cSeq (cFor (.one 1) (iArgs rg1 [(.ex (cOpN oMax2 [(.ex (cK (.int 1))), (.ex (cOpN oMin2 [(.ex (cOpN oLen [(.nm 0)])), (.ex (cK (.int 3)))]))]))]) (cSeq (cSet 2 (cCall m__law_box_v2 [(.nm 0), (.nm 1)]))
    (cSeq (cSet 3 (cCallI m__law_net 2 [(.ex (cK (.int 7)))]))
    (cSeq (cSet 4 (cCallI m__law_rules 2 []))
    (cSeq (cSet 5 (cOpN oTuple [(.ex (cComp (.one 6) (iArgs rg1 [(.ex (cOpN oLen [(.nm 3)]))]) (toT (cOp2 oEq (.ex (cCallI m__law_take 2 [(.ex (cK (.int 2)))])) (.ex (cK (.int 0))))) (cVar 6) [6]))]))
    (cSeq (cSet 7 (cCallI m__law_steps_v2 2 [(.ex (cVar 3)), (.ex (cVar 5)), (.ex (cVar 4))]))
    (cSeq (cFor (.one 8) (iSeq (cOp2 oAdd (.ex (cLst [(.ex (cVar 7)), (.ex (cLst []))])) (.ex (cCallI m__law_turned_v3 2 [(.ex (cVar 7)), (.ex (cOpN oLen [(.nm 3)]))])))) (cSeq (cSet 9 (cOpN oRepr [(.nm 8)]))
    (cSeq (cSet 10 (cCall m__law_told_v12 [(.nm 3), (.nm 5), (.nm 8), (.nm 4)]))
    (cSeq (cSet 11 (cCall m__law_due_v2 [(.nm 3), (.nm 5), (.nm 8), (.nm 4)]))
    (cIfS (cOrT (toT (cOp2 oNe (.nm 10) (.nm 11))) (cOrT (toT (cOp2 oNe (.ex (cIsi "tuple" (.nm 10))) (.ex (cIsi "tuple" (.nm 11))))) (toT (cOp2 oNe (.ex (cOpN oRepr [(.nm 8)])) (.nm 9))))) (cRet (cK (.bool false))) cNext)))))
    (cSeq (cFor (.one 12) (iSeq (cLst [(.ex (cK .none)), (.ex (cOpN oTuple [(.nm 7)])), (.ex (cK (.str ""))), (.ex (cDispI [("put", 0)]))])) (cIfS (toT (cOp2 oNe (.ex (cCall m__law_told_v12 [(.nm 3), (.nm 5), (.nm 12), (.nm 4)])) (.ex (cLst [(.ex (cK (.int 6)))])))) (cRet (cK (.bool false))) cNext))
    (cFor (.one 12) (iSeq (cLst [(.ex (cOpN oList [(.nm 5)])), (.ex (cTup [(.ex (cOpN oLen [(.nm 3)]))])), (.ex (cOp2 oAdd (.ex (cOp2 oAdd (.nm 5) (.nm 5))) (.ex (cTup [(.ex (cK (.int 0))), (.ex (cK (.int 0)))])))), (.ex (cOrV (cCallI m__law_odd_v2 2 []) (cLst [(.ex (cK (.int 0)))])))])) (cIfS (cAndT (toT (cOp2 oNeX (.nm 12) (.nm 5))) (cAndT (toT (cOp2 oNe (.ex (cCall m__law_told_v12 [(.nm 3), (.nm 12), (.ex (cK .none)), (.nm 4)])) (.ex (cLst [(.ex (cK (.int 4)))])))) (cNotT (toT (cCall m__law_is_lay [(.nm 12), (.nm 3)]))))) (cRet (cK (.bool false))) cNext))))))))))
    (cRet (cK (.bool true))))
def m_law_v44 : Fn := runDef 13 c_law_v44
noncomputable def ledG (net : List (List Nat)) (r : Rul) : List PyData → List Nat → Option (List Nat)
  | [], lay => some lay
  | d :: ds, lay => match decS net.length d with
    | some st => if letB net lay r st then ledG net r ds (aft lay st) else none
    | none => none
inductive Odd61 : PyData → Prop
  | lift : Odd61 (.tuple [.str (Str.ofString "lift"), .int 0])
  | putT : Odd61 (.tuple [.str (Str.ofString "put"), .bool true])
  | lst : Odd61 (.list [.str (Str.ofString "put"), .int 0])
  | one : Odd61 (.tuple [.str (Str.ofString "put")])
  | non : Odd61 .none
  | num : Odd61 (.tuple [.int 1, .int 0])
def El61 (d : PyData) : Prop := (∃ st, d = stD st ∧ st.inn 11) ∨ Odd61 d
def dueC : Option (List Nat) → Cell
  | some l => .frz (laD l)
  | none => .own false (.list [.int 6])
def odd15 (x : PyData) : Prop := x = .list [.int 0] ∨ (odd14 x ∧ truB x = some true)
def fine61 (net : List (List Nat)) (r : Rul) (lay : List Nat) (x : PyData) : Prop :=
  ∃ b, oNeX x (laD lay) = .val (.frz (.bool b)) ∧ (m__law_told_v12 [netD net, x, .none, ruD r] = .ok (.own false (.list [.int 4])) ∨ (m__law_told_v12 [netD net, x, .none, ruD r] = .ok (.own false (.list [.int 6])) ∧ m__law_is_lay [x, netD net] = .ok (.frz (.bool true))))
end DL

namespace DL
open PySem L2
def c__law_turned : CS := (cSeq (cSet 3 (cCallI m__law_take 0 [(.ex (cOpN oLen [(.nm 1)]))]))
    (cSeq (cSet 4 (cCallI m__law_take 0 [(.ex (cVar 2))]))
    (cSeq (cSet 5 (cLst [(.ex (cOp2 oAdd (.ex (cSl (.nm 1) .none (.some (.nm 3)))) (.ex (cSl (.nm 1) (.some (.ex (cOp2 oAdd (.nm 3) (.ex (cK (.int 1)))))) .none)))), (.ex (cOp2 oAdd (.ex (cOp2 oAdd (.ex (cSl (.nm 1) .none (.some (.nm 3)))) (.ex (cLst [(.ex (cVar 4))])))) (.ex (cSl (.nm 1) (.some (.nm 3)) .none)))), (.ex (cOp2 oAdd (.ex (cOp2 oAdd (.ex (cSl (.nm 1) .none (.some (.nm 3)))) (.ex (cLst [(.ex (cOp2 oIx (.nm 1) (.nm 3)))])))) (.ex (cSl (.nm 1) (.some (.nm 3)) .none)))), (.ex (cOp2 oAdd (.nm 1) (.ex (cLst [(.ex (cVar 4))]))))]))
    (cSeq (cSet 5 (cOp2 oAdd (.nm 5) (.ex (cLst [(.ex (cOp2 oAdd (.ex (cOp2 oAdd (.ex (cSl (.nm 1) .none (.some (.nm 3)))) (.ex (cLst [(.ex (cVar 4))])))) (.ex (cSl (.nm 1) (.some (.ex (cOp2 oAdd (.nm 3) (.ex (cK (.int 1)))))) .none)))), (.ex (cSl (.nm 1) (.some (.ex (cK (.int 1)))) .none)), (.ex (cSl (.nm 1) .none (.some (.ex (cNeg (.ex (cK (.int 1)))))))), (.ex (cOpN oTuple [(.nm 1)])), (.ex (cListRev (.nm 1))), (.ex (cLst [(.ex (cVar 1))]))]))))
    (cRet (cOp2 oAdd (.nm 5) (.ex (cLst [(.ex (cOp2 oAdd (.ex (cOp2 oAdd (.ex (cSl (.nm 1) .none (.some (.nm 3)))) (.ex (cLst [(.ex (cOp2 oEq (.ex (cOp2 oIx (.nm 1) (.nm 3))) (.ex (cK (.int 1)))))])))) (.ex (cSl (.nm 1) (.some (.ex (cOp2 oAdd (.nm 3) (.ex (cK (.int 1)))))) .none)))), (.ex (cOp2 oAdd (.ex (cOp2 oAdd (.ex (cSl (.nm 1) .none (.some (.nm 3)))) (.ex (cLst [(.ex (cVar 2))])))) (.ex (cSl (.nm 1) (.some (.ex (cOp2 oAdd (.nm 3) (.ex (cK (.int 1)))))) .none)))), (.ex (cOp2 oAdd (.ex (cSl (.nm 1) .none (.some (.nm 3)))) (.ex (cLst [(.ex (cNeg (.ex (cK (.int 1)))))])))), (.ex (cLst []))]))))))))
def m__law_turned : Fm := runDefI 6 c__law_turned
def c__law_is_way : CS := (cSeq (cIfS (cOrT (cNotT (toT (cIsi "list" (.nm 0)))) (cNotT (toT (cOpN oAll [(.ex (cCompO 0 (.one 3) tYesC (cCall m__law_whole [(.nm 3)]) [3]))])))) (cRet (cK (.bool false))) cNext)
    (cRet (cOp2 (oIn false) (.nm 0) (.ex (cCall m__law_ways [(.nm 1), (.nm 2)])))))
def m__law_is_way : Fn := runDef 4 c__law_is_way
def c_law_v34 : CS := (cSeq (cFor (.one 1) (iArgs rg1 [(.ex (cOpN oMax2 [(.ex (cK (.int 1))), (.ex (cOpN oMin2 [(.ex (cOpN oLen [(.nm 0)])), (.ex (cK (.int 4)))]))]))]) (cSeq (cSet 2 (cCall m__law_box_v2 [(.nm 0), (.nm 1)]))
    (cSeq (cSet 3 (cCallI m__law_net 2 [(.ex (cK (.int 7)))]))
    (cSeq (cSet 4 (cCallI m__law_take 2 [(.ex (cOpN oLen [(.nm 3)]))]))
    (cSeq (cSet 5 (cCall m__law_ways [(.nm 3), (.nm 4)]))
    (cSeq (cSet 6 (cOp2 oIx (.nm 5) (.ex (cCallI m__law_take 2 [(.ex (cOpN oLen [(.nm 5)]))]))))
    (cSeq (cSet 7 (cOp2 oIx (.ex (cCall m__law_ways [(.nm 3), (.ex (cCallI m__law_take 2 [(.ex (cOpN oLen [(.nm 3)]))]))])) (.ex (cK (.int 0)))))
    (cFor (.one 8) (iSeq (cOp2 oAdd (.ex (cLst [(.ex (cVar 6)), (.ex (cVar 7)), (.ex (cOp2 oIx (.nm 5) (.ex (cNeg (.ex (cK (.int 1))))))), (.ex (cCallI m__law_odd_v2 2 []))])) (.ex (cCallI m__law_turned 2 [(.ex (cVar 6)), (.ex (cOpN oLen [(.nm 3)]))])))) (cSeq (cSet 9 (cOpN oReprX [(.nm 8)]))
    (cSeq (cSet 10 (cCall m_is_way [(.nm 8), (.nm 3), (.nm 4)]))
    (cIfS (cOrT (cNotT (toT (cIsi "bool" (.nm 10)))) (cOrT (toT (cOp2 oNe (.nm 10) (.ex (cCall m__law_is_way [(.nm 8), (.nm 3), (.nm 4)])))) (toT (cOp2 oNe (.ex (cOpN oReprX [(.nm 8)])) (.nm 9))))) (cRet (cK (.bool false))) cNext)))))))))))
    (cRet (cK (.bool true))))
def m_law_v34 : Fn := runDef 11 c_law_v34
def zD (i : Int) : PyData := .int i
instance : EncOk zD where
  eqv a b := by simp [zD, PyData.eqv]; rw [Bool.eq_iff_iff]; simp
  lay a := rfl
  dpt a := by simp [zD, PyData.depth]
def liZ (l : List Int) : PyData := .list (l.map zD)
instance : EncOk liZ where
  eqv a b := by show PyData.eqv (.list (a.map zD)) (.list (b.map zD)) = _; simp only [PyData.eqv, eqvAll_map (f := zD)]
  lay a := by show PyData.canLay0 (.list (a.map zD)) = true; simp only [PyData.canLay0, layAll_map (f := zD)]
  dpt a := by
    show PyData.depth (.list (a.map zD)) ≤ 8
    have : ∀ a : List Int, PyData.depthAll (a.map zD) = 0 := fun a => by
      induction a with
      | nil => rfl
      | cons x a ih => simp only [List.map_cons, PyData.depthAll, ih]; rfl
    simp only [PyData.depth, this]; omega
inductive El42 : PyData → Prop
  | int (i : Int) : i.natAbs < 2 ^ 64 → El42 (.int i)
  | bool (b : Bool) : El42 (.bool b)
  | put : El42 (.str (Str.ofString "put"))
  | way (w : List Nat) : (∀ x ∈ w, x < 2 ^ 64) → w.length ≤ 12 → El42 (.list (w.map nD))
theorem El42.ok {d : PyData} (h : El42 d) : scrD d = false ∧ okR d = true ∧ d.depth ≤ 2 ∧ cnt d ≤ 20 := by
  cases h with
  | int i hi => exact ⟨rfl, by show decide (i.natAbs.log2 < 190) = true; exact decide_eq_true (log2_lt hi), by simp [PyData.depth], by simp [cnt]⟩
  | bool b => exact ⟨rfl, rfl, by simp [PyData.depth], by simp [cnt]⟩
  | put => exact ⟨rfl, by decide +kernel, by decide +kernel, by decide +kernel⟩
  | way w hw hl =>
    have h0 : ∀ a : List Nat, PyData.depthAll (a.map nD) = 0 := fun a => by
      induction a with
      | nil => rfl
      | cons x a ih => simp only [List.map_cons, PyData.depthAll, ih]; rfl
    refine ⟨rfl, by simpa [okR] using okRs_map shN w hw, by simp only [PyData.depth, h0]; omega, ?_⟩
    have := cnts_map shN w hw; simp only [cnt]; omega
def fine42 (net : List (List Nat)) (s : Nat) (x : PyData) : Prop :=
  showX x = true ∧ ∃ b, m_is_way [x, netD net, .int s] = .ok (.frz (.bool b)) ∧ m__law_is_way [x, netD net, .int s] = .ok (.frz (.bool b))
@[simp] theorem oReprX_one (d : PyData) : oReprX [d] = if showX d then .val (.frz (.str d.shown)) else .no := rfl
theorem ofNat_inj : ∀ {a b : List Nat}, a.map Int.ofNat = b.map Int.ofNat → a = b
  | [], [], _ => rfl
  | [], y :: b, h => by cases h
  | x :: a, [], h => by cases h
  | x :: a, y :: b, h => by
    rw [List.map_cons, List.map_cons] at h
    injection h with h1 h2
    rw [ofNat_inj h2, Int.ofNat_inj.mp h1]
@[simp] theorem ev_listRev (o : Opd) (env : Cs) : cListRev o env = (o.ev env).bind fun l env1 => match l.get env1 with
  | some (.list ds) => .ok (.own false (.list ds.reverse)) env1
  | _ => .no := rfl
inductive Th42 : PyData → Prop
  | lst (ds : List PyData) : (∀ d ∈ ds, El42 d) → ds.length ≤ 30 → Th42 (.list ds)
  | tup (w : List Nat) : (∀ x ∈ w, x < 2 ^ 64) → w.length ≤ 12 → Th42 (.tuple (w.map nD))
end DL

namespace DL
open PySem L2
def c_stands_well : CS := (cSeq (cFor (.many [2, 3]) (iEnumC (cVar 1)) (cIfS (cNotT (toT (cOpN oAll [(.ex (cComp (.one 4) (iSeq (cOp2 oIx (.nm 0) (.nm 3))) tYesC (cOp2 (oIn false) (.nm 4) (.ex (cSl (.nm 1) .none (.some (.nm 2))))) [4]))]))) (cRet (cK (.bool false))) cNext))
    (cRet (cK (.bool true))))
def m_stands_well : Fn := runDef 5 c_stands_well
def c_is_order : CS := (cSeq (cSet 3 (cCall m_beneath [(.nm 1), (.nm 2)]))
    (cSeq (cIfS (cOrT (cNotT (toT (cIsi "list" (.nm 0)))) (cNotT (toT (cOpN oAll [(.ex (cCompO 0 (.one 4) tYesC (cCall m_is_whole [(.nm 4)]) [4]))])))) (cRet (cK (.bool false))) cNext)
    (cRet (cAnd (cOp2 oEq (.ex (cOpN oSortedA [(.nm 0)])) (.nm 3)) (cCall m_stands_well [(.nm 1), (.nm 0)])))))
def m_is_order : Fn := runDef 5 c_is_order
def c_needed_by : CS := (cSeq (cSet 2 (cLst []))
    (cSeq (cForO 1 (.one 3) (cDrop (cMethT "list" mExtend 2 [(.ex (cOp2 oIx (.nm 0) (.nm 3)))])))
    (cRet (cMove 2))))
def m_needed_by : Fn := runDef 4 c_needed_by
def c_order_play : CS := (cSeq (cIfS (cNotT (toT (cCall m_is_order [(.nm 2), (.nm 0), (.nm 1)]))) (cRaise "NoOrder") cNext)
    (cSeq (cSet 3 (cLst []))
    (cSeq (cSet 4 (cLst []))
    (cSeq (cFor (.many [5, 6]) (iEnumC (cVar 2)) (cSeq (cDrop (cMethT "list" mAppend 4 [(.ex (cTup [(.ex (cK (.str "put"))), (.ex (cVar 6))]))]))
    (cSeq (cSet 3 (cOpN oSortedA [(.ex (cOp2 oAdd (.nm 3) (.ex (cLst [(.ex (cVar 6))]))))]))
    (cSeq (cSet 7 (cOp2 oAdd (.ex (cCall m_needed_by [(.nm 0), (.ex (cSl (.nm 2) (.some (.ex (cOp2 oAdd (.nm 5) (.ex (cK (.int 1)))))) .none))])) (.ex (cLst [(.ex (cVar 1))]))))
    (cSeq (cDrop (cMethT "list" mExtend 4 [(.ex (cCompO 3 (.one 8) (toT (cOp2 (oIn true) (.nm 8) (.nm 7))) (cTup [(.ex (cK (.str "take"))), (.ex (cVar 8))]) [8]))]))
    (cSet 3 (cCompO 3 (.one 8) (toT (cOp2 (oIn false) (.nm 8) (.nm 7))) (cVar 8) [8])))))))
    (cRet (cMove 4))))))
def m_order_play : Fn := runDef 9 c_order_play
def c_kept_of : CS := (cSeq (cSet 4 (cCompO 1 (.one 5) (toT (cOp2 (oIn true) (.nm 5) (.nm 2))) (cVar 5) [5]))
    (cSeq (cSet 6 (cOp2 oAdd (.ex (cCall m_needed_by [(.nm 0), (.nm 4)])) (.ex (cLst [(.ex (cVar 3))]))))
    (cRet (cOpN oLen [(.ex (cCompO 2 (.one 5) (toT (cOp2 (oIn false) (.nm 5) (.nm 6))) (cVar 5) [5]))]))))
def m_kept_of : Fn := runDef 7 c_kept_of
def c_next_ones : CS := (cRet (cCompO 1 (.one 3) (cAndT (toT (cOp2 (oIn true) (.nm 3) (.nm 2))) (toT (cOpN oAll [(.ex (cComp (.one 4) (iSeq (cOp2 oIx (.nm 0) (.nm 3))) tYesC (cOp2 (oIn false) (.nm 4) (.nm 2)) [4]))]))) (cVar 3) [3]))
def m_next_ones : Fn := runDef 5 c_next_ones
def c_best_orders : CS := (cSeq (cSet 2 (cCall m_beneath [(.nm 0), (.nm 1)]))
    (cSeq (cSet 3 (cDict1 (.ex (cTup [])) (.ex (cTup [(.ex (cK (.int 0))), (.ex (cLst []))]))))
    (cSeq (cSet 4 (cLst [(.ex (cTup []))]))
    (cSeq (whileL (toT (cOp2 oNe (.nm 4) (.ex (cLst [])))) (cSeq (cSet 5 (cLst []))
    (cSeq (cForO 4 (.one 6) (cSeq (cSet 7 (cCall m_kept_of [(.nm 0), (.nm 2), (.nm 6), (.nm 1)]))
    (cFor (.one 8) (iSeq (cCall m_next_ones [(.nm 0), (.nm 2), (.nm 6)])) (cSeq (cSet 9 (cOpN oTuple [(.ex (cOpN oSortedA [(.ex (cOp2 oAdd (.nm 6) (.ex (cTup [(.ex (cVar 8))]))))]))]))
    (cSeq (cSet 10 (cOpN oMax2 [(.ex (cOp2 oIx (.ex (cOp2 oIxT (.nm 3) (.nm 6))) (.ex (cK (.int 0))))), (.ex (cOp2 oAdd (.nm 7) (.ex (cK (.int 1)))))]))
    (cSeq (cIfS (toT (cOp2 (oInT true) (.nm 9) (.nm 3))) (cDrop (cMethT "list" mAppend 5 [(.ex (cVar 9))])) cNext)
    (cIfS (cOrT (toT (cOp2 (oInT true) (.nm 9) (.nm 3))) (toT (cOp2 oLt (.nm 10) (.ex (cOp2 oIx (.ex (cOp2 oIxT (.nm 3) (.nm 9))) (.ex (cK (.int 0)))))))) (cSetItem sDict 3 (.nm 9) (cTup [(.ex (cVar 10)), (.ex (cOp2 oAdd (.ex (cOp2 oIx (.ex (cOp2 oIxT (.nm 3) (.nm 6))) (.ex (cK (.int 1))))) (.ex (cLst [(.ex (cVar 8))]))))])) cNext)))))))
    (cSet 4 (cMove 5)))) 100000)
    (cRet (cOp2 oIxT (.nm 3) (.ex (cOpN oTuple [(.nm 2)]))))))))
def m_best_orders : Fn := runDef 11 c_best_orders
def c_order_stones : CS := (cRet (cOp2 oIx (.ex (cCall m_best_orders [(.nm 0), (.nm 1)])) (.ex (cK (.int 0)))))
def m_order_stones : Fn := runDef 2 c_order_stones
def c_least_order : CS := (cRet (cOp2 oIx (.ex (cCall m_best_orders [(.nm 0), (.nm 1)])) (.ex (cK (.int 1)))))
def m_least_order : Fn := runDef 2 c_least_order
def c__law_below_v2 : CS := (cSeq (cSet 2 (cLst [(.ex (cVar 1))]))
    (cSeq (cFor (.one 3) (iArgs rg3 [(.nm 1), (.ex (cNeg (.ex (cK (.int 1))))), (.ex (cNeg (.ex (cK (.int 1)))))]) (cIfS (cAndT (toT (cOp2 (oIn true) (.nm 3) (.nm 2))) (toT (cOp2 oNe (.ex (cCompO 2 (.one 4) (toT (cOp2 (oIn false) (.nm 3) (.ex (cOp2 oIx (.nm 0) (.nm 4))))) (cVar 4) [4])) (.ex (cLst []))))) (cDrop (cMethT "list" mAppend 2 [(.ex (cVar 3))])) cNext))
    (cRet (cOpN oSortedA [(.nm 2)]))))
def m__law_below_v2 : Fn := runDef 5 c__law_below_v2
def c__law_order : CS := (cSeq (cSet 3 (cCall m__law_below_v2 [(.nm 1), (.nm 2)]))
    (cSeq (cSet 4 (cLst []))
    (cSeq (whileL (toT (cOp2 oLt (.ex (cOpN oLen [(.nm 4)])) (.ex (cOpN oLen [(.nm 3)])))) (cSeq (cSet 5 (cCompO 3 (.one 6) (cAndT (toT (cOp2 (oIn true) (.nm 6) (.nm 4))) (toT (cOpN oAll [(.ex (cComp (.one 7) (iSeq (cOp2 oIx (.nm 1) (.nm 6))) tYesC (cOp2 (oIn false) (.nm 7) (.nm 4)) [7]))]))) (cVar 6) [6]))
    (cDrop (cMethT "list" mAppend 4 [(.ex (cOp2 oIx (.nm 5) (.ex (cCallI m__law_take 0 [(.ex (cOpN oLen [(.nm 5)]))]))))]))) 100000)
    (cRet (cMove 4)))))
def m__law_order : Fm := runDefI 8 c__law_order
def c__law_is_order : CS := (cSeq (cIfS (cOrT (cNotT (toT (cIsi "list" (.nm 0)))) (cNotT (toT (cOpN oAll [(.ex (cCompO 0 (.one 3) tYesC (cCall m__law_whole [(.nm 3)]) [3]))])))) (cRet (cK (.bool false))) cNext)
    (cSeq (cIfS (toT (cOp2 oNe (.ex (cOpN oSortedA [(.nm 0)])) (.ex (cCall m__law_below_v2 [(.nm 1), (.nm 2)])))) (cRet (cK (.bool false))) cNext)
    (cSeq (cFor (.one 4) (iArgs rg1 [(.ex (cOpN oLen [(.nm 0)]))]) (cIfS (cNotT (toT (cOpN oAll [(.ex (cComp (.one 5) (iSeq (cOp2 oIx (.nm 1) (.ex (cOp2 oIx (.nm 0) (.nm 4))))) tYesC (cOp2 (oIn false) (.nm 5) (.ex (cSl (.nm 0) .none (.some (.nm 4))))) [5]))]))) (cRet (cK (.bool false))) cNext))
    (cRet (cK (.bool true))))))
def m__law_is_order : Fn := runDef 6 c__law_is_order
def goodB (net : List (List Nat)) : List Nat → List Nat → Bool
  | _, [] => true
  | A, x :: C => ((nds net x).all fun n => A.contains n) && goodB net (A ++ [x]) C
structure OrdOk (net : List (List Nat)) (s : Nat) (l : List Nat) : Prop where
  nd : l.Nodup
  mem : ∀ x, x ∈ l ↔ x ∈ below net s
  good : goodB net [] l = true
theorem OrdOk.low {net : List (List Nat)} (hv : NetV net) {s : Nat} (hs : s < net.length) {l : List Nat} (h : OrdOk net s l) : (∀ x ∈ l, x < net.length) ∧ l ≠ [] ∧ l.length ≤ 10 := by
  have hb : ∀ x ∈ l, x ≤ s := fun x hx => ((mem_below hv.ok).mp ((h.mem x).mp hx)).le hv.ok
  refine ⟨fun x hx => by have := hb x hx; omega, fun e => ?_, ?_⟩
  · have := (h.mem s).mpr ((mem_below hv.ok).mpr .here); rw [e] at this; cases this
  · have := nodup_le h.nd hb; have := hv.ten; omega
end DL

namespace DL
open PySem L2
section
variable {β : Type}
def aget (f : List (List Nat × β)) (l : List Nat) : Option β := match f with
  | [] => none
  | p :: r => if p.1 = l then some p.2 else aget r l
def aput (f : List (List Nat × β)) (l : List Nat) (v : β) : List (List Nat × β) := if (aget f l).isSome then f.map (fun p => if p.1 = l then (p.1, v) else p) else f ++ [(l, v)]
theorem aget_append (f g : List (List Nat × β)) (l : List Nat) : aget (f ++ g) l = (aget f l).or (aget g l) := by
  induction f with
  | nil => simp [aget]
  | cons p f ih =>
    show (if p.1 = l then some p.2 else aget (f ++ g) l) = (if p.1 = l then some p.2 else aget f l).or (aget g l)
    by_cases h : p.1 = l
    · rw [if_pos h, if_pos h]; rfl
    · rw [if_neg h, if_neg h, ih]
theorem aget_mem {f : List (List Nat × β)} {l : List Nat} {v : β} (h : aget f l = some v) : (l, v) ∈ f := by
  induction f with
  | nil => cases h
  | cons p f ih =>
    have h' : (if p.1 = l then some p.2 else aget f l) = some v := h
    by_cases q : p.1 = l
    · rw [if_pos q] at h'; cases h'; rw [← q]; exact List.mem_cons_self
    · rw [if_neg q] at h'; exact List.mem_cons_of_mem _ (ih h')
theorem aget_none {f : List (List Nat × β)} {l : List Nat} : aget f l = none ↔ l ∉ f.map (·.1) := by
  induction f with
  | nil => simp [aget]
  | cons p f ih =>
    show (if p.1 = l then some p.2 else aget f l) = none ↔ _
    by_cases q : p.1 = l
    · rw [if_pos q]; simp [q]
    · rw [if_neg q, ih]; simp; exact fun _ z => q z.symm
theorem aget_of_mem {f : List (List Nat × β)} (hn : (f.map (·.1)).Nodup) {l : List Nat} {v : β} (h : (l, v) ∈ f) : aget f l = some v := by
  induction f with
  | nil => cases h
  | cons p f ih =>
    rw [List.map_cons, List.nodup_cons] at hn
    show (if p.1 = l then some p.2 else aget f l) = some v
    rcases List.mem_cons.mp h with h | h
    · rw [← h, if_pos rfl]
    · rw [if_neg fun z => hn.1 (by rw [z]; exact List.mem_map.mpr ⟨_, h, rfl⟩)]; exact ih hn.2 h
theorem aget_some_key {f : List (List Nat × β)} {l : List Nat} (h : l ∈ f.map (·.1)) : ∃ v, aget f l = some v := by
  cases e : aget f l with
  | some v => exact ⟨v, rfl⟩
  | none => exact (aget_none.mp e h).elim
def aD (g : β → PyData) (f : List (List Nat × β)) : PyData := .dict (f.map fun p => (laD p.1, g p.2))
def lkK (l : List Nat) : List Key := l.map fun (n : Nat) => Sum.inl (n : Int)
theorem keysOf_nD : ∀ l : List Nat, keysOf (l.map nD) = some (lkK l)
  | [] => rfl
  | n :: l => by
    show (match keyOf (nD n), keysOf (l.map nD) with | some k, some ks => some (k :: ks) | _, _ => none) = _
    rw [keysOf_nD l]; rfl
@[simp] theorem tkOf_la (l : List Nat) : tkOf (laD l) = some (lkK l) := keysOf_nD l
@[simp] theorem tkOf_nilT : tkOf (.tuple []) = some (lkK []) := rfl
theorem lkK_inj : ∀ {a b : List Nat}, lkK a = lkK b → a = b
  | [], [], _ => rfl
  | [], _ :: _, h => by cases h
  | _ :: _, [], h => by cases h
  | x :: a, y :: b, h => by
    injection h with h1 h2
    injection h1 with h1
    rw [lkK_inj h2]; congr 1; omega
@[simp] theorem isTD_map (g : β → PyData) (f : List (List Nat × β)) : isTD (f.map fun p => (laD p.1, g p.2)) = true := by
  cases f <;> rfl
@[simp] theorem dictOf_aD (g : β → PyData) (f : List (List Nat × β)) : dictOf (aD g f) = some (f.map fun p => (laD p.1, g p.2)) := by
  show (if isTD (f.map fun p => (laD p.1, g p.2)) then _ else none) = _
  rw [isTD_map]; rfl
@[simp] theorem dget_map (g : β → PyData) (f : List (List Nat × β)) (l : List Nat) : dget (f.map fun p => (laD p.1, g p.2)) (lkK l) = (aget f l).map g := by
  induction f with
  | nil => rfl
  | cons p f ih =>
    show (if tkOf (laD p.1) = some (lkK l) then some (g p.2) else dget (f.map fun p => (laD p.1, g p.2)) (lkK l)) = (if p.1 = l then some p.2 else aget f l).map g
    rw [tkOf_la, ih]
    by_cases h : p.1 = l
    · rw [if_pos (by rw [h]), if_pos h]; rfl
    · rw [if_neg (fun z => h (lkK_inj (Option.some.inj z))), if_neg h]
@[simp] theorem oInT_aD (neg : Bool) (g : β → PyData) (f : List (List Nat × β)) (l : List Nat) : oInT neg (laD l) (aD g f) = .val (.frz (.bool (if neg then !(aget f l).isSome else (aget f l).isSome))) := by
  unfold oInT
  rw [dictOf_aD, tkOf_la]
  dsimp only
  rw [dget_map, Option.isSome_map]
  rfl
@[simp] theorem oIxT_aD (g : β → PyData) (f : List (List Nat × β)) (l : List Nat) : oIxT (aD g f) (laD l) = match aget f l with
    | some v => .val (.frz (g v))
    | none => .no := by
  unfold oIxT
  rw [dictOf_aD, tkOf_la]
  dsimp only
  rw [dget_map]
  cases aget f l <;> rfl
@[simp] theorem dwalk_aD (g : β → PyData) (f : List (List Nat × β)) (h : f.length ≤ lim) : dwalk (f.map fun p => (laD p.1, g p.2)) = some ((f.map (·.1)).map laD) := by
  unfold dwalk
  rw [isTD_map, List.length_map]
  simp [h]
end
@[simp] theorem read_aD {β : Type} (g : β → PyData) (f : List (List Nat × β)) (b : Bool) : (Cell.own b (aD g f)).read = some (aD g f) := rfl
@[simp] theorem ev_dict1 (k v : Opd) (env : Cs) : cDict1 k v env = (k.ev env).bind fun lk env1 => (v.ev env1).bind fun lv env2 => match lk, lv with
  | .now dk, .now dv => match tkOf dk with
    | some _ => .ok (.own false (.dict [(dk, dv)])) env2
    | none => .no
  | _, _ => .no := rfl
@[simp] theorem ev_get2 (o k x : Opd) (env : Cs) : cGet2 o k x env = (o.ev env).bind fun lo env1 => match lo.get env1 with
  | none => .no
  | some d0 => match dictOf d0 with
    | none => .no
    | some _ => (k.ev env1).bind fun lk env2 => (x.ev env2).bind fun lx env3 => match lo.get env3, lk.get env3, lx with
      | some d, some dk, .now dx => match dictOf d, tkOf dk with
        | some kvd, some ks => .ok (.frz ((dget kvd ks).getD dx)) env3
        | _, _ => .no
      | _, _, _ => .no := rfl
@[simp] theorem noEx_nx (e : Cs) : noEx (.nx e) = .nx e := rfl
@[simp] theorem noEx_rt (c : Cell) (e : Cs) : noEx (.rt c e) = .rt c e := rfl
end DL

namespace DL
open PySem L2
def Stp.pay (st : Stp) : Nat := if st.paid then 1 else 0
inductive Come (net : List (List Nat)) (r : Rul) (k : Nat) : List Nat → Nat → Prop
  | nil : Come net r k [] 0
  | step {l : List Nat} {c : Nat} {st : Stp} : Come net r k l c → st ∈ allSteps net → letB net l r st = true → (aft l st).length ≤ k → Come net r k (aft l st) (c + st.pay)
theorem Come.lay {net : List (List Nat)} (hk : NetOk net) {r : Rul} {k : Nat} {l : List Nat} {c : Nat} (h : Come net r k l c) : LayV net.length l := by
  induction h with
  | nil => exact .nil _
  | step h hm hl hb ih => exact ih.aft hk hm hl
theorem Come.len {net : List (List Nat)} {r : Rul} {k : Nat} {l : List Nat} {c : Nat} (h : Come net r k l c) : l.length ≤ k := by
  cases h with
  | nil => exact Nat.zero_le _
  | step h hm hl hb => exact hb
theorem Come.more {net : List (List Nat)} {r : Rul} {k k' : Nat} (hk : k ≤ k') {l : List Nat} {c : Nat} (h : Come net r k l c) : Come net r k' l c := by
  induction h with
  | nil => exact .nil
  | step h hm hl hb ih => exact .step ih hm hl (by omega)
def MinC (net : List (List Nat)) (r : Rul) (k : Nat) (l : List Nat) (c : Nat) : Prop := Come net r k l c ∧ ∀ c', Come net r k l c' → c ≤ c'
def allL : Nat → List (List Nat)
  | 0 => [[]]
  | n + 1 => allL n ++ (allL n).map (· ++ [n])
theorem allL_len : ∀ n, (allL n).length = 2 ^ n
  | 0 => rfl
  | n + 1 => by unfold allL; rw [List.length_append, List.length_map, allL_len n, Nat.pow_succ]; omega
theorem mem_allL : ∀ (n : Nat) (l : List Nat), LayV n l → l ∈ allL n
  | 0, l, h => by
    cases l with
    | nil => simp [allL]
    | cons x l => have := h.low x List.mem_cons_self; omega
  | n + 1, l, h => by
    unfold allL
    rw [List.mem_append, List.mem_map]
    rcases List.eq_nil_or_concat l with rfl | ⟨l', x, e⟩
    · exact .inl (mem_allL n [] (.nil _))
    · rw [List.concat_eq_append] at e
      subst e
      have hp := List.pairwise_append.mp h.inc
      have hx := h.low x (by simp)
      by_cases e : x = n
      · subst e
        exact .inr ⟨l', mem_allL x l' ⟨hp.1, fun y hy => hp.2.2 y hy x (by simp)⟩, rfl⟩
      · refine .inl (mem_allL n _ ⟨h.inc, fun y hy => ?_⟩)
        rw [List.mem_append, List.mem_singleton] at hy
        rcases hy with hy | hy
        · have := hp.2.2 y hy x (by simp); omega
        · omega
theorem lays_few {n : Nat} {ls : List (List Nat)} (hn : ls.Nodup) (h : ∀ l ∈ ls, LayV n l) : ls.length ≤ 2 ^ n := by
  rw [← allL_len n]
  exact List.Nodup.length_le_of_subset hn fun l hl => mem_allL n l (h l hl)

structure Found {β : Type} (net : List (List Nat)) (r : Rul) (k : Nat) (cost : β → Nat) (f : List (List Nat × β)) : Prop where
  nd : (f.map (·.1)).Nodup
  min : ∀ l v, aget f l = some v → MinC net r k l (cost v)
  all : ∀ l c, Come net r k l c → ∃ v, aget f l = some v
theorem found_of {β : Type} {net : List (List Nat)} {r : Rul} {k : Nat} {cost : β → Nat} {f : List (List Nat × β)} (nd : (f.map (·.1)).Nodup) (h0 : ∃ v, aget f [] = some v ∧ cost v = 0) (sound : ∀ l v, aget f l = some v → Come net r k l (cost v))
    (closed : ∀ l v, aget f l = some v → ∀ st ∈ allSteps net, letB net l r st = true → (aft l st).length ≤ k → ∃ v', aget f (aft l st) = some v' ∧ cost v' ≤ cost v + st.pay) : Found net r k cost f := by
  have key : ∀ l c, Come net r k l c → ∃ v, aget f l = some v ∧ cost v ≤ c := fun l c h => by
    induction h with
    | nil => obtain ⟨v, h1, h2⟩ := h0; exact ⟨v, h1, by omega⟩
    | step h hm hl hb ih =>
      obtain ⟨v, h1, h2⟩ := ih
      obtain ⟨v', h3, h4⟩ := closed _ v h1 _ hm hl hb
      exact ⟨v', h3, by omega⟩
  refine ⟨nd, fun l v h => ⟨sound l v h, fun c' h' => ?_⟩, fun l c h => let ⟨v, h1, _⟩ := key l c h; ⟨v, h1⟩⟩
  obtain ⟨v', h1, h2⟩ := key l c' h'
  rw [h] at h1; cases h1; exact h2
def Has (net : List (List Nat)) (r : Rul) (k s : Nat) : Prop := ∃ l c, Come net r k l c ∧ s ∈ l
theorem Has.more {net : List (List Nat)} {r : Rul} {k k' s : Nat} (hk : k ≤ k') (h : Has net r k s) : Has net r k' s := let ⟨l, c, h1, h2⟩ := h; ⟨l, c, h1.more hk, h2⟩
theorem has_all {net : List (List Nat)} (hv : NetV net) (r : Rul) (s : Nat) (hs : s < net.length) : Come net r (below net s).length (below net s) (below net s).length := by
  have key : ∀ (post pre : List Nat), below net s = pre ++ post → Come net r (below net s).length pre pre.length → Come net r (below net s).length (below net s) (below net s).length := by
    intro post
    induction post with
    | nil => intro pre h c; rw [List.append_nil] at h; rw [← h] at c; exact c
    | cons x post ih =>
      intro pre h c
      have hinc := below_inc net s
      have h' : below net s = (pre ++ [x]) ++ post := by rw [h]; simp
      have hpi : (pre ++ [x]).Pairwise (· < ·) := by rw [h'] at hinc; exact (List.pairwise_append.mp hinc).1
      have hx : Reach net s x := (mem_below hv.ok).mp (by rw [h]; simp)
      have hxn : x < net.length := by have := hx.le hv.ok; omega
      have hl : letB net pre r (.put x) = true := by
        have h1 : x ∉ pre := fun z => by
          have := (List.pairwise_append.mp hpi).2.2 x z x (by simp); omega
        have h2 : fullB net pre x = true := by
          unfold fullB; rw [List.all_eq_true]
          intro n hn
          have hlt := nds_lt hv.ok hn
          have hm : n ∈ below net s := (mem_below hv.ok).mpr (.down hx hn)
          rw [h, List.mem_append] at hm
          have hp := List.pairwise_append.mp (h ▸ hinc)
          rcases hm with hm | hm
          · simpa using hm
          · rcases List.mem_cons.mp hm with rfl | hm
            · omega
            · have := (List.pairwise_cons.mp hp.2.1).1 n hm; omega
        simp [letB, h1, h2]
      have ha : aft pre (.put x) = pre ++ [x] := sortN_of_sorted (lt_le hpi)
      have hst : Stp.put x ∈ allSteps net := by unfold allSteps; simp; omega
      have hlen : (pre ++ [x]).length ≤ (below net s).length := by rw [h']; simp
      have q := Come.step c hst hl (by rw [ha]; exact hlen)
      rw [ha] at q
      refine ih (pre ++ [x]) h' ?_
      have e : pre.length + (Stp.put x).pay = (pre ++ [x]).length := by simp [Stp.pay, Stp.paid]
      rw [e] at q; exact q
  exact key (below net s) [] rfl .nil
theorem Has.all {net : List (List Nat)} (hv : NetV net) (r : Rul) (s : Nat) (hs : s < net.length) : Has net r net.length s :=
  ⟨below net s, _, (has_all hv r s hs).more (by have := below_len (net := net) s; omega), (mem_below hv.ok).mpr .here⟩
theorem first_of (p : Nat → Prop) [DecidablePred p] : ∀ n : Nat, p n → ∃ k, k ≤ n ∧ p k ∧ ∀ j, j < k → ¬ p j
  | n, h => by
    induction n using Nat.strongRecOn with
    | _ n ih =>
      by_cases q : ∃ j, j < n ∧ p j
      · obtain ⟨j, hj, pj⟩ := q
        obtain ⟨k, h1, h2, h3⟩ := ih j hj pj
        exact ⟨k, by omega, h2, h3⟩
      · exact ⟨n, Nat.le_refl _, h, fun j hj pj => q ⟨j, hj, pj⟩⟩
structure IsLst (net : List (List Nat)) (r : Rul) (s m : Nat) : Prop where
  one : 1 ≤ m
  has : Has net r m s
  least : ∀ j, 1 ≤ j → j < m → ¬ Has net r j s
theorem IsLst.le {net : List (List Nat)} (hv : NetV net) {r : Rul} {s m : Nat} (hs : s < net.length) (h : IsLst net r s m) : m ≤ net.length := by
  apply Classical.byContradiction; intro z
  exact h.least net.length (by omega) (by omega) (Has.all hv r s hs)
open Classical in
theorem IsLst.ex {net : List (List Nat)} (hv : NetV net) (r : Rul) (s : Nat) (hs : s < net.length) : ∃ m, IsLst net r s m := by
  obtain ⟨k, h1, h2, h3⟩ := first_of (fun k => 1 ≤ k ∧ Has net r k s) net.length ⟨by omega, Has.all hv r s hs⟩
  exact ⟨k, h2.1, h2.2, fun j hj hlt hh => h3 j hlt ⟨hj, hh⟩⟩
end DL

namespace DL
open PySem L2
def c_need_goal : CS := (cSeq (cDrop (cCall m_need_spot [(.nm 0), (.nm 1)]))
    (cDrop (cCall m_need_rules [(.nm 2)])))
def m_need_goal : Fn := runDef 3 c_need_goal
def c_need_stones : CS := (cSeq (cDrop (cCall m_need_goal [(.nm 0), (.nm 1), (.nm 3)]))
    (cIfS (cOrT (cNotT (toT (cCall m_is_whole [(.nm 2)]))) (cNotT (toT (cChain oLe oLe (.ex (cK (.int 0))) (.nm 2) (.ex (cK (.int 10))))))) (cRaise "NoStones") cNext))
def m_need_stones : Fn := runDef 4 c_need_stones
def c_ways_on : CS := (cSeq (cSet 4 (cLst []))
    (cSeq (cFor (.one 5) (iSeq (cCall m_steps_let [(.nm 0), (.nm 1), (.nm 3)])) (cSeq (cSet 6 (cCall m_behind [(.nm 1), (.nm 5)]))
    (cIfS (toT (cOp2 oLe (.ex (cOpN oLen [(.nm 6)])) (.nm 2))) (cDrop (cMethT "list" mAppend 4 [(.ex (cTup [(.ex (cVar 5)), (.ex (cVar 6))]))])) cNext)))
    (cRet (cMove 4))))
def m_ways_on : Fn := runDef 7 c_ways_on
def c_come_to : CS := (cSeq (cSet 4 (cLst []))
    (cSeq (cForO 2 (.many [5, 6]) (cIfS (cAndT (toT (cOp2 (oInT true) (.nm 6) (.nm 0))) (toT (cOp2 oEq (.ex (cCall m_costs [(.nm 5)])) (.nm 3)))) (cSeq (cSetItem sDict 0 (.nm 6) (cTup [(.ex (cOp2 oAdd (.ex (cOp2 oIx (.ex (cOp2 oIxT (.nm 0) (.nm 1))) (.ex (cK (.int 0))))) (.nm 3))), (.ex (cVar 1)), (.ex (cVar 5))]))
    (cDrop (cMethT "list" mAppend 4 [(.ex (cVar 6))]))) cNext))
    (cRet (cMove 4))))
def m_come_to : Fm := runDefI 7 c_come_to
def c_spread : CS := (cSeq (cSet 3 (cDict1 (.ex (cTup [])) (.ex (cTup [(.ex (cK (.int 0))), (.ex (cK .none)), (.ex (cK .none))]))))
    (cSeq (cSet 4 (cLst [(.ex (cTup []))]))
    (cSeq (whileL (toT (cOp2 oNe (.nm 4) (.ex (cLst [])))) (cSeq (cSet 5 (cK (.int 0)))
    (cSeq (whileL (toT (cOp2 oLt (.nm 5) (.ex (cOpN oLen [(.nm 4)])))) (cSeq (cDrop (cMethT "list" mExtend 4 [(.ex (cCallI m_come_to 3 [(.ex (cOp2 oIx (.nm 4) (.nm 5))), (.ex (cCall m_ways_on [(.nm 0), (.ex (cOp2 oIx (.nm 4) (.nm 5))), (.nm 1), (.nm 2)])), (.ex (cK (.int 0)))]))]))
    (cSet 5 (cOp2 oAdd (.nm 5) (.ex (cK (.int 1)))))) 100000)
    (cSeq (cSet 6 (cLst []))
    (cSeq (cForO 4 (.one 7) (cDrop (cMethT "list" mExtend 6 [(.ex (cCallI m_come_to 3 [(.ex (cVar 7)), (.ex (cCall m_ways_on [(.nm 0), (.nm 7), (.nm 1), (.nm 2)])), (.ex (cK (.int 1)))]))])))
    (cSet 4 (cMove 6)))))) 100000)
    (cRet (cMove 3)))))
def m_spread : Fn := runDef 8 c_spread
def c_cheapest : CS := (cSeq (cSet 2 (cK .none))
    (cSeq (cForK 0 (.one 3) (cIfS (cAndT (toT (cOp2 (oIn false) (.nm 1) (.nm 3))) (cOrT (toT (cOp2 oIsN (.nm 2) (.ex (cK .none)))) (toT (cOp2 oLt (.ex (cOp2 oIx (.ex (cOp2 oIxT (.nm 0) (.nm 3))) (.ex (cK (.int 0))))) (.ex (cOp2 oIx (.ex (cOp2 oIxT (.nm 0) (.nm 2))) (.ex (cK (.int 0))))))))) (cSet 2 (cVar 3)) cNext))
    (cRet (cMove 2))))
def m_cheapest : Fn := runDef 4 c_cheapest
def c_least_stones : CS := (cSeq (cDrop (cCall m_need_goal [(.nm 0), (.nm 1), (.nm 2)]))
    (cSeq (cSet 3 (cK (.int 1)))
    (cSeq (whileL (toT (cOp2 oIsN (.ex (cCall m_cheapest [(.ex (cCall m_spread [(.nm 0), (.nm 3), (.nm 2)])), (.nm 1)])) (.ex (cK .none)))) (cSet 3 (cOp2 oAdd (.nm 3) (.ex (cK (.int 1))))) 100000)
    (cRet (cMove 3)))))
def m_least_stones : Fn := runDef 4 c_least_stones
def c_least_cost : CS := (cSeq (cDrop (cCall m_need_stones [(.nm 0), (.nm 1), (.nm 2), (.nm 3)]))
    (cSeq (cSet 4 (cCall m_spread [(.nm 0), (.nm 2), (.nm 3)]))
    (cSeq (cSet 5 (cCall m_cheapest [(.nm 4), (.nm 1)]))
    (cSeq (cIfS (toT (cOp2 oIsN (.nm 5) (.ex (cK .none)))) (cRet (cK .none)) cNext)
    (cRet (cOp2 oIx (.ex (cOp2 oIxT (.nm 4) (.nm 5))) (.ex (cK (.int 0)))))))))
def m_least_cost : Fn := runDef 6 c_least_cost
abbrev FV := Nat × Option (List Nat × Stp)
def vD : FV → PyData
  | (c, none) => .tuple [.int c, .none, .none]
  | (c, some (l, st)) => .tuple [.int c, laD l, stD st]
@[simp] theorem vD_0 (v : FV) : oIx (vD v) (.int 0) = .val (.frz (.int v.1)) := by
  obtain ⟨c, o⟩ := v
  cases o <;> rfl
abbrev FD := List (List Nat × FV)
def wD (p : Stp × List Nat) : PyData := .tuple [stD p.1, laD p.2]
def ways (net : List (List Nat)) (r : Rul) (k : Nat) (lay : List Nat) : List (Stp × List Nat) := (((allSteps net).filter (letB net lay r)).filter fun st => decide ((aft lay st).length ≤ k)).map fun st => (st, aft lay st)
theorem mem_ways {net : List (List Nat)} {r : Rul} {k : Nat} {lay : List Nat} {st : Stp} {o : List Nat} : (st, o) ∈ ways net r k lay ↔ st ∈ allSteps net ∧ letB net lay r st = true ∧ (aft lay st).length ≤ k ∧ o = aft lay st := by
  unfold ways
  simp only [List.mem_map, List.mem_filter, decide_eq_true_eq, Prod.mk.injEq]
  constructor
  · rintro ⟨a, ⟨⟨h1, h2⟩, h3⟩, rfl, rfl⟩; exact ⟨h1, h2, h3, rfl⟩
  · rintro ⟨h1, h2, h3, rfl⟩; exact ⟨st, ⟨⟨h1, h2⟩, h3⟩, rfl, rfl⟩
def extW (c cst : Nat) (lay : List Nat) : FD → List (Stp × List Nat) → FD
  | _, [] => []
  | f, (st, o) :: ws => if aget f o = none ∧ st.pay = cst then (o, (c + cst, some (lay, st))) :: extW c cst lay (f ++ [(o, (c + cst, some (lay, st)))]) ws else extW c cst lay f ws
theorem pay_01 (st : Stp) : st.pay = 0 ∨ st.pay = 1 := by unfold Stp.pay; split <;> simp
structure Par (net : List (List Nat)) (r : Rul) (k : Nat) (f : FD) : Prop where
  nd : (f.map (·.1)).Nodup
  first : f[0]? = some ([], 0, none)
  par : ∀ (i : Nat) (l : List Nat) (c : Nat) (o : Option (List Nat × Stp)), 0 < i → f[i]? = some (l, c, o) → ∃ (l' : List Nat) (st : Stp) (j c' : Nat) (o' : Option (List Nat × Stp)), o = some (l', st) ∧ j < i ∧ f[j]? = some (l', c', o') ∧ c = c' + st.pay ∧ st ∈ allSteps net ∧ letB net l' r st = true ∧ l = aft l' st ∧ l.length ≤ k
theorem Par.come {net : List (List Nat)} {r : Rul} {k : Nat} {f : FD} (h : Par net r k f) : ∀ (i : Nat) (l : List Nat) (c : Nat) (o : Option (List Nat × Stp)), f[i]? = some (l, c, o) → Come net r k l c := by
  intro i
  induction i using Nat.strongRecOn with
  | _ i ih =>
    intro l c o hi
    by_cases z : i = 0
    · subst z; rw [h.first] at hi; cases hi; exact .nil
    · obtain ⟨l', st, j, c', o', rfl, hj, hg, rfl, hm, hl, rfl, hb⟩ := h.par i l c o (by omega) hi
      exact .step (ih j hj _ _ _ hg) hm hl hb
theorem Par.sound {net : List (List Nat)} {r : Rul} {k : Nat} {f : FD} (h : Par net r k f) {l : List Nat} {v : FV} (hv : aget f l = some v) : Come net r k l v.1 := by
  obtain ⟨i, hi, e⟩ := List.mem_iff_getElem.mp (aget_mem hv)
  exact h.come i l v.1 v.2 (by rw [List.getElem?_eq_getElem hi, e])
theorem Par.len {net : List (List Nat)} (hv : NetV net) {r : Rul} {k : Nat} {f : FD} (h : Par net r k f) : f.length ≤ 1024 := by
  have h1 : (f.map (·.1)).length ≤ 2 ^ net.length := lays_few h.nd fun l hl => by
    obtain ⟨v, e⟩ := aget_some_key hl
    exact (h.sound e).lay hv.ok
  have h2 : 2 ^ net.length ≤ 2 ^ 10 := Nat.pow_le_pow_right (by decide) hv.ten
  rw [List.length_map] at h1
  omega
theorem Par.zero {net : List (List Nat)} {r : Rul} {k : Nat} {f : FD} (h : Par net r k f) : aget f [] = some (0, none) := by
  cases f with
  | nil => cases h.first
  | cons p f =>
    have := h.first
    simp at this; subst this
    rfl
theorem Par.start (net : List (List Nat)) (r : Rul) (k : Nat) : Par net r k [([], 0, none)] := ⟨by simp, rfl, fun i l c o h0 h => by
  rw [List.getElem?_eq_none (by simp; omega)] at h; cases h⟩
theorem Par.ext {net : List (List Nat)} {r : Rul} {k : Nat} {lay : List Nat} {c cst : Nat} : ∀ (ws : List (Stp × List Nat)) {f : FD}, Par net r k f → (∃ o, aget f lay = some (c, o)) → (∀ p ∈ ws, p ∈ ways net r k lay) → Par net r k (f ++ extW c cst lay f ws)
  | [], f, h, _, _ => by simpa [extW] using h
  | (st, ot) :: ws, f, h, hl, hw => by
    rw [extW]
    split
    · rename_i q
      obtain ⟨q1, q2⟩ := q
      obtain ⟨o, hl⟩ := hl
      obtain ⟨m1, m2, m3, m4⟩ := mem_ways.mp (hw _ List.mem_cons_self)
      have hp : Par net r k (f ++ [(ot, c + cst, some (lay, st))]) := by
        refine ⟨?_, ?_, fun i l c1 o1 h0 hi => ?_⟩
        · rw [List.map_append, List.nodup_append]
          exact ⟨h.nd, by simp, fun a ha b hb => by simp at hb; subst hb; exact fun e => (aget_none.mp q1) (e ▸ ha)⟩
        · have := h.first
          rw [List.getElem?_append_left (List.getElem?_eq_some_iff.mp this).1]; exact this
        · by_cases z : i < f.length
          · rw [List.getElem?_append_left z] at hi
            obtain ⟨l', st', j, c', o', e1, hj, hg, r1⟩ := h.par i l c1 o1 h0 hi
            exact ⟨l', st', j, c', o', e1, hj, by rw [List.getElem?_append_left (by omega)]; exact hg, r1⟩
          · rw [List.getElem?_append_right (by omega)] at hi
            have hz : i - f.length = 0 := by
              have := (List.getElem?_eq_some_iff.mp hi).1; simp at this; omega
            rw [hz] at hi
            simp at hi
            obtain ⟨rfl, rfl, rfl⟩ := hi
            obtain ⟨j, hj, e⟩ := List.mem_iff_getElem.mp (aget_mem hl)
            exact ⟨lay, st, j, c, o, rfl, by omega, by rw [List.getElem?_append_left hj, List.getElem?_eq_getElem hj, e], by omega, m1, m2, m4, by rw [m4]; exact m3⟩
      have := Par.ext (cst := cst) ws hp ⟨o, by rw [aget_append, hl]; rfl⟩ fun p hp => hw p (List.mem_cons_of_mem _ hp)
      rw [List.append_assoc] at this
      exact this
    · exact Par.ext ws h hl fun p hp => hw p (List.mem_cons_of_mem _ hp)
theorem ext_get (c cst : Nat) (lay : List Nat) : ∀ (ws : List (Stp × List Nat)) (f : FD) (l : List Nat) (v : FV), (l, v) ∈ extW c cst lay f ws → v.1 = c + cst
  | [], f, l, v, h => by simp [extW] at h
  | (st, ot) :: ws, f, l, v, h => by
    rw [extW] at h
    split at h
    · rcases List.mem_cons.mp h with h | h
      · cases h; rfl
      · exact ext_get c cst lay ws _ l v h
    · exact ext_get c cst lay ws _ l v h
theorem ext_all (c cst : Nat) (lay : List Nat) : ∀ (ws : List (Stp × List Nat)) (f : FD) (st : Stp) (o : List Nat), (st, o) ∈ ws → st.pay = cst → ∃ v, aget (f ++ extW c cst lay f ws) o = some v
  | [], f, st, o, h, _ => by cases h
  | (s1, o1) :: ws, f, st, o, h, hp => by
    rw [extW]
    rcases List.mem_cons.mp h with h | h
    · injection h with h1 h2
      subst h1; subst h2
      by_cases q : aget f o = none
      · rw [if_pos ⟨q, hp⟩]
        refine ⟨(c + cst, some (lay, st)), ?_⟩
        rw [aget_append, q]
        show (if o = o then _ else _) = _
        rw [if_pos rfl]
      · rw [if_neg fun z => q z.1]
        cases e : aget f o with
        | none => exact (q e).elim
        | some v => exact ⟨v, by rw [aget_append, e]; rfl⟩
    · split
      · obtain ⟨v, hv⟩ := ext_all c cst lay ws (f ++ [(o1, (c + cst, some (lay, s1)))]) st o h hp
        exact ⟨v, by rw [List.append_assoc] at hv; exact hv⟩
      · exact ext_all c cst lay ws f st o h hp
structure Lev (net : List (List Nat)) (r : Rul) (k c : Nat) (f : FD) (row : List (List Nat)) : Prop where
  par : Par net r k f
  nd : row.Nodup
  le : ∀ l v, aget f l = some v → v.1 ≤ c
  at_ : ∀ l, l ∈ row ↔ ∃ v, aget f l = some v ∧ v.1 = c
  clo : ∀ l v, aget f l = some v → v.1 < c → ∀ st o, (st, o) ∈ ways net r k l → ∃ v', aget f o = some v' ∧ v'.1 ≤ v.1 + st.pay
  cnt : c + row.length ≤ f.length
theorem ext_keep {f g : FD} {l : List Nat} {v : FV} (h : aget f l = some v) : aget (f ++ g) l = some v := by rw [aget_append, h]; rfl
theorem ext_key {net : List (List Nat)} {r : Rul} {k : Nat} {f g : FD} (h : Par net r k (f ++ g)) {l : List Nat} {v : FV} : aget (f ++ g) l = some v ↔ aget f l = some v ∨ (l, v) ∈ g := by
  constructor
  · intro q
    rcases List.mem_append.mp (aget_mem q) with q2 | q2
    · refine .inl ?_
      have hn := h.nd
      rw [List.map_append, List.nodup_append] at hn
      exact aget_of_mem hn.1 q2
    · exact .inr q2
  · rintro (q | q)
    · exact ext_keep q
    · exact aget_of_mem h.nd (List.mem_append_right _ q)
theorem Lev.free {net : List (List Nat)} {r : Rul} {k c : Nat} {f : FD} {row : List (List Nat)} (h : Lev net r k c f row) {lay : List Nat} (hl : lay ∈ row) :
    Lev net r k c (f ++ extW c 0 lay f (ways net r k lay)) (row ++ (extW c 0 lay f (ways net r k lay)).map (·.1)) := by
  obtain ⟨v0, h0, hc0⟩ := (h.at_ lay).mp hl
  obtain ⟨c0, o0⟩ := v0
  dsimp only at hc0; subst hc0
  have hp : Par net r k (f ++ extW c0 0 lay f (ways net r k lay)) := h.par.ext _ ⟨o0, h0⟩ fun p hp => hp
  have hg := ext_get c0 0 lay (ways net r k lay) f
  generalize extW c0 0 lay f (ways net r k lay) = g at hp hg ⊢
  have hnd := hp.nd
  rw [List.map_append, List.nodup_append] at hnd
  refine ⟨hp, ?_, fun l v hv => ?_, fun l => ?_, fun l v hv hlt st o hw => ?_, ?_⟩
  · rw [List.nodup_append]
    refine ⟨h.nd, hnd.2.1, fun a ha b hb e => ?_⟩
    obtain ⟨v, hv, _⟩ := (h.at_ a).mp ha
    exact hnd.2.2 a (List.mem_map.mpr ⟨_, aget_mem hv, rfl⟩) b hb e
  · rcases (ext_key hp).mp hv with q | q
    · exact h.le l v q
    · rw [hg l v q]; omega
  · rw [List.mem_append, h.at_]
    constructor
    · rintro (⟨v, q1, q2⟩ | q)
      · exact ⟨v, ext_keep q1, q2⟩
      · obtain ⟨⟨l', v⟩, q1, rfl⟩ := List.mem_map.mp q
        exact ⟨v, (ext_key hp).mpr (.inr q1), by rw [hg _ v q1]; rfl⟩
    · rintro ⟨v, q1, q2⟩
      rcases (ext_key hp).mp q1 with q | q
      · exact .inl ⟨v, q, q2⟩
      · exact .inr (List.mem_map.mpr ⟨_, q, rfl⟩)
  · rcases (ext_key hp).mp hv with q | q
    · obtain ⟨v', a, b⟩ := h.clo l v q hlt st o hw
      exact ⟨v', ext_keep a, b⟩
    · rw [hg l v q] at hlt; omega
  · have := h.cnt
    rw [List.length_append, List.length_append, List.length_map]; omega
structure Mid (net : List (List Nat)) (r : Rul) (k c : Nat) (f0 f : FD) (row more pre : List (List Nat)) : Prop where
  par : Par net r k f
  nd : more.Nodup
  old : ∀ l v, aget f0 l = some v → aget f l = some v
  new : ∀ l v, aget f l = some v → aget f0 l = some v ∨ (v.1 = c + 1 ∧ l ∈ more)
  mre : ∀ l, l ∈ more → ∃ v, aget f l = some v ∧ v.1 = c + 1
  done : ∀ l ∈ pre, ∀ st o, (st, o) ∈ ways net r k l → st.pay = 1 → ∃ v, aget f o = some v
  cnt : f.length = f0.length + more.length
theorem Mid.step {net : List (List Nat)} {r : Rul} {k c : Nat} {f0 f : FD} {row more pre : List (List Nat)} (h0 : Lev net r k c f0 row) (h : Mid net r k c f0 f row more pre) {lay : List Nat} (hl : lay ∈ row) :
    Mid net r k c f0 (f ++ extW c 1 lay f (ways net r k lay)) row (more ++ (extW c 1 lay f (ways net r k lay)).map (·.1)) (pre ++ [lay]) := by
  obtain ⟨v0, g0, hc0⟩ := (h0.at_ lay).mp hl
  obtain ⟨c0, o0⟩ := v0
  dsimp only at hc0; subst hc0
  have hp : Par net r k (f ++ extW c0 1 lay f (ways net r k lay)) := h.par.ext _ ⟨o0, h.old _ _ g0⟩ fun p hp => hp
  have hg := ext_get c0 1 lay (ways net r k lay) f
  have ha := ext_all c0 1 lay (ways net r k lay) f
  generalize extW c0 1 lay f (ways net r k lay) = g at hp hg ha ⊢
  have hnd := hp.nd
  rw [List.map_append, List.nodup_append] at hnd
  refine ⟨hp, ?_, fun l v hv => ext_keep (h.old l v hv), fun l v hv => ?_, fun l hl => ?_, fun l hl2 st o hw hpay => ?_, ?_⟩
  · rw [List.nodup_append]
    refine ⟨h.nd, hnd.2.1, fun a ha b hb e => ?_⟩
    obtain ⟨v, hv, _⟩ := h.mre a ha
    exact hnd.2.2 a (List.mem_map.mpr ⟨_, aget_mem hv, rfl⟩) b hb e
  · rcases (ext_key hp).mp hv with q | q
    · rcases h.new l v q with q | ⟨q1, q2⟩
      · exact .inl q
      · exact .inr ⟨q1, List.mem_append_left _ q2⟩
    · exact .inr ⟨hg l v q, List.mem_append_right _ (List.mem_map.mpr ⟨_, q, rfl⟩)⟩
  · rcases List.mem_append.mp hl with q | q
    · obtain ⟨v, a, b⟩ := h.mre l q; exact ⟨v, ext_keep a, b⟩
    · obtain ⟨⟨l', v⟩, q1, rfl⟩ := List.mem_map.mp q
      exact ⟨v, (ext_key hp).mpr (.inr q1), hg _ v q1⟩
  · rcases List.mem_append.mp hl2 with q | q
    · obtain ⟨v, a⟩ := h.done l q st o hw hpay; exact ⟨v, ext_keep a⟩
    · rw [List.mem_singleton] at q; subst q; exact ha st o hw hpay
  · rw [List.length_append, List.length_append, List.length_map, h.cnt]; omega
theorem Mid.next {net : List (List Nat)} {r : Rul} {k c : Nat} {f0 f : FD} {row more : List (List Nat)} (h0 : Lev net r k c f0 row) (hne : row ≠ []) (hfree : ∀ l ∈ row, ∀ st o, (st, o) ∈ ways net r k l → st.pay = 0 → ∃ v, aget f0 o = some v) (h : Mid net r k c f0 f row more row) : Lev net r k (c + 1) f more := by
  have le0 : ∀ l v, aget f l = some v → v.1 ≤ c + 1 := fun l v hv => by
    rcases h.new l v hv with q | ⟨q, _⟩
    · have := h0.le l v q; omega
    · omega
  refine ⟨h.par, h.nd, le0, fun l => ⟨fun q => h.mre l q, fun ⟨v, q1, q2⟩ => ?_⟩, fun l v hv hlt st o hw => ?_, ?_⟩
  · rcases h.new l v q1 with q | ⟨_, q⟩
    · have := h0.le l v q; omega
    · exact q
  · rcases h.new l v hv with q | ⟨q, _⟩
    · by_cases z : v.1 = c
      · have hr : l ∈ row := (h0.at_ l).mpr ⟨v, q, z⟩
        rcases pay_01 st with p | p
        · obtain ⟨v', a⟩ := hfree l hr st o hw p
          exact ⟨v', h.old _ _ a, by have := h0.le o v' a; omega⟩
        · obtain ⟨v', a⟩ := h.done l hr st o hw p
          exact ⟨v', a, by have := le0 o v' a; omega⟩
      · have := h0.le l v q
        obtain ⟨v', a, b⟩ := h0.clo l v q (by omega) st o hw
        exact ⟨v', h.old _ _ a, b⟩
    · omega
  · have h1 := h0.cnt
    have h2 : 0 < row.length := List.length_pos_iff.mpr hne
    rw [h.cnt]; omega
theorem Lev.found {net : List (List Nat)} {r : Rul} {k c : Nat} {f : FD} (h : Lev net r k c f []) : Found net r k (·.1) f := by
  refine found_of h.par.nd ⟨_, h.par.zero, rfl⟩ (fun l v hv => h.par.sound hv) fun l v hv st hm hl hb => ?_
  have hlt : v.1 < c := by
    have h1 := h.le l v hv
    have h2 : v.1 ≠ c := fun z => by cases (h.at_ l).mpr ⟨v, hv, z⟩
    omega
  exact h.clo l v hv hlt st _ (mem_ways.mpr ⟨hm, hl, hb, rfl⟩)
end DL

namespace DL
open PySem
@[simp] theorem wb_spot_rules : (Str.ofString "spot" == Str.ofString "rules") = false := by decide +kernel
@[simp] theorem we_spot_rules : (Str.ofString "spot" = Str.ofString "rules") = False := eq_false (by decide +kernel)
@[simp] theorem wb_spot_clear : (Str.ofString "spot" == Str.ofString "clear") = false := by decide +kernel
@[simp] theorem we_spot_clear : (Str.ofString "spot" = Str.ofString "clear") = False := eq_false (by decide +kernel)
@[simp] theorem wb_spot_net : (Str.ofString "spot" == Str.ofString "net") = false := by decide +kernel
@[simp] theorem we_spot_net : (Str.ofString "spot" = Str.ofString "net") = False := eq_false (by decide +kernel)
@[simp] theorem wb_spot_back : (Str.ofString "spot" == Str.ofString "back") = false := by decide +kernel
@[simp] theorem we_spot_back : (Str.ofString "spot" = Str.ofString "back") = False := eq_false (by decide +kernel)
@[simp] theorem wb_spot_lay : (Str.ofString "spot" == Str.ofString "lay") = false := by decide +kernel
@[simp] theorem we_spot_lay : (Str.ofString "spot" = Str.ofString "lay") = False := eq_false (by decide +kernel)
@[simp] theorem wb_spot_play : (Str.ofString "spot" == Str.ofString "play") = false := by decide +kernel
@[simp] theorem we_spot_play : (Str.ofString "spot" = Str.ofString "play") = False := eq_false (by decide +kernel)
@[simp] theorem wb_spot_cost : (Str.ofString "spot" == Str.ofString "cost") = false := by decide +kernel
@[simp] theorem we_spot_cost : (Str.ofString "spot" = Str.ofString "cost") = False := eq_false (by decide +kernel)
@[simp] theorem wb_spot_most : (Str.ofString "spot" == Str.ofString "most") = false := by decide +kernel
@[simp] theorem we_spot_most : (Str.ofString "spot" = Str.ofString "most") = False := eq_false (by decide +kernel)
@[simp] theorem wb_spot_steps : (Str.ofString "spot" == Str.ofString "steps") = false := by decide +kernel
@[simp] theorem we_spot_steps : (Str.ofString "spot" = Str.ofString "steps") = False := eq_false (by decide +kernel)
@[simp] theorem wb_spot_put : (Str.ofString "spot" == Str.ofString "put") = false := by decide +kernel
@[simp] theorem we_spot_put : (Str.ofString "spot" = Str.ofString "put") = False := eq_false (by decide +kernel)
@[simp] theorem wb_spot_take : (Str.ofString "spot" == Str.ofString "take") = false := by decide +kernel
@[simp] theorem we_spot_take : (Str.ofString "spot" = Str.ofString "take") = False := eq_false (by decide +kernel)
@[simp] theorem wb_spot_slide : (Str.ofString "spot" == Str.ofString "slide") = false := by decide +kernel
@[simp] theorem we_spot_slide : (Str.ofString "spot" = Str.ofString "slide") = False := eq_false (by decide +kernel)
@[simp] theorem wb_spot_least : (Str.ofString "spot" == Str.ofString "least") = false := by decide +kernel
@[simp] theorem we_spot_least : (Str.ofString "spot" = Str.ofString "least") = False := eq_false (by decide +kernel)
@[simp] theorem wb_spot_beneath : (Str.ofString "spot" == Str.ofString "beneath") = false := by decide +kernel
@[simp] theorem we_spot_beneath : (Str.ofString "spot" = Str.ofString "beneath") = False := eq_false (by decide +kernel)
@[simp] theorem wb_spot_open : (Str.ofString "spot" == Str.ofString "open") = false := by decide +kernel
@[simp] theorem we_spot_open : (Str.ofString "spot" = Str.ofString "open") = False := eq_false (by decide +kernel)
@[simp] theorem wb_spot_order : (Str.ofString "spot" == Str.ofString "order") = false := by decide +kernel
@[simp] theorem we_spot_order : (Str.ofString "spot" = Str.ofString "order") = False := eq_false (by decide +kernel)
@[simp] theorem wb_spot_bargain : (Str.ofString "spot" == Str.ofString "bargain") = false := by decide +kernel
@[simp] theorem we_spot_bargain : (Str.ofString "spot" = Str.ofString "bargain") = False := eq_false (by decide +kernel)
@[simp] theorem wb_spot_none : (Str.ofString "spot" == Str.ofString "none") = false := by decide +kernel
@[simp] theorem we_spot_none : (Str.ofString "spot" = Str.ofString "none") = False := eq_false (by decide +kernel)
@[simp] theorem wb_spot_ok : (Str.ofString "spot" == Str.ofString "ok") = false := by decide +kernel
@[simp] theorem we_spot_ok : (Str.ofString "spot" = Str.ofString "ok") = False := eq_false (by decide +kernel)
@[simp] theorem wb_rules_spot : (Str.ofString "rules" == Str.ofString "spot") = false := by decide +kernel
@[simp] theorem we_rules_spot : (Str.ofString "rules" = Str.ofString "spot") = False := eq_false (by decide +kernel)
@[simp] theorem wb_rules_clear : (Str.ofString "rules" == Str.ofString "clear") = false := by decide +kernel
@[simp] theorem we_rules_clear : (Str.ofString "rules" = Str.ofString "clear") = False := eq_false (by decide +kernel)
@[simp] theorem wb_rules_net : (Str.ofString "rules" == Str.ofString "net") = false := by decide +kernel
@[simp] theorem we_rules_net : (Str.ofString "rules" = Str.ofString "net") = False := eq_false (by decide +kernel)
@[simp] theorem wb_rules_back : (Str.ofString "rules" == Str.ofString "back") = false := by decide +kernel
@[simp] theorem we_rules_back : (Str.ofString "rules" = Str.ofString "back") = False := eq_false (by decide +kernel)
@[simp] theorem wb_rules_lay : (Str.ofString "rules" == Str.ofString "lay") = false := by decide +kernel
@[simp] theorem we_rules_lay : (Str.ofString "rules" = Str.ofString "lay") = False := eq_false (by decide +kernel)
@[simp] theorem wb_rules_play : (Str.ofString "rules" == Str.ofString "play") = false := by decide +kernel
@[simp] theorem we_rules_play : (Str.ofString "rules" = Str.ofString "play") = False := eq_false (by decide +kernel)
@[simp] theorem wb_rules_cost : (Str.ofString "rules" == Str.ofString "cost") = false := by decide +kernel
@[simp] theorem we_rules_cost : (Str.ofString "rules" = Str.ofString "cost") = False := eq_false (by decide +kernel)
@[simp] theorem wb_rules_most : (Str.ofString "rules" == Str.ofString "most") = false := by decide +kernel
@[simp] theorem we_rules_most : (Str.ofString "rules" = Str.ofString "most") = False := eq_false (by decide +kernel)
@[simp] theorem wb_rules_steps : (Str.ofString "rules" == Str.ofString "steps") = false := by decide +kernel
@[simp] theorem we_rules_steps : (Str.ofString "rules" = Str.ofString "steps") = False := eq_false (by decide +kernel)
@[simp] theorem wb_rules_put : (Str.ofString "rules" == Str.ofString "put") = false := by decide +kernel
@[simp] theorem we_rules_put : (Str.ofString "rules" = Str.ofString "put") = False := eq_false (by decide +kernel)
@[simp] theorem wb_rules_take : (Str.ofString "rules" == Str.ofString "take") = false := by decide +kernel
@[simp] theorem we_rules_take : (Str.ofString "rules" = Str.ofString "take") = False := eq_false (by decide +kernel)
@[simp] theorem wb_rules_slide : (Str.ofString "rules" == Str.ofString "slide") = false := by decide +kernel
@[simp] theorem we_rules_slide : (Str.ofString "rules" = Str.ofString "slide") = False := eq_false (by decide +kernel)
@[simp] theorem wb_rules_least : (Str.ofString "rules" == Str.ofString "least") = false := by decide +kernel
@[simp] theorem we_rules_least : (Str.ofString "rules" = Str.ofString "least") = False := eq_false (by decide +kernel)
@[simp] theorem wb_rules_beneath : (Str.ofString "rules" == Str.ofString "beneath") = false := by decide +kernel
@[simp] theorem we_rules_beneath : (Str.ofString "rules" = Str.ofString "beneath") = False := eq_false (by decide +kernel)
@[simp] theorem wb_rules_open : (Str.ofString "rules" == Str.ofString "open") = false := by decide +kernel
@[simp] theorem we_rules_open : (Str.ofString "rules" = Str.ofString "open") = False := eq_false (by decide +kernel)
@[simp] theorem wb_rules_order : (Str.ofString "rules" == Str.ofString "order") = false := by decide +kernel
@[simp] theorem we_rules_order : (Str.ofString "rules" = Str.ofString "order") = False := eq_false (by decide +kernel)
@[simp] theorem wb_rules_bargain : (Str.ofString "rules" == Str.ofString "bargain") = false := by decide +kernel
@[simp] theorem we_rules_bargain : (Str.ofString "rules" = Str.ofString "bargain") = False := eq_false (by decide +kernel)
@[simp] theorem wb_rules_none : (Str.ofString "rules" == Str.ofString "none") = false := by decide +kernel
@[simp] theorem we_rules_none : (Str.ofString "rules" = Str.ofString "none") = False := eq_false (by decide +kernel)
@[simp] theorem wb_rules_ok : (Str.ofString "rules" == Str.ofString "ok") = false := by decide +kernel
@[simp] theorem we_rules_ok : (Str.ofString "rules" = Str.ofString "ok") = False := eq_false (by decide +kernel)
@[simp] theorem wb_clear_spot : (Str.ofString "clear" == Str.ofString "spot") = false := by decide +kernel
@[simp] theorem we_clear_spot : (Str.ofString "clear" = Str.ofString "spot") = False := eq_false (by decide +kernel)
@[simp] theorem wb_clear_rules : (Str.ofString "clear" == Str.ofString "rules") = false := by decide +kernel
@[simp] theorem we_clear_rules : (Str.ofString "clear" = Str.ofString "rules") = False := eq_false (by decide +kernel)
@[simp] theorem wb_clear_net : (Str.ofString "clear" == Str.ofString "net") = false := by decide +kernel
@[simp] theorem we_clear_net : (Str.ofString "clear" = Str.ofString "net") = False := eq_false (by decide +kernel)
@[simp] theorem wb_clear_back : (Str.ofString "clear" == Str.ofString "back") = false := by decide +kernel
@[simp] theorem we_clear_back : (Str.ofString "clear" = Str.ofString "back") = False := eq_false (by decide +kernel)
@[simp] theorem wb_clear_lay : (Str.ofString "clear" == Str.ofString "lay") = false := by decide +kernel
@[simp] theorem we_clear_lay : (Str.ofString "clear" = Str.ofString "lay") = False := eq_false (by decide +kernel)
@[simp] theorem wb_clear_play : (Str.ofString "clear" == Str.ofString "play") = false := by decide +kernel
@[simp] theorem we_clear_play : (Str.ofString "clear" = Str.ofString "play") = False := eq_false (by decide +kernel)
@[simp] theorem wb_clear_cost : (Str.ofString "clear" == Str.ofString "cost") = false := by decide +kernel
@[simp] theorem we_clear_cost : (Str.ofString "clear" = Str.ofString "cost") = False := eq_false (by decide +kernel)
@[simp] theorem wb_clear_most : (Str.ofString "clear" == Str.ofString "most") = false := by decide +kernel
@[simp] theorem we_clear_most : (Str.ofString "clear" = Str.ofString "most") = False := eq_false (by decide +kernel)
@[simp] theorem wb_clear_steps : (Str.ofString "clear" == Str.ofString "steps") = false := by decide +kernel
@[simp] theorem we_clear_steps : (Str.ofString "clear" = Str.ofString "steps") = False := eq_false (by decide +kernel)
@[simp] theorem wb_clear_put : (Str.ofString "clear" == Str.ofString "put") = false := by decide +kernel
@[simp] theorem we_clear_put : (Str.ofString "clear" = Str.ofString "put") = False := eq_false (by decide +kernel)
@[simp] theorem wb_clear_take : (Str.ofString "clear" == Str.ofString "take") = false := by decide +kernel
@[simp] theorem we_clear_take : (Str.ofString "clear" = Str.ofString "take") = False := eq_false (by decide +kernel)
@[simp] theorem wb_clear_slide : (Str.ofString "clear" == Str.ofString "slide") = false := by decide +kernel
@[simp] theorem we_clear_slide : (Str.ofString "clear" = Str.ofString "slide") = False := eq_false (by decide +kernel)
@[simp] theorem wb_clear_least : (Str.ofString "clear" == Str.ofString "least") = false := by decide +kernel
@[simp] theorem we_clear_least : (Str.ofString "clear" = Str.ofString "least") = False := eq_false (by decide +kernel)
@[simp] theorem wb_clear_beneath : (Str.ofString "clear" == Str.ofString "beneath") = false := by decide +kernel
@[simp] theorem we_clear_beneath : (Str.ofString "clear" = Str.ofString "beneath") = False := eq_false (by decide +kernel)
@[simp] theorem wb_clear_open : (Str.ofString "clear" == Str.ofString "open") = false := by decide +kernel
@[simp] theorem we_clear_open : (Str.ofString "clear" = Str.ofString "open") = False := eq_false (by decide +kernel)
@[simp] theorem wb_clear_order : (Str.ofString "clear" == Str.ofString "order") = false := by decide +kernel
@[simp] theorem we_clear_order : (Str.ofString "clear" = Str.ofString "order") = False := eq_false (by decide +kernel)
@[simp] theorem wb_clear_bargain : (Str.ofString "clear" == Str.ofString "bargain") = false := by decide +kernel
@[simp] theorem we_clear_bargain : (Str.ofString "clear" = Str.ofString "bargain") = False := eq_false (by decide +kernel)
@[simp] theorem wb_clear_none : (Str.ofString "clear" == Str.ofString "none") = false := by decide +kernel
@[simp] theorem we_clear_none : (Str.ofString "clear" = Str.ofString "none") = False := eq_false (by decide +kernel)
@[simp] theorem wb_clear_ok : (Str.ofString "clear" == Str.ofString "ok") = false := by decide +kernel
@[simp] theorem we_clear_ok : (Str.ofString "clear" = Str.ofString "ok") = False := eq_false (by decide +kernel)
@[simp] theorem wb_net_spot : (Str.ofString "net" == Str.ofString "spot") = false := by decide +kernel
@[simp] theorem we_net_spot : (Str.ofString "net" = Str.ofString "spot") = False := eq_false (by decide +kernel)
@[simp] theorem wb_net_rules : (Str.ofString "net" == Str.ofString "rules") = false := by decide +kernel
@[simp] theorem we_net_rules : (Str.ofString "net" = Str.ofString "rules") = False := eq_false (by decide +kernel)
@[simp] theorem wb_net_clear : (Str.ofString "net" == Str.ofString "clear") = false := by decide +kernel
@[simp] theorem we_net_clear : (Str.ofString "net" = Str.ofString "clear") = False := eq_false (by decide +kernel)
@[simp] theorem wb_net_back : (Str.ofString "net" == Str.ofString "back") = false := by decide +kernel
@[simp] theorem we_net_back : (Str.ofString "net" = Str.ofString "back") = False := eq_false (by decide +kernel)
@[simp] theorem wb_net_lay : (Str.ofString "net" == Str.ofString "lay") = false := by decide +kernel
@[simp] theorem we_net_lay : (Str.ofString "net" = Str.ofString "lay") = False := eq_false (by decide +kernel)
@[simp] theorem wb_net_play : (Str.ofString "net" == Str.ofString "play") = false := by decide +kernel
@[simp] theorem we_net_play : (Str.ofString "net" = Str.ofString "play") = False := eq_false (by decide +kernel)
@[simp] theorem wb_net_cost : (Str.ofString "net" == Str.ofString "cost") = false := by decide +kernel
@[simp] theorem we_net_cost : (Str.ofString "net" = Str.ofString "cost") = False := eq_false (by decide +kernel)
@[simp] theorem wb_net_most : (Str.ofString "net" == Str.ofString "most") = false := by decide +kernel
@[simp] theorem we_net_most : (Str.ofString "net" = Str.ofString "most") = False := eq_false (by decide +kernel)
@[simp] theorem wb_net_steps : (Str.ofString "net" == Str.ofString "steps") = false := by decide +kernel
@[simp] theorem we_net_steps : (Str.ofString "net" = Str.ofString "steps") = False := eq_false (by decide +kernel)
@[simp] theorem wb_net_put : (Str.ofString "net" == Str.ofString "put") = false := by decide +kernel
@[simp] theorem we_net_put : (Str.ofString "net" = Str.ofString "put") = False := eq_false (by decide +kernel)
@[simp] theorem wb_net_take : (Str.ofString "net" == Str.ofString "take") = false := by decide +kernel
@[simp] theorem we_net_take : (Str.ofString "net" = Str.ofString "take") = False := eq_false (by decide +kernel)
@[simp] theorem wb_net_slide : (Str.ofString "net" == Str.ofString "slide") = false := by decide +kernel
@[simp] theorem we_net_slide : (Str.ofString "net" = Str.ofString "slide") = False := eq_false (by decide +kernel)
@[simp] theorem wb_net_least : (Str.ofString "net" == Str.ofString "least") = false := by decide +kernel
@[simp] theorem we_net_least : (Str.ofString "net" = Str.ofString "least") = False := eq_false (by decide +kernel)
@[simp] theorem wb_net_beneath : (Str.ofString "net" == Str.ofString "beneath") = false := by decide +kernel
@[simp] theorem we_net_beneath : (Str.ofString "net" = Str.ofString "beneath") = False := eq_false (by decide +kernel)
@[simp] theorem wb_net_open : (Str.ofString "net" == Str.ofString "open") = false := by decide +kernel
@[simp] theorem we_net_open : (Str.ofString "net" = Str.ofString "open") = False := eq_false (by decide +kernel)
@[simp] theorem wb_net_order : (Str.ofString "net" == Str.ofString "order") = false := by decide +kernel
@[simp] theorem we_net_order : (Str.ofString "net" = Str.ofString "order") = False := eq_false (by decide +kernel)
@[simp] theorem wb_net_bargain : (Str.ofString "net" == Str.ofString "bargain") = false := by decide +kernel
@[simp] theorem we_net_bargain : (Str.ofString "net" = Str.ofString "bargain") = False := eq_false (by decide +kernel)
@[simp] theorem wb_net_none : (Str.ofString "net" == Str.ofString "none") = false := by decide +kernel
@[simp] theorem we_net_none : (Str.ofString "net" = Str.ofString "none") = False := eq_false (by decide +kernel)
@[simp] theorem wb_net_ok : (Str.ofString "net" == Str.ofString "ok") = false := by decide +kernel
@[simp] theorem we_net_ok : (Str.ofString "net" = Str.ofString "ok") = False := eq_false (by decide +kernel)
@[simp] theorem wb_back_spot : (Str.ofString "back" == Str.ofString "spot") = false := by decide +kernel
@[simp] theorem we_back_spot : (Str.ofString "back" = Str.ofString "spot") = False := eq_false (by decide +kernel)
@[simp] theorem wb_back_rules : (Str.ofString "back" == Str.ofString "rules") = false := by decide +kernel
@[simp] theorem we_back_rules : (Str.ofString "back" = Str.ofString "rules") = False := eq_false (by decide +kernel)
@[simp] theorem wb_back_clear : (Str.ofString "back" == Str.ofString "clear") = false := by decide +kernel
@[simp] theorem we_back_clear : (Str.ofString "back" = Str.ofString "clear") = False := eq_false (by decide +kernel)
@[simp] theorem wb_back_net : (Str.ofString "back" == Str.ofString "net") = false := by decide +kernel
@[simp] theorem we_back_net : (Str.ofString "back" = Str.ofString "net") = False := eq_false (by decide +kernel)
@[simp] theorem wb_back_lay : (Str.ofString "back" == Str.ofString "lay") = false := by decide +kernel
@[simp] theorem we_back_lay : (Str.ofString "back" = Str.ofString "lay") = False := eq_false (by decide +kernel)
@[simp] theorem wb_back_play : (Str.ofString "back" == Str.ofString "play") = false := by decide +kernel
@[simp] theorem we_back_play : (Str.ofString "back" = Str.ofString "play") = False := eq_false (by decide +kernel)
@[simp] theorem wb_back_cost : (Str.ofString "back" == Str.ofString "cost") = false := by decide +kernel
@[simp] theorem we_back_cost : (Str.ofString "back" = Str.ofString "cost") = False := eq_false (by decide +kernel)
@[simp] theorem wb_back_most : (Str.ofString "back" == Str.ofString "most") = false := by decide +kernel
@[simp] theorem we_back_most : (Str.ofString "back" = Str.ofString "most") = False := eq_false (by decide +kernel)
@[simp] theorem wb_back_steps : (Str.ofString "back" == Str.ofString "steps") = false := by decide +kernel
@[simp] theorem we_back_steps : (Str.ofString "back" = Str.ofString "steps") = False := eq_false (by decide +kernel)
@[simp] theorem wb_back_put : (Str.ofString "back" == Str.ofString "put") = false := by decide +kernel
@[simp] theorem we_back_put : (Str.ofString "back" = Str.ofString "put") = False := eq_false (by decide +kernel)
@[simp] theorem wb_back_take : (Str.ofString "back" == Str.ofString "take") = false := by decide +kernel
@[simp] theorem we_back_take : (Str.ofString "back" = Str.ofString "take") = False := eq_false (by decide +kernel)
@[simp] theorem wb_back_slide : (Str.ofString "back" == Str.ofString "slide") = false := by decide +kernel
@[simp] theorem we_back_slide : (Str.ofString "back" = Str.ofString "slide") = False := eq_false (by decide +kernel)
@[simp] theorem wb_back_least : (Str.ofString "back" == Str.ofString "least") = false := by decide +kernel
@[simp] theorem we_back_least : (Str.ofString "back" = Str.ofString "least") = False := eq_false (by decide +kernel)
@[simp] theorem wb_back_beneath : (Str.ofString "back" == Str.ofString "beneath") = false := by decide +kernel
@[simp] theorem we_back_beneath : (Str.ofString "back" = Str.ofString "beneath") = False := eq_false (by decide +kernel)
@[simp] theorem wb_back_open : (Str.ofString "back" == Str.ofString "open") = false := by decide +kernel
@[simp] theorem we_back_open : (Str.ofString "back" = Str.ofString "open") = False := eq_false (by decide +kernel)
@[simp] theorem wb_back_order : (Str.ofString "back" == Str.ofString "order") = false := by decide +kernel
@[simp] theorem we_back_order : (Str.ofString "back" = Str.ofString "order") = False := eq_false (by decide +kernel)
@[simp] theorem wb_back_bargain : (Str.ofString "back" == Str.ofString "bargain") = false := by decide +kernel
@[simp] theorem we_back_bargain : (Str.ofString "back" = Str.ofString "bargain") = False := eq_false (by decide +kernel)
@[simp] theorem wb_back_none : (Str.ofString "back" == Str.ofString "none") = false := by decide +kernel
@[simp] theorem we_back_none : (Str.ofString "back" = Str.ofString "none") = False := eq_false (by decide +kernel)
@[simp] theorem wb_back_ok : (Str.ofString "back" == Str.ofString "ok") = false := by decide +kernel
@[simp] theorem we_back_ok : (Str.ofString "back" = Str.ofString "ok") = False := eq_false (by decide +kernel)
@[simp] theorem wb_lay_spot : (Str.ofString "lay" == Str.ofString "spot") = false := by decide +kernel
@[simp] theorem we_lay_spot : (Str.ofString "lay" = Str.ofString "spot") = False := eq_false (by decide +kernel)
@[simp] theorem wb_lay_rules : (Str.ofString "lay" == Str.ofString "rules") = false := by decide +kernel
@[simp] theorem we_lay_rules : (Str.ofString "lay" = Str.ofString "rules") = False := eq_false (by decide +kernel)
@[simp] theorem wb_lay_clear : (Str.ofString "lay" == Str.ofString "clear") = false := by decide +kernel
@[simp] theorem we_lay_clear : (Str.ofString "lay" = Str.ofString "clear") = False := eq_false (by decide +kernel)
@[simp] theorem wb_lay_net : (Str.ofString "lay" == Str.ofString "net") = false := by decide +kernel
@[simp] theorem we_lay_net : (Str.ofString "lay" = Str.ofString "net") = False := eq_false (by decide +kernel)
@[simp] theorem wb_lay_back : (Str.ofString "lay" == Str.ofString "back") = false := by decide +kernel
@[simp] theorem we_lay_back : (Str.ofString "lay" = Str.ofString "back") = False := eq_false (by decide +kernel)
@[simp] theorem wb_lay_play : (Str.ofString "lay" == Str.ofString "play") = false := by decide +kernel
@[simp] theorem we_lay_play : (Str.ofString "lay" = Str.ofString "play") = False := eq_false (by decide +kernel)
@[simp] theorem wb_lay_cost : (Str.ofString "lay" == Str.ofString "cost") = false := by decide +kernel
@[simp] theorem we_lay_cost : (Str.ofString "lay" = Str.ofString "cost") = False := eq_false (by decide +kernel)
@[simp] theorem wb_lay_most : (Str.ofString "lay" == Str.ofString "most") = false := by decide +kernel
@[simp] theorem we_lay_most : (Str.ofString "lay" = Str.ofString "most") = False := eq_false (by decide +kernel)
@[simp] theorem wb_lay_steps : (Str.ofString "lay" == Str.ofString "steps") = false := by decide +kernel
@[simp] theorem we_lay_steps : (Str.ofString "lay" = Str.ofString "steps") = False := eq_false (by decide +kernel)
@[simp] theorem wb_lay_put : (Str.ofString "lay" == Str.ofString "put") = false := by decide +kernel
@[simp] theorem we_lay_put : (Str.ofString "lay" = Str.ofString "put") = False := eq_false (by decide +kernel)
@[simp] theorem wb_lay_take : (Str.ofString "lay" == Str.ofString "take") = false := by decide +kernel
@[simp] theorem we_lay_take : (Str.ofString "lay" = Str.ofString "take") = False := eq_false (by decide +kernel)
@[simp] theorem wb_lay_slide : (Str.ofString "lay" == Str.ofString "slide") = false := by decide +kernel
@[simp] theorem we_lay_slide : (Str.ofString "lay" = Str.ofString "slide") = False := eq_false (by decide +kernel)
@[simp] theorem wb_lay_least : (Str.ofString "lay" == Str.ofString "least") = false := by decide +kernel
@[simp] theorem we_lay_least : (Str.ofString "lay" = Str.ofString "least") = False := eq_false (by decide +kernel)
@[simp] theorem wb_lay_beneath : (Str.ofString "lay" == Str.ofString "beneath") = false := by decide +kernel
@[simp] theorem we_lay_beneath : (Str.ofString "lay" = Str.ofString "beneath") = False := eq_false (by decide +kernel)
@[simp] theorem wb_lay_open : (Str.ofString "lay" == Str.ofString "open") = false := by decide +kernel
@[simp] theorem we_lay_open : (Str.ofString "lay" = Str.ofString "open") = False := eq_false (by decide +kernel)
@[simp] theorem wb_lay_order : (Str.ofString "lay" == Str.ofString "order") = false := by decide +kernel
@[simp] theorem we_lay_order : (Str.ofString "lay" = Str.ofString "order") = False := eq_false (by decide +kernel)
@[simp] theorem wb_lay_bargain : (Str.ofString "lay" == Str.ofString "bargain") = false := by decide +kernel
@[simp] theorem we_lay_bargain : (Str.ofString "lay" = Str.ofString "bargain") = False := eq_false (by decide +kernel)
@[simp] theorem wb_lay_none : (Str.ofString "lay" == Str.ofString "none") = false := by decide +kernel
@[simp] theorem we_lay_none : (Str.ofString "lay" = Str.ofString "none") = False := eq_false (by decide +kernel)
@[simp] theorem wb_lay_ok : (Str.ofString "lay" == Str.ofString "ok") = false := by decide +kernel
@[simp] theorem we_lay_ok : (Str.ofString "lay" = Str.ofString "ok") = False := eq_false (by decide +kernel)
@[simp] theorem wb_play_spot : (Str.ofString "play" == Str.ofString "spot") = false := by decide +kernel
@[simp] theorem we_play_spot : (Str.ofString "play" = Str.ofString "spot") = False := eq_false (by decide +kernel)
@[simp] theorem wb_play_rules : (Str.ofString "play" == Str.ofString "rules") = false := by decide +kernel
@[simp] theorem we_play_rules : (Str.ofString "play" = Str.ofString "rules") = False := eq_false (by decide +kernel)
@[simp] theorem wb_play_clear : (Str.ofString "play" == Str.ofString "clear") = false := by decide +kernel
@[simp] theorem we_play_clear : (Str.ofString "play" = Str.ofString "clear") = False := eq_false (by decide +kernel)
@[simp] theorem wb_play_net : (Str.ofString "play" == Str.ofString "net") = false := by decide +kernel
@[simp] theorem we_play_net : (Str.ofString "play" = Str.ofString "net") = False := eq_false (by decide +kernel)
@[simp] theorem wb_play_back : (Str.ofString "play" == Str.ofString "back") = false := by decide +kernel
@[simp] theorem we_play_back : (Str.ofString "play" = Str.ofString "back") = False := eq_false (by decide +kernel)
@[simp] theorem wb_play_lay : (Str.ofString "play" == Str.ofString "lay") = false := by decide +kernel
@[simp] theorem we_play_lay : (Str.ofString "play" = Str.ofString "lay") = False := eq_false (by decide +kernel)
@[simp] theorem wb_play_cost : (Str.ofString "play" == Str.ofString "cost") = false := by decide +kernel
@[simp] theorem we_play_cost : (Str.ofString "play" = Str.ofString "cost") = False := eq_false (by decide +kernel)
@[simp] theorem wb_play_most : (Str.ofString "play" == Str.ofString "most") = false := by decide +kernel
@[simp] theorem we_play_most : (Str.ofString "play" = Str.ofString "most") = False := eq_false (by decide +kernel)
@[simp] theorem wb_play_steps : (Str.ofString "play" == Str.ofString "steps") = false := by decide +kernel
@[simp] theorem we_play_steps : (Str.ofString "play" = Str.ofString "steps") = False := eq_false (by decide +kernel)
@[simp] theorem wb_play_put : (Str.ofString "play" == Str.ofString "put") = false := by decide +kernel
@[simp] theorem we_play_put : (Str.ofString "play" = Str.ofString "put") = False := eq_false (by decide +kernel)
@[simp] theorem wb_play_take : (Str.ofString "play" == Str.ofString "take") = false := by decide +kernel
@[simp] theorem we_play_take : (Str.ofString "play" = Str.ofString "take") = False := eq_false (by decide +kernel)
@[simp] theorem wb_play_slide : (Str.ofString "play" == Str.ofString "slide") = false := by decide +kernel
@[simp] theorem we_play_slide : (Str.ofString "play" = Str.ofString "slide") = False := eq_false (by decide +kernel)
@[simp] theorem wb_play_least : (Str.ofString "play" == Str.ofString "least") = false := by decide +kernel
@[simp] theorem we_play_least : (Str.ofString "play" = Str.ofString "least") = False := eq_false (by decide +kernel)
@[simp] theorem wb_play_beneath : (Str.ofString "play" == Str.ofString "beneath") = false := by decide +kernel
@[simp] theorem we_play_beneath : (Str.ofString "play" = Str.ofString "beneath") = False := eq_false (by decide +kernel)
@[simp] theorem wb_play_open : (Str.ofString "play" == Str.ofString "open") = false := by decide +kernel
@[simp] theorem we_play_open : (Str.ofString "play" = Str.ofString "open") = False := eq_false (by decide +kernel)
@[simp] theorem wb_play_order : (Str.ofString "play" == Str.ofString "order") = false := by decide +kernel
@[simp] theorem we_play_order : (Str.ofString "play" = Str.ofString "order") = False := eq_false (by decide +kernel)
@[simp] theorem wb_play_bargain : (Str.ofString "play" == Str.ofString "bargain") = false := by decide +kernel
@[simp] theorem we_play_bargain : (Str.ofString "play" = Str.ofString "bargain") = False := eq_false (by decide +kernel)
@[simp] theorem wb_play_none : (Str.ofString "play" == Str.ofString "none") = false := by decide +kernel
@[simp] theorem we_play_none : (Str.ofString "play" = Str.ofString "none") = False := eq_false (by decide +kernel)
@[simp] theorem wb_play_ok : (Str.ofString "play" == Str.ofString "ok") = false := by decide +kernel
@[simp] theorem we_play_ok : (Str.ofString "play" = Str.ofString "ok") = False := eq_false (by decide +kernel)
@[simp] theorem wb_cost_spot : (Str.ofString "cost" == Str.ofString "spot") = false := by decide +kernel
@[simp] theorem we_cost_spot : (Str.ofString "cost" = Str.ofString "spot") = False := eq_false (by decide +kernel)
@[simp] theorem wb_cost_rules : (Str.ofString "cost" == Str.ofString "rules") = false := by decide +kernel
@[simp] theorem we_cost_rules : (Str.ofString "cost" = Str.ofString "rules") = False := eq_false (by decide +kernel)
@[simp] theorem wb_cost_clear : (Str.ofString "cost" == Str.ofString "clear") = false := by decide +kernel
@[simp] theorem we_cost_clear : (Str.ofString "cost" = Str.ofString "clear") = False := eq_false (by decide +kernel)
@[simp] theorem wb_cost_net : (Str.ofString "cost" == Str.ofString "net") = false := by decide +kernel
@[simp] theorem we_cost_net : (Str.ofString "cost" = Str.ofString "net") = False := eq_false (by decide +kernel)
@[simp] theorem wb_cost_back : (Str.ofString "cost" == Str.ofString "back") = false := by decide +kernel
@[simp] theorem we_cost_back : (Str.ofString "cost" = Str.ofString "back") = False := eq_false (by decide +kernel)
@[simp] theorem wb_cost_lay : (Str.ofString "cost" == Str.ofString "lay") = false := by decide +kernel
@[simp] theorem we_cost_lay : (Str.ofString "cost" = Str.ofString "lay") = False := eq_false (by decide +kernel)
@[simp] theorem wb_cost_play : (Str.ofString "cost" == Str.ofString "play") = false := by decide +kernel
@[simp] theorem we_cost_play : (Str.ofString "cost" = Str.ofString "play") = False := eq_false (by decide +kernel)
@[simp] theorem wb_cost_most : (Str.ofString "cost" == Str.ofString "most") = false := by decide +kernel
@[simp] theorem we_cost_most : (Str.ofString "cost" = Str.ofString "most") = False := eq_false (by decide +kernel)
@[simp] theorem wb_cost_steps : (Str.ofString "cost" == Str.ofString "steps") = false := by decide +kernel
@[simp] theorem we_cost_steps : (Str.ofString "cost" = Str.ofString "steps") = False := eq_false (by decide +kernel)
@[simp] theorem wb_cost_put : (Str.ofString "cost" == Str.ofString "put") = false := by decide +kernel
@[simp] theorem we_cost_put : (Str.ofString "cost" = Str.ofString "put") = False := eq_false (by decide +kernel)
@[simp] theorem wb_cost_take : (Str.ofString "cost" == Str.ofString "take") = false := by decide +kernel
@[simp] theorem we_cost_take : (Str.ofString "cost" = Str.ofString "take") = False := eq_false (by decide +kernel)
@[simp] theorem wb_cost_slide : (Str.ofString "cost" == Str.ofString "slide") = false := by decide +kernel
@[simp] theorem we_cost_slide : (Str.ofString "cost" = Str.ofString "slide") = False := eq_false (by decide +kernel)
@[simp] theorem wb_cost_least : (Str.ofString "cost" == Str.ofString "least") = false := by decide +kernel
@[simp] theorem we_cost_least : (Str.ofString "cost" = Str.ofString "least") = False := eq_false (by decide +kernel)
@[simp] theorem wb_cost_beneath : (Str.ofString "cost" == Str.ofString "beneath") = false := by decide +kernel
@[simp] theorem we_cost_beneath : (Str.ofString "cost" = Str.ofString "beneath") = False := eq_false (by decide +kernel)
@[simp] theorem wb_cost_open : (Str.ofString "cost" == Str.ofString "open") = false := by decide +kernel
@[simp] theorem we_cost_open : (Str.ofString "cost" = Str.ofString "open") = False := eq_false (by decide +kernel)
@[simp] theorem wb_cost_order : (Str.ofString "cost" == Str.ofString "order") = false := by decide +kernel
@[simp] theorem we_cost_order : (Str.ofString "cost" = Str.ofString "order") = False := eq_false (by decide +kernel)
@[simp] theorem wb_cost_bargain : (Str.ofString "cost" == Str.ofString "bargain") = false := by decide +kernel
@[simp] theorem we_cost_bargain : (Str.ofString "cost" = Str.ofString "bargain") = False := eq_false (by decide +kernel)
@[simp] theorem wb_cost_none : (Str.ofString "cost" == Str.ofString "none") = false := by decide +kernel
@[simp] theorem we_cost_none : (Str.ofString "cost" = Str.ofString "none") = False := eq_false (by decide +kernel)
@[simp] theorem wb_cost_ok : (Str.ofString "cost" == Str.ofString "ok") = false := by decide +kernel
@[simp] theorem we_cost_ok : (Str.ofString "cost" = Str.ofString "ok") = False := eq_false (by decide +kernel)
@[simp] theorem wb_most_spot : (Str.ofString "most" == Str.ofString "spot") = false := by decide +kernel
@[simp] theorem we_most_spot : (Str.ofString "most" = Str.ofString "spot") = False := eq_false (by decide +kernel)
@[simp] theorem wb_most_rules : (Str.ofString "most" == Str.ofString "rules") = false := by decide +kernel
@[simp] theorem we_most_rules : (Str.ofString "most" = Str.ofString "rules") = False := eq_false (by decide +kernel)
@[simp] theorem wb_most_clear : (Str.ofString "most" == Str.ofString "clear") = false := by decide +kernel
@[simp] theorem we_most_clear : (Str.ofString "most" = Str.ofString "clear") = False := eq_false (by decide +kernel)
@[simp] theorem wb_most_net : (Str.ofString "most" == Str.ofString "net") = false := by decide +kernel
@[simp] theorem we_most_net : (Str.ofString "most" = Str.ofString "net") = False := eq_false (by decide +kernel)
@[simp] theorem wb_most_back : (Str.ofString "most" == Str.ofString "back") = false := by decide +kernel
@[simp] theorem we_most_back : (Str.ofString "most" = Str.ofString "back") = False := eq_false (by decide +kernel)
@[simp] theorem wb_most_lay : (Str.ofString "most" == Str.ofString "lay") = false := by decide +kernel
@[simp] theorem we_most_lay : (Str.ofString "most" = Str.ofString "lay") = False := eq_false (by decide +kernel)
@[simp] theorem wb_most_play : (Str.ofString "most" == Str.ofString "play") = false := by decide +kernel
@[simp] theorem we_most_play : (Str.ofString "most" = Str.ofString "play") = False := eq_false (by decide +kernel)
@[simp] theorem wb_most_cost : (Str.ofString "most" == Str.ofString "cost") = false := by decide +kernel
@[simp] theorem we_most_cost : (Str.ofString "most" = Str.ofString "cost") = False := eq_false (by decide +kernel)
@[simp] theorem wb_most_steps : (Str.ofString "most" == Str.ofString "steps") = false := by decide +kernel
@[simp] theorem we_most_steps : (Str.ofString "most" = Str.ofString "steps") = False := eq_false (by decide +kernel)
@[simp] theorem wb_most_put : (Str.ofString "most" == Str.ofString "put") = false := by decide +kernel
@[simp] theorem we_most_put : (Str.ofString "most" = Str.ofString "put") = False := eq_false (by decide +kernel)
@[simp] theorem wb_most_take : (Str.ofString "most" == Str.ofString "take") = false := by decide +kernel
@[simp] theorem we_most_take : (Str.ofString "most" = Str.ofString "take") = False := eq_false (by decide +kernel)
@[simp] theorem wb_most_slide : (Str.ofString "most" == Str.ofString "slide") = false := by decide +kernel
@[simp] theorem we_most_slide : (Str.ofString "most" = Str.ofString "slide") = False := eq_false (by decide +kernel)
@[simp] theorem wb_most_least : (Str.ofString "most" == Str.ofString "least") = false := by decide +kernel
@[simp] theorem we_most_least : (Str.ofString "most" = Str.ofString "least") = False := eq_false (by decide +kernel)
@[simp] theorem wb_most_beneath : (Str.ofString "most" == Str.ofString "beneath") = false := by decide +kernel
@[simp] theorem we_most_beneath : (Str.ofString "most" = Str.ofString "beneath") = False := eq_false (by decide +kernel)
@[simp] theorem wb_most_open : (Str.ofString "most" == Str.ofString "open") = false := by decide +kernel
@[simp] theorem we_most_open : (Str.ofString "most" = Str.ofString "open") = False := eq_false (by decide +kernel)
@[simp] theorem wb_most_order : (Str.ofString "most" == Str.ofString "order") = false := by decide +kernel
@[simp] theorem we_most_order : (Str.ofString "most" = Str.ofString "order") = False := eq_false (by decide +kernel)
@[simp] theorem wb_most_bargain : (Str.ofString "most" == Str.ofString "bargain") = false := by decide +kernel
@[simp] theorem we_most_bargain : (Str.ofString "most" = Str.ofString "bargain") = False := eq_false (by decide +kernel)
@[simp] theorem wb_most_none : (Str.ofString "most" == Str.ofString "none") = false := by decide +kernel
@[simp] theorem we_most_none : (Str.ofString "most" = Str.ofString "none") = False := eq_false (by decide +kernel)
@[simp] theorem wb_most_ok : (Str.ofString "most" == Str.ofString "ok") = false := by decide +kernel
@[simp] theorem we_most_ok : (Str.ofString "most" = Str.ofString "ok") = False := eq_false (by decide +kernel)
@[simp] theorem wb_steps_spot : (Str.ofString "steps" == Str.ofString "spot") = false := by decide +kernel
@[simp] theorem we_steps_spot : (Str.ofString "steps" = Str.ofString "spot") = False := eq_false (by decide +kernel)
@[simp] theorem wb_steps_rules : (Str.ofString "steps" == Str.ofString "rules") = false := by decide +kernel
@[simp] theorem we_steps_rules : (Str.ofString "steps" = Str.ofString "rules") = False := eq_false (by decide +kernel)
@[simp] theorem wb_steps_clear : (Str.ofString "steps" == Str.ofString "clear") = false := by decide +kernel
@[simp] theorem we_steps_clear : (Str.ofString "steps" = Str.ofString "clear") = False := eq_false (by decide +kernel)
@[simp] theorem wb_steps_net : (Str.ofString "steps" == Str.ofString "net") = false := by decide +kernel
@[simp] theorem we_steps_net : (Str.ofString "steps" = Str.ofString "net") = False := eq_false (by decide +kernel)
@[simp] theorem wb_steps_back : (Str.ofString "steps" == Str.ofString "back") = false := by decide +kernel
@[simp] theorem we_steps_back : (Str.ofString "steps" = Str.ofString "back") = False := eq_false (by decide +kernel)
@[simp] theorem wb_steps_lay : (Str.ofString "steps" == Str.ofString "lay") = false := by decide +kernel
@[simp] theorem we_steps_lay : (Str.ofString "steps" = Str.ofString "lay") = False := eq_false (by decide +kernel)
@[simp] theorem wb_steps_play : (Str.ofString "steps" == Str.ofString "play") = false := by decide +kernel
@[simp] theorem we_steps_play : (Str.ofString "steps" = Str.ofString "play") = False := eq_false (by decide +kernel)
@[simp] theorem wb_steps_cost : (Str.ofString "steps" == Str.ofString "cost") = false := by decide +kernel
@[simp] theorem we_steps_cost : (Str.ofString "steps" = Str.ofString "cost") = False := eq_false (by decide +kernel)
@[simp] theorem wb_steps_most : (Str.ofString "steps" == Str.ofString "most") = false := by decide +kernel
@[simp] theorem we_steps_most : (Str.ofString "steps" = Str.ofString "most") = False := eq_false (by decide +kernel)
@[simp] theorem wb_steps_put : (Str.ofString "steps" == Str.ofString "put") = false := by decide +kernel
@[simp] theorem we_steps_put : (Str.ofString "steps" = Str.ofString "put") = False := eq_false (by decide +kernel)
@[simp] theorem wb_steps_take : (Str.ofString "steps" == Str.ofString "take") = false := by decide +kernel
@[simp] theorem we_steps_take : (Str.ofString "steps" = Str.ofString "take") = False := eq_false (by decide +kernel)
@[simp] theorem wb_steps_slide : (Str.ofString "steps" == Str.ofString "slide") = false := by decide +kernel
@[simp] theorem we_steps_slide : (Str.ofString "steps" = Str.ofString "slide") = False := eq_false (by decide +kernel)
@[simp] theorem wb_steps_least : (Str.ofString "steps" == Str.ofString "least") = false := by decide +kernel
@[simp] theorem we_steps_least : (Str.ofString "steps" = Str.ofString "least") = False := eq_false (by decide +kernel)
@[simp] theorem wb_steps_beneath : (Str.ofString "steps" == Str.ofString "beneath") = false := by decide +kernel
@[simp] theorem we_steps_beneath : (Str.ofString "steps" = Str.ofString "beneath") = False := eq_false (by decide +kernel)
@[simp] theorem wb_steps_open : (Str.ofString "steps" == Str.ofString "open") = false := by decide +kernel
@[simp] theorem we_steps_open : (Str.ofString "steps" = Str.ofString "open") = False := eq_false (by decide +kernel)
@[simp] theorem wb_steps_order : (Str.ofString "steps" == Str.ofString "order") = false := by decide +kernel
@[simp] theorem we_steps_order : (Str.ofString "steps" = Str.ofString "order") = False := eq_false (by decide +kernel)
@[simp] theorem wb_steps_bargain : (Str.ofString "steps" == Str.ofString "bargain") = false := by decide +kernel
@[simp] theorem we_steps_bargain : (Str.ofString "steps" = Str.ofString "bargain") = False := eq_false (by decide +kernel)
@[simp] theorem wb_steps_none : (Str.ofString "steps" == Str.ofString "none") = false := by decide +kernel
@[simp] theorem we_steps_none : (Str.ofString "steps" = Str.ofString "none") = False := eq_false (by decide +kernel)
@[simp] theorem wb_steps_ok : (Str.ofString "steps" == Str.ofString "ok") = false := by decide +kernel
@[simp] theorem we_steps_ok : (Str.ofString "steps" = Str.ofString "ok") = False := eq_false (by decide +kernel)
@[simp] theorem wb_put_spot : (Str.ofString "put" == Str.ofString "spot") = false := by decide +kernel
@[simp] theorem we_put_spot : (Str.ofString "put" = Str.ofString "spot") = False := eq_false (by decide +kernel)
@[simp] theorem wb_put_rules : (Str.ofString "put" == Str.ofString "rules") = false := by decide +kernel
@[simp] theorem we_put_rules : (Str.ofString "put" = Str.ofString "rules") = False := eq_false (by decide +kernel)
@[simp] theorem wb_put_clear : (Str.ofString "put" == Str.ofString "clear") = false := by decide +kernel
@[simp] theorem we_put_clear : (Str.ofString "put" = Str.ofString "clear") = False := eq_false (by decide +kernel)
@[simp] theorem wb_put_net : (Str.ofString "put" == Str.ofString "net") = false := by decide +kernel
@[simp] theorem we_put_net : (Str.ofString "put" = Str.ofString "net") = False := eq_false (by decide +kernel)
@[simp] theorem wb_put_back : (Str.ofString "put" == Str.ofString "back") = false := by decide +kernel
@[simp] theorem we_put_back : (Str.ofString "put" = Str.ofString "back") = False := eq_false (by decide +kernel)
@[simp] theorem wb_put_lay : (Str.ofString "put" == Str.ofString "lay") = false := by decide +kernel
@[simp] theorem we_put_lay : (Str.ofString "put" = Str.ofString "lay") = False := eq_false (by decide +kernel)
@[simp] theorem wb_put_play : (Str.ofString "put" == Str.ofString "play") = false := by decide +kernel
@[simp] theorem we_put_play : (Str.ofString "put" = Str.ofString "play") = False := eq_false (by decide +kernel)
@[simp] theorem wb_put_cost : (Str.ofString "put" == Str.ofString "cost") = false := by decide +kernel
@[simp] theorem we_put_cost : (Str.ofString "put" = Str.ofString "cost") = False := eq_false (by decide +kernel)
@[simp] theorem wb_put_most : (Str.ofString "put" == Str.ofString "most") = false := by decide +kernel
@[simp] theorem we_put_most : (Str.ofString "put" = Str.ofString "most") = False := eq_false (by decide +kernel)
@[simp] theorem wb_put_steps : (Str.ofString "put" == Str.ofString "steps") = false := by decide +kernel
@[simp] theorem we_put_steps : (Str.ofString "put" = Str.ofString "steps") = False := eq_false (by decide +kernel)
@[simp] theorem we_put_take : (Str.ofString "put" = Str.ofString "take") = False := eq_false (by decide +kernel)
@[simp] theorem we_put_slide : (Str.ofString "put" = Str.ofString "slide") = False := eq_false (by decide +kernel)
@[simp] theorem wb_put_least : (Str.ofString "put" == Str.ofString "least") = false := by decide +kernel
@[simp] theorem we_put_least : (Str.ofString "put" = Str.ofString "least") = False := eq_false (by decide +kernel)
@[simp] theorem wb_put_beneath : (Str.ofString "put" == Str.ofString "beneath") = false := by decide +kernel
@[simp] theorem we_put_beneath : (Str.ofString "put" = Str.ofString "beneath") = False := eq_false (by decide +kernel)
@[simp] theorem wb_put_open : (Str.ofString "put" == Str.ofString "open") = false := by decide +kernel
@[simp] theorem we_put_open : (Str.ofString "put" = Str.ofString "open") = False := eq_false (by decide +kernel)
@[simp] theorem wb_put_order : (Str.ofString "put" == Str.ofString "order") = false := by decide +kernel
@[simp] theorem we_put_order : (Str.ofString "put" = Str.ofString "order") = False := eq_false (by decide +kernel)
@[simp] theorem wb_put_bargain : (Str.ofString "put" == Str.ofString "bargain") = false := by decide +kernel
@[simp] theorem we_put_bargain : (Str.ofString "put" = Str.ofString "bargain") = False := eq_false (by decide +kernel)
@[simp] theorem wb_put_none : (Str.ofString "put" == Str.ofString "none") = false := by decide +kernel
@[simp] theorem we_put_none : (Str.ofString "put" = Str.ofString "none") = False := eq_false (by decide +kernel)
@[simp] theorem wb_put_ok : (Str.ofString "put" == Str.ofString "ok") = false := by decide +kernel
@[simp] theorem we_put_ok : (Str.ofString "put" = Str.ofString "ok") = False := eq_false (by decide +kernel)
@[simp] theorem wb_take_spot : (Str.ofString "take" == Str.ofString "spot") = false := by decide +kernel
@[simp] theorem we_take_spot : (Str.ofString "take" = Str.ofString "spot") = False := eq_false (by decide +kernel)
@[simp] theorem wb_take_rules : (Str.ofString "take" == Str.ofString "rules") = false := by decide +kernel
@[simp] theorem we_take_rules : (Str.ofString "take" = Str.ofString "rules") = False := eq_false (by decide +kernel)
@[simp] theorem wb_take_clear : (Str.ofString "take" == Str.ofString "clear") = false := by decide +kernel
@[simp] theorem we_take_clear : (Str.ofString "take" = Str.ofString "clear") = False := eq_false (by decide +kernel)
@[simp] theorem wb_take_net : (Str.ofString "take" == Str.ofString "net") = false := by decide +kernel
@[simp] theorem we_take_net : (Str.ofString "take" = Str.ofString "net") = False := eq_false (by decide +kernel)
@[simp] theorem wb_take_back : (Str.ofString "take" == Str.ofString "back") = false := by decide +kernel
@[simp] theorem we_take_back : (Str.ofString "take" = Str.ofString "back") = False := eq_false (by decide +kernel)
@[simp] theorem wb_take_lay : (Str.ofString "take" == Str.ofString "lay") = false := by decide +kernel
@[simp] theorem we_take_lay : (Str.ofString "take" = Str.ofString "lay") = False := eq_false (by decide +kernel)
@[simp] theorem wb_take_play : (Str.ofString "take" == Str.ofString "play") = false := by decide +kernel
@[simp] theorem we_take_play : (Str.ofString "take" = Str.ofString "play") = False := eq_false (by decide +kernel)
@[simp] theorem wb_take_cost : (Str.ofString "take" == Str.ofString "cost") = false := by decide +kernel
@[simp] theorem we_take_cost : (Str.ofString "take" = Str.ofString "cost") = False := eq_false (by decide +kernel)
@[simp] theorem wb_take_most : (Str.ofString "take" == Str.ofString "most") = false := by decide +kernel
@[simp] theorem we_take_most : (Str.ofString "take" = Str.ofString "most") = False := eq_false (by decide +kernel)
@[simp] theorem wb_take_steps : (Str.ofString "take" == Str.ofString "steps") = false := by decide +kernel
@[simp] theorem we_take_steps : (Str.ofString "take" = Str.ofString "steps") = False := eq_false (by decide +kernel)
@[simp] theorem we_take_put : (Str.ofString "take" = Str.ofString "put") = False := eq_false (by decide +kernel)
@[simp] theorem we_take_slide : (Str.ofString "take" = Str.ofString "slide") = False := eq_false (by decide +kernel)
@[simp] theorem wb_take_least : (Str.ofString "take" == Str.ofString "least") = false := by decide +kernel
@[simp] theorem we_take_least : (Str.ofString "take" = Str.ofString "least") = False := eq_false (by decide +kernel)
@[simp] theorem wb_take_beneath : (Str.ofString "take" == Str.ofString "beneath") = false := by decide +kernel
@[simp] theorem we_take_beneath : (Str.ofString "take" = Str.ofString "beneath") = False := eq_false (by decide +kernel)
@[simp] theorem wb_take_open : (Str.ofString "take" == Str.ofString "open") = false := by decide +kernel
@[simp] theorem we_take_open : (Str.ofString "take" = Str.ofString "open") = False := eq_false (by decide +kernel)
@[simp] theorem wb_take_order : (Str.ofString "take" == Str.ofString "order") = false := by decide +kernel
@[simp] theorem we_take_order : (Str.ofString "take" = Str.ofString "order") = False := eq_false (by decide +kernel)
@[simp] theorem wb_take_bargain : (Str.ofString "take" == Str.ofString "bargain") = false := by decide +kernel
@[simp] theorem we_take_bargain : (Str.ofString "take" = Str.ofString "bargain") = False := eq_false (by decide +kernel)
@[simp] theorem wb_take_none : (Str.ofString "take" == Str.ofString "none") = false := by decide +kernel
@[simp] theorem we_take_none : (Str.ofString "take" = Str.ofString "none") = False := eq_false (by decide +kernel)
@[simp] theorem wb_take_ok : (Str.ofString "take" == Str.ofString "ok") = false := by decide +kernel
@[simp] theorem we_take_ok : (Str.ofString "take" = Str.ofString "ok") = False := eq_false (by decide +kernel)
@[simp] theorem wb_slide_spot : (Str.ofString "slide" == Str.ofString "spot") = false := by decide +kernel
@[simp] theorem we_slide_spot : (Str.ofString "slide" = Str.ofString "spot") = False := eq_false (by decide +kernel)
@[simp] theorem wb_slide_rules : (Str.ofString "slide" == Str.ofString "rules") = false := by decide +kernel
@[simp] theorem we_slide_rules : (Str.ofString "slide" = Str.ofString "rules") = False := eq_false (by decide +kernel)
@[simp] theorem wb_slide_clear : (Str.ofString "slide" == Str.ofString "clear") = false := by decide +kernel
@[simp] theorem we_slide_clear : (Str.ofString "slide" = Str.ofString "clear") = False := eq_false (by decide +kernel)
@[simp] theorem wb_slide_net : (Str.ofString "slide" == Str.ofString "net") = false := by decide +kernel
@[simp] theorem we_slide_net : (Str.ofString "slide" = Str.ofString "net") = False := eq_false (by decide +kernel)
@[simp] theorem wb_slide_back : (Str.ofString "slide" == Str.ofString "back") = false := by decide +kernel
@[simp] theorem we_slide_back : (Str.ofString "slide" = Str.ofString "back") = False := eq_false (by decide +kernel)
@[simp] theorem wb_slide_lay : (Str.ofString "slide" == Str.ofString "lay") = false := by decide +kernel
@[simp] theorem we_slide_lay : (Str.ofString "slide" = Str.ofString "lay") = False := eq_false (by decide +kernel)
@[simp] theorem wb_slide_play : (Str.ofString "slide" == Str.ofString "play") = false := by decide +kernel
@[simp] theorem we_slide_play : (Str.ofString "slide" = Str.ofString "play") = False := eq_false (by decide +kernel)
@[simp] theorem wb_slide_cost : (Str.ofString "slide" == Str.ofString "cost") = false := by decide +kernel
@[simp] theorem we_slide_cost : (Str.ofString "slide" = Str.ofString "cost") = False := eq_false (by decide +kernel)
@[simp] theorem wb_slide_most : (Str.ofString "slide" == Str.ofString "most") = false := by decide +kernel
@[simp] theorem we_slide_most : (Str.ofString "slide" = Str.ofString "most") = False := eq_false (by decide +kernel)
@[simp] theorem wb_slide_steps : (Str.ofString "slide" == Str.ofString "steps") = false := by decide +kernel
@[simp] theorem we_slide_steps : (Str.ofString "slide" = Str.ofString "steps") = False := eq_false (by decide +kernel)
@[simp] theorem we_slide_put : (Str.ofString "slide" = Str.ofString "put") = False := eq_false (by decide +kernel)
@[simp] theorem we_slide_take : (Str.ofString "slide" = Str.ofString "take") = False := eq_false (by decide +kernel)
@[simp] theorem wb_slide_least : (Str.ofString "slide" == Str.ofString "least") = false := by decide +kernel
@[simp] theorem we_slide_least : (Str.ofString "slide" = Str.ofString "least") = False := eq_false (by decide +kernel)
@[simp] theorem wb_slide_beneath : (Str.ofString "slide" == Str.ofString "beneath") = false := by decide +kernel
@[simp] theorem we_slide_beneath : (Str.ofString "slide" = Str.ofString "beneath") = False := eq_false (by decide +kernel)
@[simp] theorem wb_slide_open : (Str.ofString "slide" == Str.ofString "open") = false := by decide +kernel
@[simp] theorem we_slide_open : (Str.ofString "slide" = Str.ofString "open") = False := eq_false (by decide +kernel)
@[simp] theorem wb_slide_order : (Str.ofString "slide" == Str.ofString "order") = false := by decide +kernel
@[simp] theorem we_slide_order : (Str.ofString "slide" = Str.ofString "order") = False := eq_false (by decide +kernel)
@[simp] theorem wb_slide_bargain : (Str.ofString "slide" == Str.ofString "bargain") = false := by decide +kernel
@[simp] theorem we_slide_bargain : (Str.ofString "slide" = Str.ofString "bargain") = False := eq_false (by decide +kernel)
@[simp] theorem wb_slide_none : (Str.ofString "slide" == Str.ofString "none") = false := by decide +kernel
@[simp] theorem we_slide_none : (Str.ofString "slide" = Str.ofString "none") = False := eq_false (by decide +kernel)
@[simp] theorem wb_slide_ok : (Str.ofString "slide" == Str.ofString "ok") = false := by decide +kernel
@[simp] theorem we_slide_ok : (Str.ofString "slide" = Str.ofString "ok") = False := eq_false (by decide +kernel)
@[simp] theorem wb_least_spot : (Str.ofString "least" == Str.ofString "spot") = false := by decide +kernel
@[simp] theorem we_least_spot : (Str.ofString "least" = Str.ofString "spot") = False := eq_false (by decide +kernel)
@[simp] theorem wb_least_rules : (Str.ofString "least" == Str.ofString "rules") = false := by decide +kernel
@[simp] theorem we_least_rules : (Str.ofString "least" = Str.ofString "rules") = False := eq_false (by decide +kernel)
@[simp] theorem wb_least_clear : (Str.ofString "least" == Str.ofString "clear") = false := by decide +kernel
@[simp] theorem we_least_clear : (Str.ofString "least" = Str.ofString "clear") = False := eq_false (by decide +kernel)
@[simp] theorem wb_least_net : (Str.ofString "least" == Str.ofString "net") = false := by decide +kernel
@[simp] theorem we_least_net : (Str.ofString "least" = Str.ofString "net") = False := eq_false (by decide +kernel)
@[simp] theorem wb_least_back : (Str.ofString "least" == Str.ofString "back") = false := by decide +kernel
@[simp] theorem we_least_back : (Str.ofString "least" = Str.ofString "back") = False := eq_false (by decide +kernel)
@[simp] theorem wb_least_lay : (Str.ofString "least" == Str.ofString "lay") = false := by decide +kernel
@[simp] theorem we_least_lay : (Str.ofString "least" = Str.ofString "lay") = False := eq_false (by decide +kernel)
@[simp] theorem wb_least_play : (Str.ofString "least" == Str.ofString "play") = false := by decide +kernel
@[simp] theorem we_least_play : (Str.ofString "least" = Str.ofString "play") = False := eq_false (by decide +kernel)
@[simp] theorem wb_least_cost : (Str.ofString "least" == Str.ofString "cost") = false := by decide +kernel
@[simp] theorem we_least_cost : (Str.ofString "least" = Str.ofString "cost") = False := eq_false (by decide +kernel)
@[simp] theorem wb_least_most : (Str.ofString "least" == Str.ofString "most") = false := by decide +kernel
@[simp] theorem we_least_most : (Str.ofString "least" = Str.ofString "most") = False := eq_false (by decide +kernel)
@[simp] theorem wb_least_steps : (Str.ofString "least" == Str.ofString "steps") = false := by decide +kernel
@[simp] theorem we_least_steps : (Str.ofString "least" = Str.ofString "steps") = False := eq_false (by decide +kernel)
@[simp] theorem wb_least_put : (Str.ofString "least" == Str.ofString "put") = false := by decide +kernel
@[simp] theorem we_least_put : (Str.ofString "least" = Str.ofString "put") = False := eq_false (by decide +kernel)
@[simp] theorem wb_least_take : (Str.ofString "least" == Str.ofString "take") = false := by decide +kernel
@[simp] theorem we_least_take : (Str.ofString "least" = Str.ofString "take") = False := eq_false (by decide +kernel)
@[simp] theorem wb_least_slide : (Str.ofString "least" == Str.ofString "slide") = false := by decide +kernel
@[simp] theorem we_least_slide : (Str.ofString "least" = Str.ofString "slide") = False := eq_false (by decide +kernel)
@[simp] theorem wb_least_beneath : (Str.ofString "least" == Str.ofString "beneath") = false := by decide +kernel
@[simp] theorem we_least_beneath : (Str.ofString "least" = Str.ofString "beneath") = False := eq_false (by decide +kernel)
@[simp] theorem wb_least_open : (Str.ofString "least" == Str.ofString "open") = false := by decide +kernel
@[simp] theorem we_least_open : (Str.ofString "least" = Str.ofString "open") = False := eq_false (by decide +kernel)
@[simp] theorem wb_least_order : (Str.ofString "least" == Str.ofString "order") = false := by decide +kernel
@[simp] theorem we_least_order : (Str.ofString "least" = Str.ofString "order") = False := eq_false (by decide +kernel)
@[simp] theorem wb_least_bargain : (Str.ofString "least" == Str.ofString "bargain") = false := by decide +kernel
@[simp] theorem we_least_bargain : (Str.ofString "least" = Str.ofString "bargain") = False := eq_false (by decide +kernel)
@[simp] theorem wb_least_none : (Str.ofString "least" == Str.ofString "none") = false := by decide +kernel
@[simp] theorem we_least_none : (Str.ofString "least" = Str.ofString "none") = False := eq_false (by decide +kernel)
@[simp] theorem wb_least_ok : (Str.ofString "least" == Str.ofString "ok") = false := by decide +kernel
@[simp] theorem we_least_ok : (Str.ofString "least" = Str.ofString "ok") = False := eq_false (by decide +kernel)
@[simp] theorem wb_beneath_spot : (Str.ofString "beneath" == Str.ofString "spot") = false := by decide +kernel
@[simp] theorem we_beneath_spot : (Str.ofString "beneath" = Str.ofString "spot") = False := eq_false (by decide +kernel)
@[simp] theorem wb_beneath_rules : (Str.ofString "beneath" == Str.ofString "rules") = false := by decide +kernel
@[simp] theorem we_beneath_rules : (Str.ofString "beneath" = Str.ofString "rules") = False := eq_false (by decide +kernel)
@[simp] theorem wb_beneath_clear : (Str.ofString "beneath" == Str.ofString "clear") = false := by decide +kernel
@[simp] theorem we_beneath_clear : (Str.ofString "beneath" = Str.ofString "clear") = False := eq_false (by decide +kernel)
@[simp] theorem wb_beneath_net : (Str.ofString "beneath" == Str.ofString "net") = false := by decide +kernel
@[simp] theorem we_beneath_net : (Str.ofString "beneath" = Str.ofString "net") = False := eq_false (by decide +kernel)
@[simp] theorem wb_beneath_back : (Str.ofString "beneath" == Str.ofString "back") = false := by decide +kernel
@[simp] theorem we_beneath_back : (Str.ofString "beneath" = Str.ofString "back") = False := eq_false (by decide +kernel)
@[simp] theorem wb_beneath_lay : (Str.ofString "beneath" == Str.ofString "lay") = false := by decide +kernel
@[simp] theorem we_beneath_lay : (Str.ofString "beneath" = Str.ofString "lay") = False := eq_false (by decide +kernel)
@[simp] theorem wb_beneath_play : (Str.ofString "beneath" == Str.ofString "play") = false := by decide +kernel
@[simp] theorem we_beneath_play : (Str.ofString "beneath" = Str.ofString "play") = False := eq_false (by decide +kernel)
@[simp] theorem wb_beneath_cost : (Str.ofString "beneath" == Str.ofString "cost") = false := by decide +kernel
@[simp] theorem we_beneath_cost : (Str.ofString "beneath" = Str.ofString "cost") = False := eq_false (by decide +kernel)
@[simp] theorem wb_beneath_most : (Str.ofString "beneath" == Str.ofString "most") = false := by decide +kernel
@[simp] theorem we_beneath_most : (Str.ofString "beneath" = Str.ofString "most") = False := eq_false (by decide +kernel)
@[simp] theorem wb_beneath_steps : (Str.ofString "beneath" == Str.ofString "steps") = false := by decide +kernel
@[simp] theorem we_beneath_steps : (Str.ofString "beneath" = Str.ofString "steps") = False := eq_false (by decide +kernel)
@[simp] theorem wb_beneath_put : (Str.ofString "beneath" == Str.ofString "put") = false := by decide +kernel
@[simp] theorem we_beneath_put : (Str.ofString "beneath" = Str.ofString "put") = False := eq_false (by decide +kernel)
@[simp] theorem wb_beneath_take : (Str.ofString "beneath" == Str.ofString "take") = false := by decide +kernel
@[simp] theorem we_beneath_take : (Str.ofString "beneath" = Str.ofString "take") = False := eq_false (by decide +kernel)
@[simp] theorem wb_beneath_slide : (Str.ofString "beneath" == Str.ofString "slide") = false := by decide +kernel
@[simp] theorem we_beneath_slide : (Str.ofString "beneath" = Str.ofString "slide") = False := eq_false (by decide +kernel)
@[simp] theorem wb_beneath_least : (Str.ofString "beneath" == Str.ofString "least") = false := by decide +kernel
@[simp] theorem we_beneath_least : (Str.ofString "beneath" = Str.ofString "least") = False := eq_false (by decide +kernel)
@[simp] theorem wb_beneath_open : (Str.ofString "beneath" == Str.ofString "open") = false := by decide +kernel
@[simp] theorem we_beneath_open : (Str.ofString "beneath" = Str.ofString "open") = False := eq_false (by decide +kernel)
@[simp] theorem wb_beneath_order : (Str.ofString "beneath" == Str.ofString "order") = false := by decide +kernel
@[simp] theorem we_beneath_order : (Str.ofString "beneath" = Str.ofString "order") = False := eq_false (by decide +kernel)
@[simp] theorem wb_beneath_bargain : (Str.ofString "beneath" == Str.ofString "bargain") = false := by decide +kernel
@[simp] theorem we_beneath_bargain : (Str.ofString "beneath" = Str.ofString "bargain") = False := eq_false (by decide +kernel)
@[simp] theorem wb_beneath_none : (Str.ofString "beneath" == Str.ofString "none") = false := by decide +kernel
@[simp] theorem we_beneath_none : (Str.ofString "beneath" = Str.ofString "none") = False := eq_false (by decide +kernel)
@[simp] theorem wb_beneath_ok : (Str.ofString "beneath" == Str.ofString "ok") = false := by decide +kernel
@[simp] theorem we_beneath_ok : (Str.ofString "beneath" = Str.ofString "ok") = False := eq_false (by decide +kernel)
@[simp] theorem wb_open_spot : (Str.ofString "open" == Str.ofString "spot") = false := by decide +kernel
@[simp] theorem we_open_spot : (Str.ofString "open" = Str.ofString "spot") = False := eq_false (by decide +kernel)
@[simp] theorem wb_open_rules : (Str.ofString "open" == Str.ofString "rules") = false := by decide +kernel
@[simp] theorem we_open_rules : (Str.ofString "open" = Str.ofString "rules") = False := eq_false (by decide +kernel)
@[simp] theorem wb_open_clear : (Str.ofString "open" == Str.ofString "clear") = false := by decide +kernel
@[simp] theorem we_open_clear : (Str.ofString "open" = Str.ofString "clear") = False := eq_false (by decide +kernel)
@[simp] theorem wb_open_net : (Str.ofString "open" == Str.ofString "net") = false := by decide +kernel
@[simp] theorem we_open_net : (Str.ofString "open" = Str.ofString "net") = False := eq_false (by decide +kernel)
@[simp] theorem wb_open_back : (Str.ofString "open" == Str.ofString "back") = false := by decide +kernel
@[simp] theorem we_open_back : (Str.ofString "open" = Str.ofString "back") = False := eq_false (by decide +kernel)
@[simp] theorem wb_open_lay : (Str.ofString "open" == Str.ofString "lay") = false := by decide +kernel
@[simp] theorem we_open_lay : (Str.ofString "open" = Str.ofString "lay") = False := eq_false (by decide +kernel)
@[simp] theorem wb_open_play : (Str.ofString "open" == Str.ofString "play") = false := by decide +kernel
@[simp] theorem we_open_play : (Str.ofString "open" = Str.ofString "play") = False := eq_false (by decide +kernel)
@[simp] theorem wb_open_cost : (Str.ofString "open" == Str.ofString "cost") = false := by decide +kernel
@[simp] theorem we_open_cost : (Str.ofString "open" = Str.ofString "cost") = False := eq_false (by decide +kernel)
@[simp] theorem wb_open_most : (Str.ofString "open" == Str.ofString "most") = false := by decide +kernel
@[simp] theorem we_open_most : (Str.ofString "open" = Str.ofString "most") = False := eq_false (by decide +kernel)
@[simp] theorem wb_open_steps : (Str.ofString "open" == Str.ofString "steps") = false := by decide +kernel
@[simp] theorem we_open_steps : (Str.ofString "open" = Str.ofString "steps") = False := eq_false (by decide +kernel)
@[simp] theorem wb_open_put : (Str.ofString "open" == Str.ofString "put") = false := by decide +kernel
@[simp] theorem we_open_put : (Str.ofString "open" = Str.ofString "put") = False := eq_false (by decide +kernel)
@[simp] theorem wb_open_take : (Str.ofString "open" == Str.ofString "take") = false := by decide +kernel
@[simp] theorem we_open_take : (Str.ofString "open" = Str.ofString "take") = False := eq_false (by decide +kernel)
@[simp] theorem wb_open_slide : (Str.ofString "open" == Str.ofString "slide") = false := by decide +kernel
@[simp] theorem we_open_slide : (Str.ofString "open" = Str.ofString "slide") = False := eq_false (by decide +kernel)
@[simp] theorem wb_open_least : (Str.ofString "open" == Str.ofString "least") = false := by decide +kernel
@[simp] theorem we_open_least : (Str.ofString "open" = Str.ofString "least") = False := eq_false (by decide +kernel)
@[simp] theorem wb_open_beneath : (Str.ofString "open" == Str.ofString "beneath") = false := by decide +kernel
@[simp] theorem we_open_beneath : (Str.ofString "open" = Str.ofString "beneath") = False := eq_false (by decide +kernel)
@[simp] theorem wb_open_order : (Str.ofString "open" == Str.ofString "order") = false := by decide +kernel
@[simp] theorem we_open_order : (Str.ofString "open" = Str.ofString "order") = False := eq_false (by decide +kernel)
@[simp] theorem wb_open_bargain : (Str.ofString "open" == Str.ofString "bargain") = false := by decide +kernel
@[simp] theorem we_open_bargain : (Str.ofString "open" = Str.ofString "bargain") = False := eq_false (by decide +kernel)
@[simp] theorem wb_open_none : (Str.ofString "open" == Str.ofString "none") = false := by decide +kernel
@[simp] theorem we_open_none : (Str.ofString "open" = Str.ofString "none") = False := eq_false (by decide +kernel)
@[simp] theorem wb_open_ok : (Str.ofString "open" == Str.ofString "ok") = false := by decide +kernel
@[simp] theorem we_open_ok : (Str.ofString "open" = Str.ofString "ok") = False := eq_false (by decide +kernel)
@[simp] theorem wb_order_spot : (Str.ofString "order" == Str.ofString "spot") = false := by decide +kernel
@[simp] theorem we_order_spot : (Str.ofString "order" = Str.ofString "spot") = False := eq_false (by decide +kernel)
@[simp] theorem wb_order_rules : (Str.ofString "order" == Str.ofString "rules") = false := by decide +kernel
@[simp] theorem we_order_rules : (Str.ofString "order" = Str.ofString "rules") = False := eq_false (by decide +kernel)
@[simp] theorem wb_order_clear : (Str.ofString "order" == Str.ofString "clear") = false := by decide +kernel
@[simp] theorem we_order_clear : (Str.ofString "order" = Str.ofString "clear") = False := eq_false (by decide +kernel)
@[simp] theorem wb_order_net : (Str.ofString "order" == Str.ofString "net") = false := by decide +kernel
@[simp] theorem we_order_net : (Str.ofString "order" = Str.ofString "net") = False := eq_false (by decide +kernel)
@[simp] theorem wb_order_back : (Str.ofString "order" == Str.ofString "back") = false := by decide +kernel
@[simp] theorem we_order_back : (Str.ofString "order" = Str.ofString "back") = False := eq_false (by decide +kernel)
@[simp] theorem wb_order_lay : (Str.ofString "order" == Str.ofString "lay") = false := by decide +kernel
@[simp] theorem we_order_lay : (Str.ofString "order" = Str.ofString "lay") = False := eq_false (by decide +kernel)
@[simp] theorem wb_order_play : (Str.ofString "order" == Str.ofString "play") = false := by decide +kernel
@[simp] theorem we_order_play : (Str.ofString "order" = Str.ofString "play") = False := eq_false (by decide +kernel)
@[simp] theorem wb_order_cost : (Str.ofString "order" == Str.ofString "cost") = false := by decide +kernel
@[simp] theorem we_order_cost : (Str.ofString "order" = Str.ofString "cost") = False := eq_false (by decide +kernel)
@[simp] theorem wb_order_most : (Str.ofString "order" == Str.ofString "most") = false := by decide +kernel
@[simp] theorem we_order_most : (Str.ofString "order" = Str.ofString "most") = False := eq_false (by decide +kernel)
@[simp] theorem wb_order_steps : (Str.ofString "order" == Str.ofString "steps") = false := by decide +kernel
@[simp] theorem we_order_steps : (Str.ofString "order" = Str.ofString "steps") = False := eq_false (by decide +kernel)
@[simp] theorem wb_order_put : (Str.ofString "order" == Str.ofString "put") = false := by decide +kernel
@[simp] theorem we_order_put : (Str.ofString "order" = Str.ofString "put") = False := eq_false (by decide +kernel)
@[simp] theorem wb_order_take : (Str.ofString "order" == Str.ofString "take") = false := by decide +kernel
@[simp] theorem we_order_take : (Str.ofString "order" = Str.ofString "take") = False := eq_false (by decide +kernel)
@[simp] theorem wb_order_slide : (Str.ofString "order" == Str.ofString "slide") = false := by decide +kernel
@[simp] theorem we_order_slide : (Str.ofString "order" = Str.ofString "slide") = False := eq_false (by decide +kernel)
@[simp] theorem wb_order_least : (Str.ofString "order" == Str.ofString "least") = false := by decide +kernel
@[simp] theorem we_order_least : (Str.ofString "order" = Str.ofString "least") = False := eq_false (by decide +kernel)
@[simp] theorem wb_order_beneath : (Str.ofString "order" == Str.ofString "beneath") = false := by decide +kernel
@[simp] theorem we_order_beneath : (Str.ofString "order" = Str.ofString "beneath") = False := eq_false (by decide +kernel)
@[simp] theorem wb_order_open : (Str.ofString "order" == Str.ofString "open") = false := by decide +kernel
@[simp] theorem we_order_open : (Str.ofString "order" = Str.ofString "open") = False := eq_false (by decide +kernel)
@[simp] theorem wb_order_bargain : (Str.ofString "order" == Str.ofString "bargain") = false := by decide +kernel
@[simp] theorem we_order_bargain : (Str.ofString "order" = Str.ofString "bargain") = False := eq_false (by decide +kernel)
@[simp] theorem wb_order_none : (Str.ofString "order" == Str.ofString "none") = false := by decide +kernel
@[simp] theorem we_order_none : (Str.ofString "order" = Str.ofString "none") = False := eq_false (by decide +kernel)
@[simp] theorem wb_order_ok : (Str.ofString "order" == Str.ofString "ok") = false := by decide +kernel
@[simp] theorem we_order_ok : (Str.ofString "order" = Str.ofString "ok") = False := eq_false (by decide +kernel)
@[simp] theorem wb_bargain_spot : (Str.ofString "bargain" == Str.ofString "spot") = false := by decide +kernel
@[simp] theorem we_bargain_spot : (Str.ofString "bargain" = Str.ofString "spot") = False := eq_false (by decide +kernel)
@[simp] theorem wb_bargain_rules : (Str.ofString "bargain" == Str.ofString "rules") = false := by decide +kernel
@[simp] theorem we_bargain_rules : (Str.ofString "bargain" = Str.ofString "rules") = False := eq_false (by decide +kernel)
@[simp] theorem wb_bargain_clear : (Str.ofString "bargain" == Str.ofString "clear") = false := by decide +kernel
@[simp] theorem we_bargain_clear : (Str.ofString "bargain" = Str.ofString "clear") = False := eq_false (by decide +kernel)
@[simp] theorem wb_bargain_net : (Str.ofString "bargain" == Str.ofString "net") = false := by decide +kernel
@[simp] theorem we_bargain_net : (Str.ofString "bargain" = Str.ofString "net") = False := eq_false (by decide +kernel)
@[simp] theorem wb_bargain_back : (Str.ofString "bargain" == Str.ofString "back") = false := by decide +kernel
@[simp] theorem we_bargain_back : (Str.ofString "bargain" = Str.ofString "back") = False := eq_false (by decide +kernel)
@[simp] theorem wb_bargain_lay : (Str.ofString "bargain" == Str.ofString "lay") = false := by decide +kernel
@[simp] theorem we_bargain_lay : (Str.ofString "bargain" = Str.ofString "lay") = False := eq_false (by decide +kernel)
@[simp] theorem wb_bargain_play : (Str.ofString "bargain" == Str.ofString "play") = false := by decide +kernel
@[simp] theorem we_bargain_play : (Str.ofString "bargain" = Str.ofString "play") = False := eq_false (by decide +kernel)
@[simp] theorem wb_bargain_cost : (Str.ofString "bargain" == Str.ofString "cost") = false := by decide +kernel
@[simp] theorem we_bargain_cost : (Str.ofString "bargain" = Str.ofString "cost") = False := eq_false (by decide +kernel)
@[simp] theorem wb_bargain_most : (Str.ofString "bargain" == Str.ofString "most") = false := by decide +kernel
@[simp] theorem we_bargain_most : (Str.ofString "bargain" = Str.ofString "most") = False := eq_false (by decide +kernel)
@[simp] theorem wb_bargain_steps : (Str.ofString "bargain" == Str.ofString "steps") = false := by decide +kernel
@[simp] theorem we_bargain_steps : (Str.ofString "bargain" = Str.ofString "steps") = False := eq_false (by decide +kernel)
@[simp] theorem wb_bargain_put : (Str.ofString "bargain" == Str.ofString "put") = false := by decide +kernel
@[simp] theorem we_bargain_put : (Str.ofString "bargain" = Str.ofString "put") = False := eq_false (by decide +kernel)
@[simp] theorem wb_bargain_take : (Str.ofString "bargain" == Str.ofString "take") = false := by decide +kernel
@[simp] theorem we_bargain_take : (Str.ofString "bargain" = Str.ofString "take") = False := eq_false (by decide +kernel)
@[simp] theorem wb_bargain_slide : (Str.ofString "bargain" == Str.ofString "slide") = false := by decide +kernel
@[simp] theorem we_bargain_slide : (Str.ofString "bargain" = Str.ofString "slide") = False := eq_false (by decide +kernel)
@[simp] theorem wb_bargain_least : (Str.ofString "bargain" == Str.ofString "least") = false := by decide +kernel
@[simp] theorem we_bargain_least : (Str.ofString "bargain" = Str.ofString "least") = False := eq_false (by decide +kernel)
@[simp] theorem wb_bargain_beneath : (Str.ofString "bargain" == Str.ofString "beneath") = false := by decide +kernel
@[simp] theorem we_bargain_beneath : (Str.ofString "bargain" = Str.ofString "beneath") = False := eq_false (by decide +kernel)
@[simp] theorem wb_bargain_open : (Str.ofString "bargain" == Str.ofString "open") = false := by decide +kernel
@[simp] theorem we_bargain_open : (Str.ofString "bargain" = Str.ofString "open") = False := eq_false (by decide +kernel)
@[simp] theorem wb_bargain_order : (Str.ofString "bargain" == Str.ofString "order") = false := by decide +kernel
@[simp] theorem we_bargain_order : (Str.ofString "bargain" = Str.ofString "order") = False := eq_false (by decide +kernel)
@[simp] theorem wb_bargain_none : (Str.ofString "bargain" == Str.ofString "none") = false := by decide +kernel
@[simp] theorem we_bargain_none : (Str.ofString "bargain" = Str.ofString "none") = False := eq_false (by decide +kernel)
@[simp] theorem wb_bargain_ok : (Str.ofString "bargain" == Str.ofString "ok") = false := by decide +kernel
@[simp] theorem we_bargain_ok : (Str.ofString "bargain" = Str.ofString "ok") = False := eq_false (by decide +kernel)
@[simp] theorem wb_none_spot : (Str.ofString "none" == Str.ofString "spot") = false := by decide +kernel
@[simp] theorem we_none_spot : (Str.ofString "none" = Str.ofString "spot") = False := eq_false (by decide +kernel)
@[simp] theorem wb_none_rules : (Str.ofString "none" == Str.ofString "rules") = false := by decide +kernel
@[simp] theorem we_none_rules : (Str.ofString "none" = Str.ofString "rules") = False := eq_false (by decide +kernel)
@[simp] theorem wb_none_clear : (Str.ofString "none" == Str.ofString "clear") = false := by decide +kernel
@[simp] theorem we_none_clear : (Str.ofString "none" = Str.ofString "clear") = False := eq_false (by decide +kernel)
@[simp] theorem wb_none_net : (Str.ofString "none" == Str.ofString "net") = false := by decide +kernel
@[simp] theorem we_none_net : (Str.ofString "none" = Str.ofString "net") = False := eq_false (by decide +kernel)
@[simp] theorem wb_none_back : (Str.ofString "none" == Str.ofString "back") = false := by decide +kernel
@[simp] theorem we_none_back : (Str.ofString "none" = Str.ofString "back") = False := eq_false (by decide +kernel)
@[simp] theorem wb_none_lay : (Str.ofString "none" == Str.ofString "lay") = false := by decide +kernel
@[simp] theorem we_none_lay : (Str.ofString "none" = Str.ofString "lay") = False := eq_false (by decide +kernel)
@[simp] theorem wb_none_play : (Str.ofString "none" == Str.ofString "play") = false := by decide +kernel
@[simp] theorem we_none_play : (Str.ofString "none" = Str.ofString "play") = False := eq_false (by decide +kernel)
@[simp] theorem wb_none_cost : (Str.ofString "none" == Str.ofString "cost") = false := by decide +kernel
@[simp] theorem we_none_cost : (Str.ofString "none" = Str.ofString "cost") = False := eq_false (by decide +kernel)
@[simp] theorem wb_none_most : (Str.ofString "none" == Str.ofString "most") = false := by decide +kernel
@[simp] theorem we_none_most : (Str.ofString "none" = Str.ofString "most") = False := eq_false (by decide +kernel)
@[simp] theorem wb_none_steps : (Str.ofString "none" == Str.ofString "steps") = false := by decide +kernel
@[simp] theorem we_none_steps : (Str.ofString "none" = Str.ofString "steps") = False := eq_false (by decide +kernel)
@[simp] theorem wb_none_put : (Str.ofString "none" == Str.ofString "put") = false := by decide +kernel
@[simp] theorem we_none_put : (Str.ofString "none" = Str.ofString "put") = False := eq_false (by decide +kernel)
@[simp] theorem wb_none_take : (Str.ofString "none" == Str.ofString "take") = false := by decide +kernel
@[simp] theorem we_none_take : (Str.ofString "none" = Str.ofString "take") = False := eq_false (by decide +kernel)
@[simp] theorem wb_none_slide : (Str.ofString "none" == Str.ofString "slide") = false := by decide +kernel
@[simp] theorem we_none_slide : (Str.ofString "none" = Str.ofString "slide") = False := eq_false (by decide +kernel)
@[simp] theorem wb_none_least : (Str.ofString "none" == Str.ofString "least") = false := by decide +kernel
@[simp] theorem we_none_least : (Str.ofString "none" = Str.ofString "least") = False := eq_false (by decide +kernel)
@[simp] theorem wb_none_beneath : (Str.ofString "none" == Str.ofString "beneath") = false := by decide +kernel
@[simp] theorem we_none_beneath : (Str.ofString "none" = Str.ofString "beneath") = False := eq_false (by decide +kernel)
@[simp] theorem wb_none_open : (Str.ofString "none" == Str.ofString "open") = false := by decide +kernel
@[simp] theorem we_none_open : (Str.ofString "none" = Str.ofString "open") = False := eq_false (by decide +kernel)
@[simp] theorem wb_none_order : (Str.ofString "none" == Str.ofString "order") = false := by decide +kernel
@[simp] theorem we_none_order : (Str.ofString "none" = Str.ofString "order") = False := eq_false (by decide +kernel)
@[simp] theorem wb_none_bargain : (Str.ofString "none" == Str.ofString "bargain") = false := by decide +kernel
@[simp] theorem we_none_bargain : (Str.ofString "none" = Str.ofString "bargain") = False := eq_false (by decide +kernel)
@[simp] theorem wb_none_ok : (Str.ofString "none" == Str.ofString "ok") = false := by decide +kernel
@[simp] theorem we_none_ok : (Str.ofString "none" = Str.ofString "ok") = False := eq_false (by decide +kernel)
@[simp] theorem wb_ok_spot : (Str.ofString "ok" == Str.ofString "spot") = false := by decide +kernel
@[simp] theorem we_ok_spot : (Str.ofString "ok" = Str.ofString "spot") = False := eq_false (by decide +kernel)
@[simp] theorem wb_ok_rules : (Str.ofString "ok" == Str.ofString "rules") = false := by decide +kernel
@[simp] theorem we_ok_rules : (Str.ofString "ok" = Str.ofString "rules") = False := eq_false (by decide +kernel)
@[simp] theorem wb_ok_clear : (Str.ofString "ok" == Str.ofString "clear") = false := by decide +kernel
@[simp] theorem we_ok_clear : (Str.ofString "ok" = Str.ofString "clear") = False := eq_false (by decide +kernel)
@[simp] theorem wb_ok_net : (Str.ofString "ok" == Str.ofString "net") = false := by decide +kernel
@[simp] theorem we_ok_net : (Str.ofString "ok" = Str.ofString "net") = False := eq_false (by decide +kernel)
@[simp] theorem wb_ok_back : (Str.ofString "ok" == Str.ofString "back") = false := by decide +kernel
@[simp] theorem we_ok_back : (Str.ofString "ok" = Str.ofString "back") = False := eq_false (by decide +kernel)
@[simp] theorem wb_ok_lay : (Str.ofString "ok" == Str.ofString "lay") = false := by decide +kernel
@[simp] theorem we_ok_lay : (Str.ofString "ok" = Str.ofString "lay") = False := eq_false (by decide +kernel)
@[simp] theorem wb_ok_play : (Str.ofString "ok" == Str.ofString "play") = false := by decide +kernel
@[simp] theorem we_ok_play : (Str.ofString "ok" = Str.ofString "play") = False := eq_false (by decide +kernel)
@[simp] theorem wb_ok_cost : (Str.ofString "ok" == Str.ofString "cost") = false := by decide +kernel
@[simp] theorem we_ok_cost : (Str.ofString "ok" = Str.ofString "cost") = False := eq_false (by decide +kernel)
@[simp] theorem wb_ok_most : (Str.ofString "ok" == Str.ofString "most") = false := by decide +kernel
@[simp] theorem we_ok_most : (Str.ofString "ok" = Str.ofString "most") = False := eq_false (by decide +kernel)
@[simp] theorem wb_ok_steps : (Str.ofString "ok" == Str.ofString "steps") = false := by decide +kernel
@[simp] theorem we_ok_steps : (Str.ofString "ok" = Str.ofString "steps") = False := eq_false (by decide +kernel)
@[simp] theorem wb_ok_put : (Str.ofString "ok" == Str.ofString "put") = false := by decide +kernel
@[simp] theorem we_ok_put : (Str.ofString "ok" = Str.ofString "put") = False := eq_false (by decide +kernel)
@[simp] theorem wb_ok_take : (Str.ofString "ok" == Str.ofString "take") = false := by decide +kernel
@[simp] theorem we_ok_take : (Str.ofString "ok" = Str.ofString "take") = False := eq_false (by decide +kernel)
@[simp] theorem wb_ok_slide : (Str.ofString "ok" == Str.ofString "slide") = false := by decide +kernel
@[simp] theorem we_ok_slide : (Str.ofString "ok" = Str.ofString "slide") = False := eq_false (by decide +kernel)
@[simp] theorem wb_ok_least : (Str.ofString "ok" == Str.ofString "least") = false := by decide +kernel
@[simp] theorem we_ok_least : (Str.ofString "ok" = Str.ofString "least") = False := eq_false (by decide +kernel)
@[simp] theorem wb_ok_beneath : (Str.ofString "ok" == Str.ofString "beneath") = false := by decide +kernel
@[simp] theorem we_ok_beneath : (Str.ofString "ok" = Str.ofString "beneath") = False := eq_false (by decide +kernel)
@[simp] theorem wb_ok_open : (Str.ofString "ok" == Str.ofString "open") = false := by decide +kernel
@[simp] theorem we_ok_open : (Str.ofString "ok" = Str.ofString "open") = False := eq_false (by decide +kernel)
@[simp] theorem wb_ok_order : (Str.ofString "ok" == Str.ofString "order") = false := by decide +kernel
@[simp] theorem we_ok_order : (Str.ofString "ok" = Str.ofString "order") = False := eq_false (by decide +kernel)
@[simp] theorem wb_ok_bargain : (Str.ofString "ok" == Str.ofString "bargain") = false := by decide +kernel
@[simp] theorem we_ok_bargain : (Str.ofString "ok" = Str.ofString "bargain") = False := eq_false (by decide +kernel)
@[simp] theorem wb_ok_none : (Str.ofString "ok" == Str.ofString "none") = false := by decide +kernel
@[simp] theorem we_ok_none : (Str.ofString "ok" = Str.ofString "none") = False := eq_false (by decide +kernel)
theorem w_sp : ∀ w ∈ ([Str.ofString "spot", Str.ofString "rules", Str.ofString "clear", Str.ofString "net", Str.ofString "back", Str.ofString "lay", Str.ofString "play", Str.ofString "cost", Str.ofString "most", Str.ofString "steps", Str.ofString "put", Str.ofString "take", Str.ofString "slide", Str.ofString "least", Str.ofString "beneath", Str.ofString "open", Str.ofString "order", Str.ofString "bargain", Str.ofString "none", Str.ofString "ok"] : List Str), 32 ∉ TL.tl w ∧ w.length ≤ 10 := by decide +kernel
end DL

namespace DL
open PySem
abbrev dk (n r s : PyData) : PyData := .dict [(.none, .tuple [n, r, s])]
@[simp] theorem ev_callJ (m : Fj) (i : Nat) (os : List Opd) (env : Cs) : cCallJ m i os env = match (gC i env).read with
    | none => .no
    | some _ => (evs os env).bind fun ls env1 => match nows ls with
      | none => .no
      | some ds => match gC i env1 with
        | .own b d => match m d ds with
          | .ok c d' => .ok c (env1.set i (.own b d'))
          | .ex x d' => .ex x (env1.set i (.own b d'))
          | .no => .no
        | _ => .no := by
  unfold cCallJ; rw [getD_gC]
  cases (gC i env).read with
  | none => rfl
  | some d =>
    dsimp only
    congr 1; funext ls env1
    cases nows ls with
    | none => rfl
    | some ds => dsimp only; rw [getD_gC] <;> cases gC i env1 <;> rfl
@[simp] theorem isIns_dk (b : Bool) (ds : List PyData) : isIns (.own b (.dict [(.none, .tuple ds)])) = true := rfl
@[simp] theorem ev_methJ (m : Fj) (i : Nat) (os : List Opd) (env : Cs) : cMethJ m i os env = match isIns (gC i env) with
    | true => cCallJ m i os env
    | false => .no := by
  unfold cMethJ; rw [getD_gC] <;> cases isIns (gC i env) <;> rfl
def fldC (k : Nat) : Cell → Option PyData
  | .own _ (.dict [(.none, .tuple ds)]) => ds[k]?
  | _ => none
@[simp] theorem fldC_own (k : Nat) (b : Bool) (ds : List PyData) : fldC k (.own b (.dict [(.none, .tuple ds)])) = ds[k]? := rfl
@[simp] theorem ev_fld (i k : Nat) (env : Cs) : cFld i k env = match fldC k (gC i env) with
    | some d => .ok (.frz d) env
    | none => .no := by
  unfold cFld; rw [getD_gC]
  generalize gC i env = c
  cases c with
  | own b d => cases d with
    | dict kvs =>
      rcases kvs with _ | ⟨⟨k0, v0⟩, r⟩
      · rfl
      · cases k0 <;> cases v0 <;> cases r <;> rfl
    | _ => rfl
  | _ => rfl
def putC (k : Nat) (dv : PyData) : Cell → Option Cell
  | .own b (.dict [(.none, .tuple ds)]) => match decide (k < 3) && decide (k ≤ ds.length) with
    | true => some (.own b (.dict [(.none, .tuple (if k < ds.length then ds.set k dv else ds ++ [dv]))]))
    | false => none
  | _ => none
@[simp] theorem putC_n (b : Bool) (n r s d : PyData) : putC 0 d (.own b (dk n r s)) = some (.own b (dk d r s)) := rfl
@[simp] theorem putC_r (b : Bool) (n r s d : PyData) : putC 1 d (.own b (dk n r s)) = some (.own b (dk n d s)) := rfl
@[simp] theorem putC_s (b : Bool) (n r s d : PyData) : putC 2 d (.own b (dk n r s)) = some (.own b (dk n r d)) := rfl
@[simp] theorem putC_0 (b : Bool) (d : PyData) : putC 0 d (.own b (.dict [(.none, .tuple [])])) = some (.own b (.dict [(.none, .tuple [d])])) := rfl
@[simp] theorem putC_1 (b : Bool) (n d : PyData) : putC 1 d (.own b (.dict [(.none, .tuple [n])])) = some (.own b (.dict [(.none, .tuple [n, d])])) := rfl
@[simp] theorem putC_2 (b : Bool) (n r d : PyData) : putC 2 d (.own b (.dict [(.none, .tuple [n, r])])) = some (.own b (dk n r d)) := rfl
@[simp] theorem ev_setF (i k : Nat) (c : CE) (env : Cs) : cSetF i k c env = match c env with
    | .ok c1 env1 => match c1.val with
      | some dv => match putC k dv (gC i env1) with
        | some c2 => .nx (env1.set i c2)
        | none => .no
      | none => .no
    | .ex x env1 => .ex x env1
    | .no => .no := by
  unfold cSetF
  cases c env with
  | ok c1 env1 =>
    dsimp only
    cases c1.val with
    | none => rfl
    | some dv =>
      rw [getD_gC]
      dsimp only
      unfold putC
      split
      · rename_i dv2 b ds e1 e2
        cases e1
        rw [e2]
        dsimp only
        cases decide (k < 3) && decide (k ≤ ds.length) <;> rfl
      · rename_i h
        split
        · rename_i h2
          split at h2
          · rename_i b ds e2
            exact (h _ b ds rfl e2).elim
          · cases h2
        · rfl
  | ex x env1 => rfl
  | no => rfl
@[simp] theorem ev_make (m : Fj) (env : Cs) : cMake m env = match m (.dict [(.none, .tuple [])]) [] with
    | .ok (.frz .none) d => .ok (.own false d) env
    | _ => .no := rfl
@[simp] theorem ev_inG (xs : List Str) (o : Opd) (env : Cs) : cInG xs o env = (o.ev env).bind fun l env1 => match l.get env1 with
    | some (.str x) => .ok (.frz (.bool (xs.contains x))) env1
    | _ => .no := rfl
@[simp] theorem ev_iStr (c : CE) (env : Cs) : iStrC c env = (c env).bind fun c env1 => match c with
    | .frz (.str x) => match decide (x.cps.size ≤ 1000000) with
      | true => .ok (signsD x) env1
      | false => .no
    | _ => .no := rfl
@[simp] theorem ev_fz (c : CE) (env : Cs) : cFz c env = (c env).bind fun c env1 => match c.val with
    | some d => .ok (.frz d) env1
    | none => .no := rfl
structure RKJ (K : KS) (R : Cell → PyData → Prop) (E : Exc → PyData → Prop) : Prop where
  nx : ∀ e d, gC 0 e = .own true d → R (.frz .none) d → K.nx e
  rt : ∀ c e d, gC 0 e = .own true d → R c.out d → K.rt c e
  ex : ∀ x e d, gC 0 e = .own true d → E x d → K.ex x e
theorem runJ_gen {n : Nat} {c : CS} {d : PyData} {ds : List PyData} {R : Cell → PyData → Prop} {E : Exc → PyData → Prop} (h : ∀ K, RKJ K R E → (c (.own true d :: ds.map .frz ++ emps (n - (ds.length + 1)))).sat K) :
    (∃ r d', runDefJ n c d ds = .ok r d' ∧ R r d') ∨ ∃ x d', runDefJ n c d ds = .ex x d' ∧ E x d' := by
  have h := h ⟨fun e => ∃ d, gC 0 e = .own true d ∧ R (.frz .none) d, fun c e => ∃ d, gC 0 e = .own true d ∧ R c.out d, fun _ => False, fun _ => False, fun x e => ∃ d, gC 0 e = .own true d ∧ E x d⟩
    ⟨fun e d a b => ⟨d, a, b⟩, fun c e d a b => ⟨d, a, b⟩, fun x e d a b => ⟨d, a, b⟩⟩
  unfold runDefJ
  cases g : c (.own true d :: ds.map .frz ++ emps (n - (ds.length + 1))) with
  | nx e => rw [g] at h; obtain ⟨d', h1, h2⟩ := h; dsimp only; rw [getD_gC, h1]; exact .inl ⟨_, _, rfl, h2⟩
  | rt c e => rw [g] at h; obtain ⟨d', h1, h2⟩ := h; dsimp only; rw [getD_gC, h1]; exact .inl ⟨_, _, rfl, h2⟩
  | ex x e => rw [g] at h; obtain ⟨d', h1, h2⟩ := h; dsimp only; rw [getD_gC, h1]; exact .inr ⟨_, _, rfl, h2⟩
  | _ => rw [g] at h; exact h.elim
theorem runJ_of {n : Nat} {c : CS} {d : PyData} {ds : List PyData} {r : Cell} {d' : PyData} (h : ∀ K, RKJ K (fun c x => c = r ∧ x = d') (fun _ _ => False) → (c (.own true d :: ds.map .frz ++ emps (n - (ds.length + 1)))).sat K) : runDefJ n c d ds = .ok r d' := by
  rcases runJ_gen h with ⟨r1, d1, e, rfl, rfl⟩ | ⟨x, d1, e, z⟩
  · exact e
  · exact z.elim
end DL

namespace DL
open PySem L2
def c_need_stones_v2 : CS := (cSeq (cDrop (cCall m_need_goal [(.nm 0), (.nm 1), (.nm 3)]))
    (cIfS (cOrT (cNotT (toT (cCall m_is_whole [(.nm 2)]))) (cNotT (toT (cChain oLe oLe (.ex (cK (.int 0))) (.nm 2) (.ex (cK (.int 10))))))) (cRaise "NoStones") cNext))
def m_need_stones_v2 : Fn := runDef 4 c_need_stones_v2
def c_least_cost_v2 : CS := (cSeq (cDrop (cCall m_need_stones_v2 [(.nm 0), (.nm 1), (.nm 2), (.nm 3)]))
    (cSeq (cSet 4 (cCall m_spread [(.nm 0), (.nm 2), (.nm 3)]))
    (cSeq (cSet 5 (cCall m_cheapest [(.nm 4), (.nm 1)]))
    (cSeq (cIfS (toT (cOp2 oIsN (.nm 5) (.ex (cK .none)))) (cRet (cK .none)) cNext)
    (cRet (cOp2 oIx (.ex (cOp2 oIxT (.nm 4) (.nm 5))) (.ex (cK (.int 0)))))))))
def m_least_cost_v2 : Fn := runDef 6 c_least_cost_v2
def c_bargain_v2 : CS := (cSeq (cSet 3 (cCall m_least_stones [(.nm 0), (.nm 1), (.nm 2)]))
    (cSeq (cSet 4 (cLst [(.ex (cTup [(.ex (cVar 3)), (.ex (cCall m_least_cost_v2 [(.nm 0), (.nm 1), (.nm 3), (.nm 2)]))]))]))
    (cSeq (whileL (toT (cOp2 oGt (.ex (cOp2 oIx (.ex (cOp2 oIx (.nm 4) (.ex (cNeg (.ex (cK (.int 1))))))) (.ex (cK (.int 1))))) (.ex (cCall m_enough_cost [(.nm 0), (.nm 1)])))) (cSeq (cSet 3 (cOp2 oAdd (.nm 3) (.ex (cK (.int 1)))))
    (cDrop (cMethT "list" mAppend 4 [(.ex (cTup [(.ex (cVar 3)), (.ex (cCall m_least_cost_v2 [(.nm 0), (.nm 1), (.nm 3), (.nm 2)]))]))]))) 100000)
    (cRet (cMove 4)))))
def m_bargain_v2 : Fn := runDef 5 c_bargain_v2
def c_number_in_v2 : CS := (cSeq (cIfS (cOrT (cNotT (toT (cChain oLe oLe (.ex (cK (.int 1))) (.ex (cOpN oLen [(.nm 0)])) (.ex (cK (.int 4)))))) (cAndT (toT (cOp2 oGt (.ex (cOpN oLen [(.nm 0)])) (.ex (cK (.int 1))))) (toT (cOp2 oEq (.ex (cOp2 oIx (.nm 0) (.ex (cK (.int 0))))) (.ex (cK (.str "0"))))))) (cRaise "NoRow") cNext)
    (cSeq (cFor (.one 1) (iStrC (cVar 0)) (cIfS (toT (cOp2 oNotInStr (.nm 1) (.ex (cK (.str "0123456789"))))) (cRaise "NoRow") cNext))
    (cRet (cOpN oIntS [(.nm 0)]))))
def m_number_in_v2 : Fn := runDef 2 c_number_in_v2
def c_spots_text : CS := (cSeq (cIfS (toT (cOp2 oEq (.ex (cOpN oLen [(.nm 0)])) (.ex (cK (.int 0))))) (cRet (cK (.str "none"))) cNext)
    (cRet (cJoin " " (.ex (cCompO 0 (.one 1) tYesC (cOpN oStr [(.nm 1)]) [1])))))
def m_spots_text : Fn := runDef 2 c_spots_text
def c_steps_text : CS := (cSeq (cIfS (toT (cOp2 oEq (.nm 0) (.ex (cLst [])))) (cRet (cK (.str "none"))) cNext)
    (cRet (cJoin "; " (.ex (cCompO 0 (.one 2) tYesC (cJoin " " (.ex (cCompO 2 (.one 1) tYesC (cOpN oStrA [(.nm 1)]) [1]))) [2])))))
def m_steps_text : Fn := runDef 3 c_steps_text
def c_Desk___init__ : CS := (cSeq (cSetF 0 0 (cTup []))
    (cSeq (cSetF 0 1 (cK (.str "plain")))
    (cSetF 0 2 (cLst []))))
def m_Desk___init__ : Fj := runDefJ 1 c_Desk___init__
def c_Desk_begun : CS := (cSeq (cSetF 0 2 (cLst []))
    (cRet (cMove 1)))
def m_Desk_begun : Fj := runDefJ 2 c_Desk_begun
def c_Desk_need_spots : CS := (cSeq (cIfS (toT (cOp2 oEq (.ex (cFld 0 0)) (.ex (cTup [])))) (cRaise "NoNet") cNext)
    (cForO 1 (.one 2) (cIfS (toT (cOp2 oGe (.nm 2) (.ex (cOpN oLen [(.ex (cFld 0 0))])))) (cRaise "NoSpot") cNext)))
def m_Desk_need_spots : Fj := runDefJ 3 c_Desk_need_spots
def c_Desk_spot_more : CS := (cSeq (cIfS (cNotT (toT (cCall m_is_rising [(.nm 1), (.ex (cOpN oLen [(.ex (cFld 0 0))]))]))) (cRaise "NoSpot") cNext)
    (cSeq (cIfS (toT (cOp2 oEq (.ex (cOpN oLen [(.ex (cFld 0 0))])) (.ex (cK (.int 10))))) (cRaise "NoNet") cNext)
    (cSeq (cSetF 0 0 (cOp2 oAdd (.ex (cFld 0 0)) (.ex (cTup [(.ex (cOpN oTuple [(.nm 1)]))]))))
    (cRet (cMethJ m_Desk_begun 0 [(.ex (cOpN oStr [(.ex (cOp2 oSub (.ex (cOpN oLen [(.ex (cFld 0 0))])) (.ex (cK (.int 1)))))]))])))))
def m_Desk_spot_more : Fj := runDefJ 2 c_Desk_spot_more
def c_Desk_lay : CS := (cRet (cOp2 oIx (.ex (cCall m_lays_of [(.ex (cFld 0 0)), (.ex (cFld 0 2)), (.ex (cFld 0 1))])) (.ex (cNeg (.ex (cK (.int 1)))))))
def m_Desk_lay : Fj := runDefJ 1 c_Desk_lay
def c_Desk_stepped : CS := (cSeq (cDrop (cMethJ m_Desk_need_spots 0 [(.ex (cSl (.nm 1) (.some (.ex (cK (.int 1)))) .none))]))
    (cSeq (cSet 2 (cCall m_led [(.ex (cFld 0 0)), (.ex (cMethJ m_Desk_lay 0 [])), (.nm 1), (.ex (cFld 0 1))]))
    (cSeq (cSetF 0 2 (cOp2 oAdd (.ex (cFld 0 2)) (.ex (cLst [(.ex (cVar 1))]))))
    (cRet (cCall m_spots_text [(.nm 2)])))))
def m_Desk_stepped : Fj := runDefJ 3 c_Desk_stepped
def c_Desk_taken_back : CS := (cSeq (cIfS (toT (cOp2 oEq (.ex (cFld 0 2)) (.ex (cLst [])))) (cRaise "NoStep") cNext)
    (cSeq (cSetF 0 2 (cSl (.ex (cFld 0 2)) .none (.some (.ex (cNeg (.ex (cK (.int 1))))))))
    (cRet (cCall m_spots_text [(.ex (cMethJ m_Desk_lay 0 []))]))))
def m_Desk_taken_back : Fj := runDefJ 1 c_Desk_taken_back
def c_Desk_told : CS := (cSeq (cIfS (toT (cOp2 oEq (.nm 1) (.ex (cK (.str "lay"))))) (cRet (cCall m_spots_text [(.ex (cMethJ m_Desk_lay 0 []))])) cNext)
    (cSeq (cIfS (toT (cOp2 oEq (.nm 1) (.ex (cK (.str "play"))))) (cRet (cCall m_steps_text [(.ex (cFld 0 2))])) cNext)
    (cSeq (cIfS (toT (cOp2 oEq (.nm 1) (.ex (cK (.str "cost"))))) (cRet (cOpN oStr [(.ex (cCall m_cost_of [(.ex (cFld 0 0)), (.ex (cFld 0 2)), (.ex (cFld 0 1))]))])) cNext)
    (cSeq (cIfS (toT (cOp2 oEq (.nm 1) (.ex (cK (.str "most"))))) (cRet (cOpN oStr [(.ex (cOpN oMax [(.ex (cComp (.one 2) (iSeq (cCall m_lays_of [(.ex (cFld 0 0)), (.ex (cFld 0 2)), (.ex (cFld 0 1))])) tYesC (cOpN oLen [(.nm 2)]) [2]))]))])) cNext)
    (cRet (cCall m_steps_text [(.ex (cCall m_steps_from [(.ex (cFld 0 0)), (.ex (cMethJ m_Desk_lay 0 [])), (.ex (cFld 0 1))]))]))))))
def m_Desk_told : Fj := runDefJ 3 c_Desk_told
def c_Desk_plain_said : CS := (cSeq (cIfS (toT (cOp2 oEq (.nm 1) (.ex (cK (.str "clear"))))) (cSeq (cSetF 0 0 (cTup []))
    (cRet (cMethJ m_Desk_begun 0 [(.ex (cK (.str "0")))]))) cNext)
    (cSeq (cIfS (toT (cOp2 oEq (.nm 1) (.ex (cK (.str "net"))))) (cRet (cIf (toT (cOp2 oEq (.ex (cFld 0 0)) (.ex (cTup [])))) (cK (.str "none")) (cJoin "; " (.ex (cSplit "\n" (.ex (cCall m_show_net [(.ex (cFld 0 0))]))))))) cNext)
    (cSeq (cIfS (toT (cOp2 (oIn true) (.nm 1) (.ex (cTup [(.ex (cK (.str "back"))), (.ex (cK (.str "lay"))), (.ex (cK (.str "play"))), (.ex (cK (.str "cost"))), (.ex (cK (.str "most"))), (.ex (cK (.str "steps")))])))) (cRaise "NoRow") cNext)
    (cSeq (cDrop (cMethJ m_Desk_need_spots 0 [(.ex (cLst []))]))
    (cSeq (cIfS (toT (cOp2 oEq (.nm 1) (.ex (cK (.str "back"))))) (cRet (cMethJ m_Desk_taken_back 0 [])) cNext)
    (cRet (cMethJ m_Desk_told 0 [(.ex (cVar 1))])))))))
def m_Desk_plain_said : Fj := runDefJ 2 c_Desk_plain_said
def c_Desk_asked : CS := (cSeq (cIfS (toT (cOp2 oEq (.nm 1) (.ex (cK (.str "beneath"))))) (cRet (cCall m_spots_text [(.ex (cCall m_beneath [(.ex (cFld 0 0)), (.nm 2)]))])) cNext)
    (cSeq (cIfS (toT (cOp2 oEq (.nm 1) (.ex (cK (.str "least"))))) (cRet (cOpN oStr [(.ex (cCall m_least_stones [(.ex (cFld 0 0)), (.nm 2), (.ex (cFld 0 1))]))])) cNext)
    (cSeq (cIfS (toT (cOp2 oEq (.nm 1) (.ex (cK (.str "open"))))) (cSeq (cSet 3 (cCall m_open_way [(.ex (cFld 0 0)), (.ex (cMethJ m_Desk_lay 0 [])), (.nm 2)]))
    (cRet (cIf (toT (cOp2 oIsN (.nm 3) (.ex (cK .none)))) (cK (.str "blocked")) (cCall m_spots_text [(.nm 3)])))) cNext)
    (cSeq (cIfS (toT (cOp2 oEq (.nm 1) (.ex (cK (.str "order"))))) (cRet (cOpN oStr [(.ex (cCall m_order_stones [(.ex (cFld 0 0)), (.nm 2)]))])) cNext)
    (cSeq (cSet 4 (cLst []))
    (cSeq (cFor (.many [5, 6]) (iSeq (cCall m_bargain_v2 [(.ex (cFld 0 0)), (.nm 2), (.ex (cFld 0 1))])) (cDrop (cMethT "list" mExtend 4 [(.ex (cLst [(.ex (cVar 5)), (.ex (cVar 6))]))])))
    (cRet (cCall m_spots_text [(.nm 4)]))))))))
def m_Desk_asked : Fj := runDefJ 7 c_Desk_asked
def c_Desk_least_with : CS := (cSeq (cDrop (cMethJ m_Desk_need_spots 0 [(.ex (cLst [(.ex (cVar 1))]))]))
    (cSeq (cIfS (toT (cOp2 oGt (.nm 2) (.ex (cK (.int 10))))) (cRaise "NoStones") cNext)
    (cSeq (cSet 3 (cCall m_least_cost_v2 [(.ex (cFld 0 0)), (.nm 1), (.nm 2), (.ex (cFld 0 1))]))
    (cRet (cIf (toT (cOp2 oIsN (.nm 3) (.ex (cK .none)))) (cK (.str "never")) (cOpN oStr [(.nm 3)]))))))
def m_Desk_least_with : Fj := runDefJ 4 c_Desk_least_with
def c_Desk_say : CS := (cSeq (cIfS (cNotT (toT (cIsi "str" (.nm 1)))) (cRaise "NoRow") cNext)
    (cSeq (cSet 2 (cSplit " " (.nm 1)))
    (cSeq (cSet 3 (cOp2 oIx (.nm 2) (.ex (cK (.int 0)))))
    (cSeq (cIfS (cAndT (toT (cOp2 oEq (.nm 3) (.ex (cK (.str "rules"))))) (cAndT (toT (cOp2 oEq (.ex (cOpN oLen [(.nm 2)])) (.ex (cK (.int 2))))) (toT (cInG ["plain", "slide", "careful"] (.ex (cOp2 oIx (.nm 2) (.ex (cK (.int 1))))))))) (cSeq (cSetF 0 1 (cOp2 oIx (.nm 2) (.ex (cK (.int 1)))))
    (cRet (cMethJ m_Desk_begun 0 [(.ex (cK (.str "ok")))]))) cNext)
    (cSeq (cIfS (cAndT (toT (cOp2 oEq (.ex (cOpN oLen [(.nm 2)])) (.ex (cK (.int 1))))) (toT (cOp2 oNe (.nm 3) (.ex (cK (.str "spot")))))) (cRet (cMethJ m_Desk_plain_said 0 [(.ex (cVar 3))])) cNext)
    (cSeq (cSet 4 (cComp (.one 5) (iSeq (cSl (.nm 2) (.some (.ex (cK (.int 1)))) .none)) tYesC (cCall m_number_in_v2 [(.nm 5)]) [5]))
    (cSeq (cIfS (toT (cOp2 oEq (.nm 3) (.ex (cK (.str "spot"))))) (cRet (cMethJ m_Desk_spot_more 0 [(.ex (cVar 4))])) cNext)
    (cSeq (cIfS (cOrT (cAndT (toT (cOp2 (oIn false) (.nm 3) (.ex (cTup [(.ex (cK (.str "put"))), (.ex (cK (.str "take")))])))) (toT (cOp2 oEq (.ex (cOpN oLen [(.nm 4)])) (.ex (cK (.int 1)))))) (cAndT (toT (cOp2 oEq (.nm 3) (.ex (cK (.str "slide"))))) (toT (cOp2 oEq (.ex (cOpN oLen [(.nm 4)])) (.ex (cK (.int 2))))))) (cRet (cMethJ m_Desk_stepped 0 [(.ex (cOpN oTuple [(.ex (cOp2 oAdd (.ex (cLst [(.ex (cVar 3))])) (.nm 4)))]))])) cNext)
    (cSeq (cIfS (cAndT (toT (cOp2 oEq (.nm 3) (.ex (cK (.str "least"))))) (toT (cOp2 oEq (.ex (cOpN oLen [(.nm 4)])) (.ex (cK (.int 2)))))) (cRet (cMethJ m_Desk_least_with 0 [(.ex (cOp2 oIx (.nm 4) (.ex (cK (.int 0))))), (.ex (cOp2 oIx (.nm 4) (.ex (cK (.int 1)))))])) cNext)
    (cSeq (cIfS (cOrT (toT (cOp2 (oIn true) (.nm 3) (.ex (cTup [(.ex (cK (.str "beneath"))), (.ex (cK (.str "least"))), (.ex (cK (.str "open"))), (.ex (cK (.str "order"))), (.ex (cK (.str "bargain")))])))) (toT (cOp2 oNe (.ex (cOpN oLen [(.nm 4)])) (.ex (cK (.int 1)))))) (cRaise "NoRow") cNext)
    (cSeq (cDrop (cMethJ m_Desk_need_spots 0 [(.ex (cVar 4))]))
    (cRet (cMethJ m_Desk_asked 0 [(.ex (cVar 3)), (.ex (cOp2 oIx (.nm 4) (.ex (cK (.int 0)))))])))))))))))))
def m_Desk_say : Fj := runDefJ 6 c_Desk_say
def c__law_said : CS := (cTry 2 hmPlaces (cRet (cMethJ m_Desk_say 0 [(.ex (cVar 1))])))
def m__law_said : Fj := runDefJ 4 c__law_said
def c__law_spots : CS := (cSeq (cIfS (toT (cOp2 oEq (.ex (cOpN oLen [(.nm 0)])) (.ex (cK (.int 0))))) (cRet (cK (.str "none"))) cNext)
    (cRet (cJoin " " (.ex (cCompO 0 (.one 1) tYesC (cOpN oStr [(.nm 1)]) [1])))))
def m__law_spots : Fn := runDef 2 c__law_spots
def c__law_steps_text : CS := (cSeq (cIfS (toT (cOp2 oEq (.nm 0) (.ex (cLst [])))) (cRet (cK (.str "none"))) cNext)
    (cRet (cJoin "; " (.ex (cCompO 0 (.one 2) tYesC (cJoin " " (.ex (cCompO 2 (.one 1) tYesC (cOpN oStrA [(.nm 1)]) [1]))) [2])))))
def m__law_steps_text : Fn := runDef 3 c__law_steps_text

open TL
def netT (net : List (List Nat)) : PyData := netD net
def dskD (net : List (List Nat)) (r : Rul) (play : List Stp) : PyData := dk (netD net) (ruD r) (.list (play.map stD))
@[simp] theorem isIns_dsk (b : Bool) (net : List (List Nat)) (r : Rul) (p : List Stp) : isIns (.own b (dskD net r p)) = true := rfl
@[simp] theorem ev_begun (n r s a : PyData) : m_Desk_begun (dk n r s) [a] = .ok (.frz a) (dk n r (.list [])) := by
  apply runJ_of; intro K kk
  simp [c_Desk_begun]
  exact kk.rt _ _ _ rfl ⟨rfl, rfl⟩
theorem rise_iff : ∀ (l : List Nat) (a b : Int), risingD (l.map nD) a b = true ↔ (∀ n ∈ l, a < (n : Int)) ∧ l.Pairwise (· < ·) ∧ ∀ n ∈ l, (n : Int) < b
  | [], _, _ => by simp [risingD]
  | x :: l, a, b => by
    have ih := rise_iff l x b
    constructor
    · intro h
      have h : (decide (a < (x : Int)) && decide ((x : Int) < b) && risingD (l.map nD) x b) = true := h
      rw [Bool.and_eq_true, Bool.and_eq_true, decide_eq_true_eq, decide_eq_true_eq] at h
      obtain ⟨⟨h1, h2⟩, h3⟩ := h
      obtain ⟨i1, i2, i3⟩ := ih.mp h3
      refine ⟨fun n hn => ?_, ?_, fun n hn => ?_⟩
      · rcases List.mem_cons.mp hn with rfl | hn
        · exact h1
        · have := i1 n hn; omega
      · rw [List.pairwise_cons]; exact ⟨fun n hn => by have := i1 n hn; omega, i2⟩
      · rcases List.mem_cons.mp hn with rfl | hn
        · exact h2
        · exact i3 n hn
    · rintro ⟨h1, h2, h3⟩
      exact rising_nD (x :: l) a b h1 h2 h3
def okNeeds (l : List Nat) (n : Nat) : Bool := risingD (l.map nD) (-1) n
theorem okNeeds_iff (l : List Nat) (n : Nat) : okNeeds l n = true ↔ l.Pairwise (· < ·) ∧ ∀ x ∈ l, x < n := by
  unfold okNeeds
  rw [rise_iff]
  constructor
  · rintro ⟨_, h2, h3⟩; exact ⟨h2, fun x hx => by have := h3 x hx; omega⟩
  · rintro ⟨h2, h3⟩; exact ⟨fun x _ => by omega, h2, fun x hx => by have := h3 x hx; omega⟩
structure NetZ (net : List (List Nat)) : Prop where
  ok : NetOk net
  ten : net.length ≤ 10
theorem NetV.z {net : List (List Nat)} (h : NetV net) : NetZ net := ⟨h.ok, h.ten⟩
theorem NetZ.v {net : List (List Nat)} (h : NetZ net) (n : net ≠ []) : NetV net := ⟨h.ok, List.length_pos_iff.mpr n, h.ten⟩
theorem NetZ.nil : NetZ [] := ⟨NetOk.nil, by simp⟩
theorem NetZ.snoc {net : List (List Nat)} {l : List Nat} (h : NetZ net) (hl : okNeeds l net.length = true) (hn : net.length ≠ 10) : NetZ (net ++ [l]) := by
  obtain ⟨h1, h2⟩ := (okNeeds_iff _ _).mp hl
  exact ⟨h.ok.snoc h1 h2, by rw [List.length_append]; have := h.ten; simp; omega⟩
def rowW (ws : List Str) : Str := Txt.join (Str.ofString " ") ws
theorem oSplit_sp {a : Str} (h : a.length ≤ 1000000) : oSplit (Str.ofString " ") (.str a) = .val (.own false (.list ((Txt.split a (Str.ofString " ")).map .str))) := by
  show (if _ then _ else _) = _
  rw [if_pos ⟨h, by decide +kernel⟩]
@[simp] theorem ev_split (sep : Str) (o : Opd) (env : Cs) : cSplit sep o env = (o.ev env).bind fun l env1 => match l.get env1 with
    | some d => (oSplit sep d).fin env1
    | none => .no := rfl
@[simp] theorem at_hd (a : PyData) (ds : List PyData) : atI (a :: ds) 0 = some a := atI_nat (a :: ds) 0
@[simp] theorem at_2nd (a b : PyData) (ds : List PyData) : atI (a :: b :: ds) 1 = some b := atI_nat (a :: b :: ds) 1
def netTx (net : List (List Nat)) : Str := if net = [] then Str.ofString "none" else Txt.join (Str.ofString "; ") (rowsT net)
theorem sum_len (B : Nat) : ∀ Ts : List Str, (∀ t ∈ Ts, t.length ≤ B) → (Ts.map (·.length)).sum ≤ Ts.length * B
  | [], _ => by simp
  | t :: Ts, h => by
    have h1 := h t List.mem_cons_self
    have h2 := sum_len B Ts fun y hy => h y (List.mem_cons_of_mem _ hy)
    simp only [List.map_cons, List.sum_cons, List.length_cons, Nat.succ_mul]; omega
end DL

namespace DL
open PySem
@[simp] theorem ev_dispE (xs : List Str) (os : List Opd) (env : Cs) : cDispE xs os env = (evs os env).bind fun ls env1 => match nows ls with
  | some ds => .ok (.own false (.dict ((xs.map PyData.str).zip ds))) env1
  | none => .no := rfl
@[simp] theorem ev_upper (o : Opd) (env : Cs) : cUpper o env = (o.ev env).bind fun l env1 => match l.get env1 with
  | some d => (oUpper d).fin env1
  | none => .no := rfl
end DL

namespace DL
open PySem
end DL

namespace DL
open PySem L2 TL
def figOf (w : Str) : Option Nat := match w.cps.toList with
  | [c] => if 48 ≤ c ∧ c ≤ 57 then some (c - 48) else none
  | _ => none
theorem fig_lt {w : Str} {n : Nat} (h : figOf w = some n) : n < 10 := by
  unfold figOf at h
  split at h
  · split at h
    · cases h; omega
    · cases h
  · cases h
theorem fig_word {w : Str} {n : Nat} (h : figOf w = some n) : w = sN n := by
  have hs : ∀ n < 10, (sN n).cps.toList = [n + 48] := by decide +kernel
  have hn := fig_lt h
  unfold figOf at h
  split at h
  · rename_i c hc
    split at h
    · cases h
      apply Str.ext'
      apply Array.toList_inj.mp
      rw [hc, hs _ hn]
      congr 1; omega
    · cases h
  · cases h
def figs : Str := Str.ofString "0123456789"
theorem figs_cps : figs.cps.toList = [48, 49, 50, 51, 52, 53, 54, 55, 56, 57] := by decide +kernel
theorem in_figs (c : Nat) : oInStr (.str ⟨#[c]⟩) (.str figs) = .val (.frz (.bool (decide (48 ≤ c ∧ c ≤ 57)))) := by
  have h : (!(Builtin.Str.occurrences figs ⟨#[c]⟩ 0 figs.length 1).isEmpty) = decide (c ∈ figs.cps.toList) := StrLaws.found_one figs c
  show OR.val (.frz (.bool (!(Builtin.Str.occurrences figs ⟨#[c]⟩ 0 figs.length 1).isEmpty))) = _
  rw [h, figs_cps]
  congr 3
  have : (c ∈ ([48, 49, 50, 51, 52, 53, 54, 55, 56, 57] : List Nat)) ↔ (48 ≤ c ∧ c ≤ 57) := by simp; omega
  exact Bool.eq_iff_iff.mpr (by simp only [decide_eq_true_eq]; exact this)
def figD (w : Str) : PyData := match figOf w with
  | some n => .int (n : Nat)
  | none => .none
theorem oLen_str {w : Str} (h : w.length ≤ 100000) : oLen [.str w] = .val (.frz (.int w.length)) := by
  have hl : w.length ≤ lim := by unfold lim; omega
  show (if _ then _ else _) = _
  rw [if_pos hl]; rfl
theorem ev_numW {w : Str} (hl : w.length ≤ 100000) : m_number_in [.str w] = .ok (.frz (figD w)) := by
  unfold figD
  cases h : figOf w with
  | some n =>
    have hn := fig_lt h
    rw [fig_word h]
    exact ev_numin n hn
  | none =>
    show m_number_in [.str w] = .ok (.frz .none)
    have hz := oLen_str hl
    by_cases h1 : w.length = 1
    · obtain ⟨c, hc⟩ : ∃ c, w = ⟨#[c]⟩ := by
        obtain ⟨a⟩ := w
        obtain ⟨l⟩ := a
        match l, h1 with
        | [c], _ => exact ⟨c, rfl⟩
      subst hc
      have hno : ¬ (48 ≤ c ∧ c ≤ 57) := fun q => by
        unfold figOf at h
        simp [q] at h
      have hin := in_figs c
      rw [decide_eq_false hno] at hin
      unfold figs at hin
      apply run_of; intro K kk
      simp [c_number_in, hin, hz]
      exact kk.rt _ _ rfl
    · apply run_of; intro K kk
      simp [c_number_in, hz, show ¬ ((w.length : Int) = 1) by omega]
      exact kk.rt _ _ rfl
theorem sN_len2' : ∀ n < 1000, (sN n).length ≤ 4 := by decide +kernel
theorem oStr_nat2' {n : Nat} (h : n < 1000) : oStr [.int (n : Int)] = .val (.frz (.str (sN n))) := by
  show (if (n : Int).natAbs < 2 ^ 200 then OR.val (.frz (.str (sN n))) else .no) = _
  rw [if_pos (by rw [Int.natAbs_natCast]; exact Nat.lt_trans h (by decide))]
theorem cutD_tl' (a : PyData) (ds : List PyData) : cutD (a :: ds) (some 1) none = ds := by
  have h := cutD_map id (a :: ds) (some (1 : Int)) none
  rw [List.map_id] at h
  rw [h, List.map_id]
  exact cutL_drop (a :: ds) 1
theorem figD_scr (w : Str) : scrD (figD w) = false := by
  unfold figD
  cases figOf w <;> rfl
theorem oAdd_col {n : Nat} (hn : n < 1000) : oAdd (.str (sN n)) (.str (Str.ofString ":")) = .val (.frz (.str (sN n ++ Str.ofString ":"))) := by
  have h1 := sN_len2' n hn
  have h2 : (sN n).length + (Str.ofString ":").length ≤ lim := by
    have : (Str.ofString ":").length = 1 := by decide +kernel
    unfold lim; omega
  show (if _ then _ else _) = _
  rw [if_pos h2]
def lineB (ws : List Str) (k : Nat) : Bool := match ws with
  | [] => false
  | w :: ts => decide (w = sN k ++ Str.ofString ":") && risingD (ts.map figD) (-1) k
theorem ev_needsW {w : Str} {ts : List Str} {L : Str} {k : Nat} (hk : k < 1000) (hL : oSplit (Str.ofString " ") (.str L) = .val (.own false (.list ((w :: ts).map .str)))) (hts : ∀ t ∈ ts, t.length ≤ 100000) (hn : ts.length ≤ 100000) :
    m_needs_in [.str L, .int (k : Nat)] = .ok (.frz (if lineB (w :: ts) k = true then .tuple (ts.map figD) else .none)) := by
  have hc := comp1 (v := 4) (ci := iSeq (cSl (.nm 2) (.some (.ex (cK (.int 1)))) .none)) (ct := tYesC) (ce := cCall m_number_in [(.nm 4)])
    (env := [.frz (.str L), .frz (.int (k : Nat)), .own false (.list ((w :: ts).map .str)), .emp, .emp]) (f := PyData.str) (xs := ts) (fun _ => true) figD
    (by simp [cutD_tl']) (by simp) (by simp) (fun x hx => by simp [tYesC, ev_numW (hts x hx)])
  rw [filterT] at hc
  have hr := ev_rising (.tuple (ts.map figD)) (ts.map figD) k rfl (fun d hd => by obtain ⟨x, _, rfl⟩ := List.mem_map.mp hd; exact figD_scr x)
  have hst := oStr_nat2' (n := k) hk
  have hadd := oAdd_col hk
  have htl : (ts.map figD).length ≤ lim := by rw [List.length_map]; unfold lim; omega
  have hlb : lineB (w :: ts) k = (decide (w = sN k ++ Str.ofString ":") && risingD (ts.map figD) (-1) k) := rfl
  rw [hlb]
  generalize ts.map figD = T at *
  simp only [List.map_cons] at hL hc
  generalize ts.map PyData.str = TS at *
  by_cases hw : w = sN k ++ Str.ofString ":"
  · subst hw
    cases hrr : risingD T (-1) k with
    | true =>
      rw [hrr] at hr
      simp only [decide_true, Bool.and_self, if_true]
      apply run_of; intro K kk
      simp [c_needs_in, hL, hc, htl, hst, hadd, oNe_strs, hr]
      exact kk.rt _ _ rfl
    | false =>
      rw [hrr] at hr
      rw [if_neg (by simp)]
      apply run_of; intro K kk
      simp [c_needs_in, hL, hc, htl, hst, hadd, oNe_strs, hr]
      exact kk.rt _ _ rfl
  · rw [if_neg (by simp [hw])]
    have hwb : (w == sN k ++ Str.ofString ":") = false := beq_eq_false_iff_ne.mpr hw
    apply run_of; intro K kk
    simp [c_needs_in, hL, hc, htl, hst, hadd, oNe_strs, hwb, hw]
    exact kk.rt _ _ rfl
end DL

namespace DL
open PySem L2 TL
def c_read_net_v2 : CS := (cSeq (cIfS (cNotT (toT (cIsi "str" (.nm 0)))) (cRaiseV "NoText" (cK (.int 0))) cNext)
    (cSeq (cSet 1 (cLst []))
    (cSeq (cFor (.many [2, 3]) (iEnumC (cSplit "\n" (.nm 0))) (cSeq (cSet 4 (cCall m_needs_in [(.nm 3), (.nm 2)]))
    (cSeq (cIfS (cOrT (toT (cOp2 oIsN (.nm 4) (.ex (cK .none)))) (toT (cOp2 oEq (.nm 2) (.ex (cK (.int 10)))))) (cRaiseV "NoText" (cVar 2)) cNext)
    (cDrop (cMethT "list" mAppend 1 [(.ex (cVar 4))])))))
    (cRet (cOpN oTuple [(.nm 1)])))))
def m_read_net_v2 : Fn := runDef 5 c_read_net_v2
def c__law_bent_v2 : CS := (cSeq (cSet 2 (cSplit "\n" (.nm 1)))
    (cSeq (cSet 3 (cCallI m__law_take 0 [(.ex (cOpN oLen [(.nm 2)]))]))
    (cSeq (cSet 4 (cCallI m__law_take 0 [(.ex (cOp2 oAdd (.ex (cOpN oLen [(.nm 1)])) (.ex (cK (.int 1)))))]))
    (cSeq (cSet 5 (cOp2 oIx (.ex (cK (.str "0123456789: -\na.:0 1\n"))) (.ex (cCallI m__law_take 0 [(.ex (cK (.int 20)))]))))
    (cSeq (cSet 6 (cCallI m__law_take 0 [(.ex (cK (.int 8)))]))
    (cSeq (cSet 7 (cLst [(.ex (cK (.str ""))), (.ex (cK (.str "0"))), (.ex (cK (.str "00"))), (.ex (cK (.str "01"))), (.ex (cK (.str "-0"))), (.ex (cK (.str "-1"))), (.ex (cK (.str "10"))), (.ex (cK (.str ":"))), (.ex (cK (.str "0:"))), (.ex (cK (.str "1:"))), (.ex (cK (.str "a"))), (.ex (cK (.str "1.0"))), (.ex (cK (.str "9"))), (.ex (cK (.str "+1"))), (.ex (cK (.str "0 0"))), (.ex (cK (.str "2")))]))
    (cSeq (cIfS (toT (cOp2 oLt (.nm 6) (.ex (cK (.int 3))))) (cRet (cOp2 oAdd (.ex (cOp2 oAdd (.ex (cSl (.nm 1) .none (.some (.nm 4)))) (.ex (cOp2 oIx (.ex (cLst [(.ex (cVar 5)), (.ex (cK (.str ""))), (.ex (cVar 5))])) (.nm 6))))) (.ex (cSl (.nm 1) (.some (.ex (cOp2 oAdd (.nm 4) (.ex (cOpN oInt [(.ex (cOp2 oGt (.nm 6) (.ex (cK (.int 0)))))]))))) .none)))) cNext)
    (cSeq (cIfS (toT (cOp2 oEq (.nm 6) (.ex (cK (.int 3))))) (cRet (cJoin "\n" (.ex (cOp2 oAdd (.ex (cSl (.nm 2) .none (.some (.nm 3)))) (.ex (cSl (.nm 2) (.some (.ex (cOp2 oAdd (.nm 3) (.ex (cK (.int 1)))))) .none)))))) cNext)
    (cSeq (cIfS (toT (cOp2 oEq (.nm 6) (.ex (cK (.int 4))))) (cRet (cJoin "\n" (.ex (cOp2 oAdd (.ex (cOp2 oAdd (.ex (cSl (.nm 2) .none (.some (.nm 3)))) (.ex (cLst [(.ex (cOp2 oIx (.nm 2) (.nm 3)))])))) (.ex (cSl (.nm 2) (.some (.nm 3)) .none)))))) cNext)
    (cSeq (cIfS (toT (cOp2 oEq (.nm 6) (.ex (cK (.int 5))))) (cRet (cJoin "\n" (.ex (cOp2 oAdd (.ex (cSl (.nm 2) (.some (.nm 3)) .none)) (.ex (cSl (.nm 2) .none (.some (.nm 3)))))))) cNext)
    (cSeq (cSet 8 (cSplit " " (.ex (cOp2 oIx (.nm 2) (.nm 3)))))
    (cSeq (cSetItem sList 8 (.ex (cCallI m__law_take 0 [(.ex (cOpN oLen [(.nm 8)]))])) (cOp2 oIx (.nm 7) (.ex (cCallI m__law_take 0 [(.ex (cK (.int 16)))]))))
    (cSeq (cIfS (toT (cOp2 oEq (.nm 6) (.ex (cK (.int 6))))) (cRet (cJoin "\n" (.ex (cOp2 oAdd (.ex (cOp2 oAdd (.ex (cSl (.nm 2) .none (.some (.nm 3)))) (.ex (cLst [(.ex (cJoin " " (.nm 8)))])))) (.ex (cSl (.nm 2) (.some (.ex (cOp2 oAdd (.nm 3) (.ex (cK (.int 1)))))) .none)))))) cNext)
    (cRet (cOp2 oAdd (.nm 1) (.ex (cJoin "" (.ex (cComp (.one 9) (iArgs rg2 [(.ex (cOpN oLen [(.nm 2)])), (.ex (cK (.int 11)))]) tYesC (cOp2 oAdd (.ex (cOp2 oAdd (.ex (cK (.str "\n"))) (.ex (cOpN oStr [(.nm 9)])))) (.ex (cK (.str ":")))) [9])))))))))))))))))))
def m__law_bent_v2 : Fm := runDefI 10 c__law_bent_v2
def c__law_read : CS := (cSeq (cSet 1 (cLst []))
    (cSeq (cFor (.many [2, 3]) (iEnumC (cSplit "\n" (.nm 0))) (cSeq (cSet 4 (cSplit " " (.nm 3)))
    (cSeq (cIfS (cOrT (toT (cOp2 oGt (.nm 2) (.ex (cK (.int 9))))) (toT (cOp2 oNe (.ex (cOp2 oIx (.nm 4) (.ex (cK (.int 0))))) (.ex (cOp2 oAdd (.ex (cOpN oStr [(.nm 2)])) (.ex (cK (.str ":")))))))) (cRet (cMove 2)) cNext)
    (cSeq (cIfS (toT (cOp2 oNe (.ex (cComp (.one 5) (iSeq (cSl (.nm 4) (.some (.ex (cK (.int 1)))) .none)) (toT (cOp2 (oIn true) (.nm 5) (.ex (cLst [(.ex (cK (.str "0"))), (.ex (cK (.str "1"))), (.ex (cK (.str "2"))), (.ex (cK (.str "3"))), (.ex (cK (.str "4"))), (.ex (cK (.str "5"))), (.ex (cK (.str "6"))), (.ex (cK (.str "7"))), (.ex (cK (.str "8"))), (.ex (cK (.str "9")))])))) (cVar 5) [5])) (.ex (cLst [])))) (cRet (cMove 2)) cNext)
    (cSeq (cSet 6 (cComp (.one 5) (iSeq (cSl (.nm 4) (.some (.ex (cK (.int 1)))) .none)) tYesC (cOpN oIntS [(.nm 5)]) [5]))
    (cSeq (cIfS (cOrT (toT (cOp2 oNe (.ex (cOp1 oSortSet (.nm 6))) (.nm 6))) (toT (cOp2 oNe (.ex (cCompO 6 (.one 7) (toT (cOp2 oGe (.nm 7) (.nm 2))) (cVar 7) [7])) (.ex (cLst []))))) (cRet (cMove 2)) cNext)
    (cDrop (cMethT "list" mAppend 1 [(.ex (cOpN oTuple [(.nm 6)]))]))))))))
    (cRet (cOpN oTuple [(.nm 1)]))))
def m__law_read : Fn := runDef 8 c__law_read
def c__law_told : CS := (cSeq (cTry 2 hmT (cSet 1 (cCall m_read_net_v2 [(.nm 0)])))
    (cRet (cMove 1)))
def m__law_told : Fn := runDef 3 c__law_told
def c_law_v5 : CS := (cSeq (cFor (.one 1) (iArgs rg1 [(.ex (cOpN oMax2 [(.ex (cK (.int 1))), (.ex (cOpN oMin2 [(.ex (cOpN oLen [(.nm 0)])), (.ex (cK (.int 6)))]))]))]) (cSeq (cSet 2 (cCall m__law_box [(.nm 0), (.nm 1)]))
    (cSeq (cSet 3 (cCall m__law_text [(.ex (cCallI m__law_net 2 [(.ex (cK (.int 5)))]))]))
    (cSeq (cSet 4 (cCallI m__law_odd 2 []))
    (cSeq (cFor (.one 5) (iSeq (cLst [(.ex (cCallI m__law_bent_v2 2 [(.ex (cVar 3))])), (.ex (cCallI m__law_bent_v2 2 [(.ex (cVar 3))])), (.ex (cOp2 oAdd (.nm 3) (.ex (cK (.str "\n"))))), (.ex (cK (.str ""))), (.ex (cVar 3))])) (cSeq (cSet 6 (cCall m__law_read [(.nm 5)]))
    (cSeq (cSet 7 (cCall m__law_told [(.nm 5)]))
    (cIfS (cOrT (toT (cOp2 oNe (.ex (cIsi "tuple" (.nm 6))) (.ex (cIsi "tuple" (.nm 7))))) (toT (cOp2 oNe (.ex (cOpN oRepr [(.nm 7)])) (.ex (cOpN oRepr [(.nm 6)]))))) (cRet (cK (.bool false))) cNext))))
    (cIfS (cOrT (cAndT (cNotT (toT (cIsi "str" (.nm 4)))) (toT (cOp2 oNe (.ex (cOpN oRepr [(.ex (cCall m__law_told [(.nm 4)]))])) (.ex (cK (.str "0")))))) (toT (cOp2 oNe (.ex (cOpN oRepr [(.ex (cCall m__law_told [(.ex (cLst [(.ex (cVar 3))]))]))])) (.ex (cK (.str "0")))))) (cRet (cK (.bool false))) cNext))))))
    (cRet (cK (.bool true))))
def m_law_v5 : Fn := runDef 8 c_law_v5
@[simp] theorem ev_raiseV (x : Str) (c : CE) (env : Cs) : cRaiseV x c env = match c env with
  | .ok (.frz (.int i)) env1 => .ex ⟨x, some (.int i)⟩ env1
  | .ok _ _ => .no
  | .ex y env1 => .ex y env1
  | .no => .no := rfl
def wordsOf (L : Str) : List Str := Txt.split L (Str.ofString " ")
def scanL : List Str → Nat → List PyData → PyData
  | [], _, acc => .tuple acc
  | L :: r, k, acc => if (decide (k ≤ 9) && lineB (wordsOf L) k) = true then scanL r (k + 1) (acc ++ [.tuple ((wordsOf L).tail.map figD)]) else .int (k : Nat)
def Fine (L : Str) : Prop := L.length ≤ 900 ∧ (wordsOf L).length ≤ 1000 ∧ (∀ w ∈ wordsOf L, w.length ≤ 1000) ∧ wordsOf L ≠ []
def toldV (y : FR) (v : PyData) : Prop := match v with
  | .int k => y = .ex ⟨Str.ofString "NoText", some (.int k)⟩
  | v => y = .ok (.frz v)
theorem scan_is : ∀ (Ls : List Str) (k : Nat) (acc : List PyData), (∃ n : Nat, scanL Ls k acc = .int n) ∨ ∃ ds, scanL Ls k acc = .tuple ds
  | [], _, acc => .inr ⟨acc, rfl⟩
  | L :: r, k, acc => by
    unfold scanL
    split
    · exact scan_is r _ _
    · exact .inl ⟨k, rfl⟩
theorem read_run {R : Str} {Ls : List Str} (hR : R.length ≤ 900) (hs : oSplit (Str.ofString "\n") (.str R) = .val (.own false (.list (Ls.map .str)))) (hf : ∀ L ∈ Ls, Fine L) (hn : Ls.length ≤ 1000) : toldV (m_read_net_v2 [.str R]) (scanL Ls 0 []) := by
  refine run_gen (P := fun y => toldV y (scanL Ls 0 [])) fun K kk => ?_
  simp [c_read_net_v2, hs, enumD_zip]
  refine sat_forT (f := fun p : PyData × Nat => .tuple [.int (p.2 : Nat), p.1]) (fun rest e => ∃ (Lr : List Str) (k : Nat) (acc : List PyData) (j2 j3 j4 : Jk), rest = (Lr.map PyData.str).zipIdx k ∧ e = [.frz (.str R), .own false (.list acc), j2.c, j3.c, j4.c] ∧ scanL Lr k acc = scanL Ls 0 [] ∧ (∀ L ∈ Lr, Fine L) ∧ k ≤ 10 ∧ acc.length = k) ⟨Ls, 0, [], jkE, jkE, jkE, rfl, rfl, rfl, hf, by omega, rfl⟩ ?_ ?_
  · rintro p rest e ⟨Lr, k, acc, j2, j3, j4, hr, rfl, hsc, hfl, hk, hacc⟩ K' L'
    cases Lr with
    | nil => cases hr
    | cons L Lr =>
      rw [List.map_cons, List.zipIdx_cons] at hr
      injection hr with hp hr
      subst hp
      obtain ⟨f1, f2, f3, f4⟩ := hfl L List.mem_cons_self
      obtain ⟨w, ts, hw⟩ : ∃ w ts, wordsOf L = w :: ts := by
        cases h : wordsOf L with
        | nil => exact (f4 h).elim
        | cons w ts => exact ⟨w, ts, rfl⟩
      have hL : oSplit (Str.ofString " ") (.str L) = .val (.own false (.list ((w :: ts).map .str))) := by rw [oSplit_sp (by omega)]; show _ = _; rw [← hw]; rfl
      have hnd := ev_needsW (k := k) (by omega) hL (fun t ht => by have := f3 t (by rw [hw]; exact List.mem_cons_of_mem _ ht); omega) (by have := f2; rw [hw] at this; simp at this; omega)
      have hsu : scanL (L :: Lr) k acc = if (decide (k ≤ 9) && lineB (w :: ts) k) = true then scanL Lr (k + 1) (acc ++ [.tuple (ts.map figD)]) else .int (k : Nat) := by
        show (if (decide (k ≤ 9) && lineB (wordsOf L) k) = true then scanL Lr (k + 1) (acc ++ [.tuple ((wordsOf L).tail.map figD)]) else .int (k : Nat)) = _
        rw [hw]; rfl
      rw [hsu] at hsc
      generalize ts.map figD = T at *
      have hal : acc.length < lim := by unfold lim; omega
      have hisn : oIsN (.tuple T) .none = .val (.frz (.bool false)) := rfl
      cases hb : lineB (w :: ts) k with
      | false =>
        rw [hb, Bool.and_false, if_neg (by decide)] at hsc
        rw [hb, if_neg (by decide)] at hnd
        rw [← hsc] at kk
        simp [hnd]
        exact L'.ex _ _ (kk.ex _ _ rfl)
      | true =>
        rw [hb, Bool.and_true] at hsc
        rw [hb, if_pos rfl] at hnd
        by_cases h10 : k = 10
        · subst h10
          rw [if_neg (by decide)] at hsc
          rw [← hsc] at kk
          have hnd : m_needs_in [.str L, .int 10] = _ := hnd
          simp [hnd, hisn]
          exact L'.ex _ _ (kk.ex _ _ rfl)
        · rw [if_pos (by simp; omega)] at hsc
          have h10i : ¬ ((k : Int) = 10) := by omega
          simp [hnd, h10i, hal, hisn]
          exact L'.nx _ ⟨Lr, k + 1, _, ⟨.frz _, rfl⟩, ⟨.frz _, rfl⟩, ⟨.frz _, rfl⟩, hr, rfl, hsc, fun L hL => hfl L (List.mem_cons_of_mem _ hL), by omega, by simp [hacc]⟩
  · rintro e ⟨Lr, k, acc, j2, j3, j4, hr, rfl, hsc, hfl, hk, hacc⟩
    cases Lr with
    | cons L Lr => cases hr
    | nil =>
      rw [← hsc] at kk
      have hal : acc.length ≤ lim := by unfold lim; omega
      simp [hal]
      exact kk.rt _ _ rfl
theorem ev_toldS {R : Str} {Ls : List Str} (hR : R.length ≤ 900) (hs : oSplit (Str.ofString "\n") (.str R) = .val (.own false (.list (Ls.map .str)))) (hf : ∀ L ∈ Ls, Fine L) (hn : Ls.length ≤ 1000) : m__law_told [.str R] = .ok (.frz (scanL Ls 0 [])) := by
  have h := read_run hR hs hf hn
  rcases scan_is Ls 0 [] with ⟨n, e⟩ | ⟨ds, e⟩
  · rw [e] at h ⊢
    have h : m_read_net_v2 [.str R] = .ex ⟨Str.ofString "NoText", some (.int n)⟩ := h
    have hm : hmT ⟨Str.ofString "NoText", some (.int n)⟩ = some (.frz (.int n)) := by unfold hmT; rw [if_pos rfl]
    apply run_of; intro K kk
    simp [c__law_told, h, hm]
    exact kk.rt _ _ rfl
  · rw [e] at h ⊢
    have h : m_read_net_v2 [.str R] = .ok (.frz (.tuple ds)) := h
    apply run_of; intro K kk
    simp [c__law_told, h]
    exact kk.rt _ _ rfl
theorem ev_told0 {x : PyData} (h : isiD "str" x = some false) : m__law_told [x] = .ok (.frz (.int 0)) := by
  have h1 : m_read_net_v2 [x] = .ex ⟨Str.ofString "NoText", some (.int 0)⟩ := by
    apply run_raise; intro K kk
    simp [c_read_net_v2, h]
    exact kk.ex _ _ rfl
  have hm : hmT ⟨Str.ofString "NoText", some (.int 0)⟩ = some (.frz (.int 0)) := by unfold hmT; rw [if_pos rfl]
  apply run_of; intro K kk
  simp [c__law_told, h1, hm]
  exact kk.rt _ _ rfl
end DL

namespace DL
open PySem L2 TL
theorem ok_appE {a b : Str} (h : PyData.strOk (a ++ b) = true) : PyData.strOk a = true ∧ PyData.strOk b = true := by
  unfold PyData.strOk at *
  have h : (a.cps ++ b.cps).all (· < 0x110000) = true := h
  rw [Array.all_append, Bool.and_eq_true] at h
  exact h
theorem len_app (a b : Str) : (a ++ b).length = a.length + b.length := by
  show (a.cps ++ b.cps).size = _
  rw [Array.size_append]; rfl
theorem join_parts (s : Str) : ∀ ys : List Str, PyData.strOk (Str.join s ys) = true → (∀ y ∈ ys, PyData.strOk y = true ∧ y.length ≤ (Str.join s ys).length) ∧ ys.length ≤ (Str.join s ys).length + 1 + ys.length * (1 - s.length)
  | [], _ => ⟨fun y h => (List.not_mem_nil h).elim, Nat.zero_le _⟩
  | [y], h => ⟨fun z hz => (by rw [List.mem_singleton.mp hz]; exact ⟨h, Nat.le_refl _⟩), (by simp; omega)⟩
  | x :: y :: ys, h => by
    have h : PyData.strOk (x ++ s ++ Str.join s (y :: ys)) = true := h
    obtain ⟨h1, h2⟩ := ok_appE h
    obtain ⟨h3, _⟩ := ok_appE h1
    obtain ⟨ih, ih2⟩ := join_parts s (y :: ys) h2
    have hl : (Str.join s (x :: y :: ys)).length = x.length + s.length + (Str.join s (y :: ys)).length := by
      show (x ++ s ++ Str.join s (y :: ys)).length = _
      rw [len_app, len_app]
    refine ⟨fun z hz => ?_, ?_⟩
    · rcases List.mem_cons.mp hz with rfl | hz
      · exact ⟨h3, by omega⟩
      · exact ⟨(ih z hz).1, by have := (ih z hz).2; omega⟩
    · rw [hl]
      simp only [List.length_cons] at ih2 ⊢
      by_cases hs : s.length = 0
      · rw [hs] at ih2 ⊢; omega
      · have : 1 - s.length = 0 := by omega
        rw [this] at ih2 ⊢; omega
theorem split_parts {R s : Str} (hs : s.length = 1) (h : PyData.strOk R = true) : (∀ y ∈ Txt.split R s, PyData.strOk y = true ∧ y.length ≤ R.length) ∧ (Txt.split R s).length ≤ R.length + 1 := by
  have e := StrLaws.join_split R s
  have := join_parts s (Txt.split R s) (by rw [e]; exact h)
  rw [e, hs] at this
  exact ⟨this.1, by have := this.2; omega⟩
end DL

namespace DL
open PySem L2
inductive RuLe : Rul → Rul → Prop
  | cp : RuLe .careful .plain
  | ps : RuLe .plain .slide
  | cs : RuLe .careful .slide
theorem mem_put {net : List (List Nat)} {s : Nat} (h : s < net.length) : Stp.put s ∈ allSteps net := by unfold allSteps; simp; omega
theorem mem_take {net : List (List Nat)} {s : Nat} (h : s < net.length) : Stp.take s ∈ allSteps net := by unfold allSteps; simp; omega
theorem mem_sortN {l : List Nat} {x : Nat} : x ∈ sortN l ↔ x ∈ l := (sortN_perm l).mem_iff
def byP : List Stp → List Stp
  | [] => []
  | .slide n s :: p => .put s :: .take n :: byP p
  | .put s :: p => .put s :: byP p
  | .take s :: p => .take s :: byP p
def Stp.gain : Stp → Int
  | .put _ => 1
  | .take _ => -1
  | .slide _ _ => 0
end DL

namespace DL
open PySem L2
def c__law_by_puts : CS := (cSeq (cSet 1 (cLst []))
    (cSeq (cForO 0 (.one 2) (cIfS (toT (cOp2 oEq (.ex (cOp2 oIx (.nm 2) (.ex (cK (.int 0))))) (.ex (cK (.str "slide"))))) (cSet 1 (cOp2 oAdd (.nm 1) (.ex (cLst [(.ex (cTup [(.ex (cK (.str "put"))), (.ex (cOp2 oIx (.nm 2) (.ex (cK (.int 2)))))])), (.ex (cTup [(.ex (cK (.str "take"))), (.ex (cOp2 oIx (.nm 2) (.ex (cK (.int 1)))))]))])))) (cDrop (cMethT "list" mAppend 1 [(.ex (cVar 2))]))))
    (cRet (cMove 1))))
def m__law_by_puts : Fn := runDef 3 c__law_by_puts
def gainD : PyData := dispI [(Str.ofString "put", 1), (Str.ofString "take", -1), (Str.ofString "slide", 0)]
end DL

namespace DL
open PySem L2
def c_is_plain_step : CS := (cSeq (cIfS (cOrT (cNotT (toT (cIsi "tuple" (.nm 1)))) (cOrT (toT (cOp2 oNe (.ex (cOpN oLen [(.nm 1)])) (.ex (cK (.int 2))))) (cOrT (cNotT (toT (cIsi "str" (.ex (cOp2 oIx (.nm 1) (.ex (cK (.int 0)))))))) (toT (cKNotIn [(Str.ofString "put", PyData.str "take"), (Str.ofString "take", PyData.str "put")] (.ex (cOp2 oIx (.nm 1) (.ex (cK (.int 0)))))))))) (cRet (cK (.bool false))) cNext)
    (cRet (cAnd (cCall m_is_whole [(.ex (cOp2 oIx (.nm 1) (.ex (cK (.int 1)))))]) (cChain oLe oLt (.ex (cK (.int 0))) (.ex (cOp2 oIx (.nm 1) (.ex (cK (.int 1))))) (.ex (cOpN oLen [(.nm 0)]))))))
def m_is_plain_step : Fn := runDef 2 c_is_plain_step
def c_about : CS := (cRet (cComp (.many [1, 2]) (iRevC (cVar 0)) tYesC (cTup [(.ex (cKIx [(Str.ofString "put", PyData.str "take"), (Str.ofString "take", PyData.str "put")] (.nm 1))), (.ex (cVar 2))]) [1, 2]))
def m_about : Fn := runDef 3 c_about
def c_turned : CS := (cSeq (cDrop (cCall m_need_net [(.nm 0)]))
    (cSeq (cIfS (cOrT (cNotT (toT (cIsi "list" (.nm 1)))) (cNotT (toT (cOpN oAll [(.ex (cCompO 1 (.one 2) tYesC (cCall m_is_plain_step [(.nm 0), (.nm 2)]) [2]))])))) (cRaise "NoPlay") cNext)
    (cRet (cCall m_about [(.nm 1)]))))
def m_turned : Fn := runDef 3 c_turned
abbrev otherK : List (Str × PyData) := [(Str.ofString "put", PyData.str "take"), (Str.ofString "take", PyData.str "put")]
@[simp] theorem ev_knotin (kvs : List (Str × PyData)) (o : Opd) (env : Cs) : cKNotIn kvs o env = (o.ev env).bind fun l env1 => match l.get env1 with
  | some (.str x) => .ok (.frz (.bool (!(lookS kvs x).isSome))) env1
  | _ => .no := rfl
@[simp] theorem ev_kix (kvs : List (Str × PyData)) (o : Opd) (env : Cs) : cKIx kvs o env = (o.ev env).bind fun l env1 => match l.get env1 with
  | some (.str x) => match lookS kvs x with
    | some d => .ok (.frz d) env1
    | none => .no
  | _ => .no := rfl
@[simp] theorem ev_iRevC (c : CE) (env : Cs) : iRevC c env = (c env).bind fun c env1 => match c.val with
  | some d => match seqOf d with
    | some ds => .ok ds.reverse env1
    | none => .no
  | none => .no := rfl
def Stp.two : Stp → Bool
  | .slide _ _ => false
  | _ => true
def flipS : Stp → Stp
  | .put s => .take s
  | .take s => .put s
  | .slide n s => .slide n s
def abt (S : List Stp) : List Stp := S.reverse.map flipS
theorem abt_cons (S : List Stp) (st : Stp) : abt (st :: S) = abt S ++ [flipS st] := by simp [abt]
def plainB (n : Nat) : PyData → Bool
  | .tuple [.str w, d] => (lookS [(Str.ofString "put", PyData.str "take"), (Str.ofString "take", PyData.str "put")] w).isSome && spotB n d
  | _ => false
end DL

namespace DL
open PySem L2
theorem inc_ext : ∀ {a b : List Nat}, a.Pairwise (· < ·) → b.Pairwise (· < ·) → (∀ x, x ∈ a ↔ x ∈ b) → a = b
  | [], [], _, _, _ => rfl
  | [], y :: b, _, _, h => by have := (h y).mpr List.mem_cons_self; cases this
  | x :: a, [], _, _, h => by have := (h x).mp List.mem_cons_self; cases this
  | x :: a, y :: b, ha, hb, h => by
    rw [List.pairwise_cons] at ha hb
    have e : x = y := by
      rcases List.mem_cons.mp ((h x).mp List.mem_cons_self) with e | e
      · exact e
      · rcases List.mem_cons.mp ((h y).mpr List.mem_cons_self) with e2 | e2
        · exact e2.symm
        · have := hb.1 x e; have := ha.1 y e2; omega
    subst e
    rw [inc_ext ha.2 hb.2 fun z => ?_]
    constructor
    · intro hz
      rcases List.mem_cons.mp ((h z).mp (List.mem_cons_of_mem _ hz)) with e | e
      · have := ha.1 z hz; omega
      · exact e
    · intro hz
      rcases List.mem_cons.mp ((h z).mpr (List.mem_cons_of_mem _ hz)) with e | e
      · have := hb.1 z hz; omega
      · exact e
def plus (lay : List Nat) : Option Nat → List Nat
  | none => lay
  | some s => sortN (lay ++ [s])
theorem mem_plus {lay : List Nat} {x : Option Nat} {y : Nat} : y ∈ plus lay x ↔ y ∈ lay ∨ x = some y := by
  cases x with
  | none => simp [plus]
  | some s => simp [plus, mem_sortN]; exact or_congr_right eq_comm
theorem mem_aftP {lay : List Nat} {s y : Nat} : y ∈ aft lay (.put s) ↔ y ∈ lay ∨ y = s := by show y ∈ sortN _ ↔ _; rw [mem_sortN]; simp
theorem mem_aftT {lay : List Nat} {s y : Nat} : y ∈ aft lay (.take s) ↔ y ∈ lay ∧ y ≠ s := by simp
theorem sortN_lay {n : Nat} {lay : List Nat} {s : Nat} (h : LayV n lay) (hs : s < n) (hm : s ∉ lay) : LayV n (sortN (lay ++ [s])) := by
  have hn : (lay ++ [s]).Nodup := by
    rw [List.nodup_append]; exact ⟨lt_nodup h.inc, by simp, fun a ha b hb => by simp at hb; subst hb; intro e; exact hm (e ▸ ha)⟩
  refine ⟨?_, fun x hx => ?_⟩
  · have := sortN_sorted (lay ++ [s])
    have hn2 := (sortN_perm (lay ++ [s])).nodup_iff.mpr hn
    exact (List.Pairwise.and this hn2).imp fun q => Nat.lt_of_le_of_ne q.1 q.2
  · rw [mem_sortN, List.mem_append] at hx
    rcases hx with q | q
    · exact h.low x q
    · simp at q; subst q; exact hs
theorem plus_lay {n : Nat} {lay : List Nat} {x : Option Nat} (h : LayV n lay) (hx : ∀ s, x = some s → s < n ∧ s ∉ lay) : LayV n (plus lay x) := by
  cases x with
  | none => exact h
  | some s => exact sortN_lay h (hx s rfl).1 (hx s rfl).2
theorem full_mono {net : List (List Nat)} {lay L : List Nat} {s : Nat} (h : fullB net lay s = true) (hs : ∀ n ∈ nds net s, n ∈ lay → n ∈ L) : fullB net L s = true := by
  unfold fullB at h ⊢
  rw [List.all_eq_true] at h ⊢
  intro n hn
  have := h n hn
  simp at this ⊢
  exact hs n hn this
theorem back_one {net : List (List Nat)} (hk : NetOk net) {lay : List Nat} (hl : LayV net.length lay) {st : Stp} (hm : st ∈ allSteps net) (h : letB net lay .careful st = true) (x : Option Nat) (hx : ∀ s, x = some s → s < net.length ∧ s ∉ lay ∧ st ≠ .put s) :
    st.two = true ∧ flipS st ∈ allSteps net ∧ letB net (plus (aft lay st) x) .careful (flipS st) = true ∧ aft (plus (aft lay st) x) (flipS st) = plus lay x := by
  have hla := LayV.aft hk hl hm h
  have hpl := plus_lay hl fun s e => ⟨(hx s e).1, (hx s e).2.1⟩
  have hpa : LayV net.length (plus (aft lay st) x) := plus_lay hla fun s e => ⟨(hx s e).1, fun hm2 => by
    obtain ⟨q1, q2, q3⟩ := hx s e
    cases st with
    | put t => rcases mem_aftP.mp hm2 with z | z; exact q2 z; exact q3 (by rw [z])
    | take t => exact q2 (mem_aftT.mp hm2).1
    | slide m t => simp [letB] at h⟩
  cases st with
  | put s =>
    have hs : s < net.length := (allSteps_inn hk hm).1
    simp [letB] at h
    refine ⟨rfl, mem_take hs, ?_, ?_⟩
    · have h1 : s ∈ plus (aft lay (.put s)) x := mem_plus.mpr (.inl (mem_aftP.mpr (.inr rfl)))
      have h2 : fullB net (plus (aft lay (.put s)) x) s = true := full_mono h.2 fun n _ hn => mem_plus.mpr (.inl (mem_aftP.mpr (.inl hn)))
      simp [letB, flipS, h1, h2]
    · refine inc_ext (hpa.inc.filter _) hpl.inc fun y => ?_
      show y ∈ aft (plus (aft lay (.put s)) x) (.take s) ↔ _
      rw [mem_aftT, mem_plus, mem_plus, mem_aftP]
      constructor
      · rintro ⟨(h1 | h1) | h1, h2⟩
        · exact .inl h1
        · exact (h2 h1).elim
        · exact .inr h1
      · rintro (h1 | h1)
        · exact ⟨.inl (.inl h1), fun e => h.1 (e ▸ h1)⟩
        · exact ⟨.inr h1, fun e => (hx y h1).2.2 (by rw [e])⟩
  | take s =>
    have hs : s < net.length := (allSteps_inn hk hm).1
    simp [letB] at h
    have hno : s ∉ plus (aft lay (.take s)) x := fun z => by
      rcases mem_plus.mp z with z | z
      · exact (mem_aftT.mp z).2 rfl
      · exact (hx s z).2.1 h.1
    have hlet : letB net (plus (aft lay (.take s)) x) .careful (.put s) = true := by
      have h2 : fullB net (plus (aft lay (.take s)) x) s = true := full_mono h.2 fun n hn hn2 => mem_plus.mpr (.inl (mem_aftT.mpr ⟨hn2, fun e => by have := nds_lt hk hn; omega⟩))
      show (!(plus (aft lay (.take s)) x).contains s && fullB net (plus (aft lay (.take s)) x) s) = true
      rw [h2, Bool.and_true, Bool.not_eq_true', List.contains_eq_mem, decide_eq_false_iff_not]
      exact hno
    refine ⟨rfl, mem_put hs, hlet, ?_⟩
    refine inc_ext (LayV.aft hk hpa (mem_put hs) hlet).inc hpl.inc fun y => ?_
    show y ∈ aft (plus (aft lay (.take s)) x) (.put s) ↔ _
    rw [mem_aftP, mem_plus, mem_plus, mem_aftT]
    constructor
    · rintro ((h1 | h1) | h1)
      · exact .inl h1.1
      · exact .inr h1
      · exact .inl (h1 ▸ h.1)
    · rintro (h1 | h1)
      · by_cases e : y = s
        · exact .inr e
        · exact .inl (.inl ⟨h1, e⟩)
      · exact .inl (.inr h1)
  | slide m s => simp [letB] at h
theorem lastB_append : ∀ (p q : List Stp) (lay : List Nat), lastB lay (p ++ q) = lastB (lastB lay p) q
  | [], _, _ => rfl
  | st :: p, q, lay => lastB_append p q (aft lay st)
theorem laysB_append : ∀ (p q : List Stp) (lay : List Nat), laysB lay (p ++ q) = laysB lay p ++ laysB (lastB lay p) q
  | [], _, _ => rfl
  | st :: p, q, lay => congrArg (aft lay st :: ·) (laysB_append p q (aft lay st))
theorem back {net : List (List Nat)} (hk : NetOk net) (x : Option Nat) : ∀ (S : List Stp) (lay : List Nat), LayV net.length lay → goes net .careful lay S → (∀ s, x = some s → s < net.length ∧ s ∉ lay ∧ .put s ∉ S) →
    (∀ st ∈ S, st.two = true) ∧ goes net .careful (plus (lastB lay S) x) (abt S) ∧ lastB (plus (lastB lay S) x) (abt S) = plus lay x ∧ ∀ L ∈ laysB (plus (lastB lay S) x) (abt S), ∃ M ∈ lay :: laysB lay S, L = plus M x
  | [], lay, _, _, _ => ⟨(fun st h => by cases h), trivial, rfl, fun L h => by cases h⟩
  | st :: S, lay, hl, ⟨g1, g2, g3⟩, hx => by
    obtain ⟨o1, o2, o3, o4⟩ := back_one hk hl g1 g2 x fun s e => ⟨(hx s e).1, (hx s e).2.1, fun z => (hx s e).2.2 (z ▸ List.mem_cons_self)⟩
    have hx2 : ∀ s, x = some s → s < net.length ∧ s ∉ aft lay st ∧ .put s ∉ S := by
      intro s e
      obtain ⟨q1, q2, q3⟩ := hx s e
      refine ⟨q1, fun hm2 => ?_, fun z => q3 (List.mem_cons_of_mem _ z)⟩
      cases st with
      | put t =>
        rcases mem_aftP.mp hm2 with z | z
        · exact q2 z
        · exact q3 (by rw [z]; exact List.mem_cons_self)
      | take t => exact q2 (mem_aftT.mp hm2).1
      | slide m t => cases o1
    obtain ⟨i1, i2, i3, i4⟩ := back hk x S (aft lay st) (LayV.aft hk hl g1 g2) g3 hx2
    rw [abt_cons]
    show _ ∧ goes net .careful (plus (lastB (aft lay st) S) x) _ ∧ lastB (plus (lastB (aft lay st) S) x) _ = _ ∧ ∀ L ∈ laysB (plus (lastB (aft lay st) S) x) _, _
    refine ⟨fun y hy => ?_, ?_, ?_, fun L hL => ?_⟩
    · rcases List.mem_cons.mp hy with rfl | hy
      · exact o1
      · exact i1 y hy
    · rw [goes_append, i3]; exact ⟨i2, o2, o3, trivial⟩
    · rw [lastB_append, i3]; exact o4
    · rw [laysB_append, i3, List.mem_append] at hL
      rcases hL with hL | hL
      · obtain ⟨M, hM, rfl⟩ := i4 L hL
        exact ⟨M, List.mem_cons_of_mem _ hM, rfl⟩
      · have : L = aft (plus (aft lay st) x) (flipS st) := by simpa [laysB] using hL
        exact ⟨lay, List.mem_cons_self, this.trans o4⟩
end DL

namespace DL
open PySem L2 TL
theorem eqv_strE (x y : Str) : PyData.eqv (.str x) (.str y) = (x == y) := by simp [PyData.eqv]
def orJ (r : OR) (k : Int) : Bool := match r with
  | .val (.frz (.int i)) => decide (i = k)
  | _ => false
theorem orJ_of {r : OR} {k : Int} (h : orJ r k = true) : r = .val (.frz (.int k)) := by
  unfold orJ at h
  split at h
  · rw [of_decide_eq_true h]
  · cases h
def digs10 : List Str := [Str.ofString "0", Str.ofString "1", Str.ofString "2", Str.ofString "3", Str.ofString "4", Str.ofString "5", Str.ofString "6", Str.ofString "7", Str.ofString "8", Str.ofString "9"]
theorem digs10_has (w : Str) : digs10.contains w = (figOf w).isSome := by
  cases h : figOf w with
  | some n =>
    have hn := fig_lt h
    rw [fig_word h]
    have : ∀ n < 10, digs10.contains (sN n) = true := by decide +kernel
    exact this n hn
  | none =>
    cases hc : digs10.contains w with
    | false => rfl
    | true =>
      have hm := List.contains_iff_mem.mp hc
      have : ∀ d ∈ digs10, (figOf d).isSome = true := by decide +kernel
      have := this w hm
      rw [h] at this; cases this
theorem has_strs (w : Str) : ∀ L : List Str, hasD (.str w) (L.map .str) = L.contains w
  | [] => rfl
  | v :: L => by
    have ih := has_strs w L
    unfold hasD at ih ⊢
    rw [List.map_cons, List.any_cons, ih, eqv_strE, List.contains_cons]
    congr 1
    by_cases e : w = v
    · subst e; rfl
    · rw [beq_eq_false_iff_ne.mpr e, beq_eq_false_iff_ne.mpr (Ne.symm e)]
theorem in_digs (w : Str) : oIn true (.str w) (.list [.str (Str.ofString "0"), .str (Str.ofString "1"), .str (Str.ofString "2"), .str (Str.ofString "3"), .str (Str.ofString "4"), .str (Str.ofString "5"), .str (Str.ofString "6"), .str (Str.ofString "7"), .str (Str.ofString "8"), .str (Str.ofString "9")]) = .val (.frz (.bool (figOf w).isNone)) := by
  have h := has_strs w digs10
  rw [digs10_has] at h
  show OR.val (.frz (.bool (!hasD (.str w) (digs10.map .str)))) = _
  rw [h]
  cases figOf w <;> rfl
theorem lays_strO : ∀ L : List Str, (∀ x ∈ L, PyData.strOk x = true) → PyData.canLayAll0 (L.map .str) = true ∧ PyData.depthAll (L.map .str) ≤ 1
  | [], _ => ⟨rfl, by simp [PyData.depthAll]⟩
  | x :: L, h => by
    obtain ⟨a, b⟩ := lays_strO L fun x hx => h x (List.mem_cons_of_mem _ hx)
    have hp : PyData.canLay0 (.str x) = true := h x List.mem_cons_self
    refine ⟨by rw [List.map_cons, PyData.canLayAll0, hp, a]; rfl, ?_⟩
    simp only [List.map_cons, PyData.depthAll, PyData.depth]; omega
theorem oNe_strsO (L : List Str) (h : ∀ x ∈ L, PyData.strOk x = true) : oNe (.list (L.map .str)) (.list []) = .val (.frz (.bool (!decide (L = [])))) := by
  have hs : shp (.list (L.map .str)) = true := by
    obtain ⟨a, b⟩ := lays_strO L h
    unfold shp SeqAt.shaped
    rw [PyData.canLay0, a, PyData.depth]
    simp; omega
  unfold oNe oEqD
  cases L with
  | nil => rfl
  | cons x L =>
    rw [List.map_cons] at hs ⊢
    simp [hs, PyData.eqv]
    rfl
def fv (w : Str) : Nat := (figOf w).getD 0
theorem fv_int {w : Str} (h : (figOf w).isSome = true) : oIntS [.str w] = .val (.frz (.int (fv w))) ∧ fv w < 10 ∧ figD w = .int (fv w : Nat) := by
  cases e : figOf w with
  | none => rw [e] at h; cases h
  | some n =>
    have hn := fig_lt e
    have hf : fv w = n := by unfold fv; rw [e]; rfl
    have hd : figD w = .int (n : Nat) := by unfold figD; rw [e]
    rw [hf]
    refine ⟨?_, hn, hd⟩
    rw [fig_word e]
    have : ∀ n < 10, orJ (oIntS [.str (sN n)]) n = true := by decide +kernel
    exact orJ_of (this n hn)
theorem rising_fig (ts : List Str) (k : Nat) : risingD (ts.map figD) (-1) k = (ts.all (fun t => (figOf t).isSome) && decide (setN (ts.map fv) = ts.map fv) && decide ((ts.map fv).filter (fun n => decide (k ≤ n)) = [])) := by
  by_cases ha : ∀ t ∈ ts, (figOf t).isSome = true
  · have e : ts.map figD = (ts.map fv).map nD := by
      rw [List.map_map]
      exact List.map_congr_left fun t ht => (fv_int (ha t ht)).2.2
    rw [e, List.all_eq_true.mpr ha, Bool.true_and]
    have h := rise_iff (ts.map fv) (-1) k
    have h2 : setN (ts.map fv) = ts.map fv ↔ (ts.map fv).Pairwise (· < ·) := by
      constructor
      · intro z; rw [← z]; exact setN_lt _
      · intro z
        exact inc_ext (setN_lt _) z fun a => setN_mem
    have h3 : (ts.map fv).filter (fun n => decide (k ≤ n)) = [] ↔ ∀ n ∈ ts.map fv, n < k := by
      rw [List.filter_eq_nil_iff]
      exact ⟨fun z n hn => by have := z n hn; simp at this; omega, fun z n hn => by have := z n hn; simp; omega⟩
    rw [Bool.eq_iff_iff, h, Bool.and_eq_true, decide_eq_true_eq, decide_eq_true_eq, h2, h3]
    exact ⟨fun ⟨_, b, c⟩ => ⟨b, fun n hn => by have := c n hn; omega⟩, fun ⟨b, c⟩ => ⟨fun n _ => by omega, b, fun n hn => by have := c n hn; omega⟩⟩
  · have hf : ts.all (fun t => (figOf t).isSome) = false := by
      cases q : ts.all (fun t => (figOf t).isSome) with
      | false => rfl
      | true => exact (ha (List.all_eq_true.mp q)).elim
    rw [hf, Bool.false_and, Bool.false_and]
    have : ∀ (ts : List Str) (a b : Int), ts.all (fun t => (figOf t).isSome) = false → risingD (ts.map figD) a b = false := by
      intro ts
      induction ts with
      | nil => intro a b h; cases h
      | cons t ts ih =>
        intro a b h
        rw [List.map_cons]
        cases e : figOf t with
        | none =>
          have : figD t = .none := by unfold figD; rw [e]
          rw [this]; rfl
        | some n =>
          have hd : figD t = .int (n : Nat) := by unfold figD; rw [e]
          rw [hd]
          rw [List.all_cons, e] at h
          have h : ts.all (fun t => (figOf t).isSome) = false := h
          show (decide (a < (n : Int)) && decide ((n : Int) < b) && risingD (ts.map figD) n b) = false
          rw [ih n b h, Bool.and_false]
    exact this ts _ _ hf
theorem ev_readS {R : Str} {Ls : List Str} (hR : R.length ≤ 900) (hs : oSplit (Str.ofString "\n") (.str R) = .val (.own false (.list (Ls.map .str)))) (hf : ∀ L ∈ Ls, Fine L) (ho : ∀ L ∈ Ls, ∀ w ∈ wordsOf L, PyData.strOk w = true) (hn : Ls.length ≤ 1000) : m__law_read [.str R] = .ok (.frz (scanL Ls 0 [])) := by
  refine run_gen (P := fun y => y = .ok (.frz (scanL Ls 0 []))) fun K kk => ?_
  simp [c__law_read, hs, enumD_zip]
  refine sat_forT (f := fun p : PyData × Nat => .tuple [.int (p.2 : Nat), p.1]) (fun rest e => ∃ (Lr : List Str) (k : Nat) (acc : List PyData) (j2 j3 j4 j6 : Jk), rest = (Lr.map PyData.str).zipIdx k ∧ e = [.frz (.str R), .own false (.list acc), j2.c, j3.c, j4.c, .emp, j6.c, .emp] ∧ scanL Lr k acc = scanL Ls 0 [] ∧ (∀ L ∈ Lr, Fine L ∧ ∀ w ∈ wordsOf L, PyData.strOk w = true) ∧ k ≤ 10 ∧ acc.length = k) ⟨Ls, 0, [], jkE, jkE, jkE, jkE, rfl, rfl, rfl, fun L hL => ⟨hf L hL, ho L hL⟩, by omega, rfl⟩ ?_ ?_
  · rintro p rest e ⟨Lr, k, acc, j2, j3, j4, j6, hr, rfl, hsc, hfl, hk, hacc⟩ K' L'
    cases Lr with
    | nil => cases hr
    | cons L Lr =>
      rw [List.map_cons, List.zipIdx_cons] at hr
      injection hr with hp hr
      subst hp
      obtain ⟨⟨f1, f2, f3, f4⟩, f5⟩ := hfl L List.mem_cons_self
      obtain ⟨w, ts, hw⟩ : ∃ w ts, wordsOf L = w :: ts := by
        cases h : wordsOf L with
        | nil => exact (f4 h).elim
        | cons w ts => exact ⟨w, ts, rfl⟩
      have hL : oSplit (Str.ofString " ") (.str L) = .val (.own false (.list ((w :: ts).map .str))) := by rw [oSplit_sp (by omega)]; show _ = _; rw [← hw]; rfl
      have htl : ts.length ≤ 1000 := by have := f2; rw [hw] at this; simp at this; omega
      have hto : ∀ t ∈ ts, PyData.strOk t = true := fun t ht => f5 t (by rw [hw]; exact List.mem_cons_of_mem _ ht)
      have hsu : scanL (L :: Lr) k acc = if (decide (k ≤ 9) && lineB (w :: ts) k) = true then scanL Lr (k + 1) (acc ++ [.tuple (ts.map figD)]) else .int (k : Nat) := by
        show (if (decide (k ≤ 9) && lineB (wordsOf L) k) = true then scanL Lr (k + 1) (acc ++ [.tuple ((wordsOf L).tail.map figD)]) else .int (k : Nat)) = _
        rw [hw]; rfl
      rw [hsu] at hsc
      have hlb : lineB (w :: ts) k = (decide (w = sN k ++ Str.ofString ":") && risingD (ts.map figD) (-1) k) := rfl
      rw [hlb, rising_fig] at hsc
      have hal : acc.length < lim := by unfold lim; omega
      have hst := oStr_nat2' (n := k) (by omega)
      have hadd := oAdd_col (n := k) (by omega)
      by_cases hk9 : 9 < k
      · rw [if_neg (by simp; omega)] at hsc
        rw [← hsc] at kk
        have hk9i : (9 : Int) < k := by omega
        simp only [List.map_cons] at hL
        simp [hL, hk9i, hst, hadd, oNe_strs]
        exact L'.rt _ _ (kk.rt _ _ rfl)
      · have hk9i : ¬ (9 : Int) < k := by omega
        by_cases hww : w = sN k ++ Str.ofString ":"
        · subst hww
          have c1 := comp1 (v := 5) (ci := iSeq (cSl (.nm 4) (.some (.ex (cK (.int 1)))) .none)) (ct := toT (cOp2 (oIn true) (.nm 5) (.ex (cLst [(.ex (cK (.str (Str.ofString "0")))), (.ex (cK (.str (Str.ofString "1")))), (.ex (cK (.str (Str.ofString "2")))), (.ex (cK (.str (Str.ofString "3")))), (.ex (cK (.str (Str.ofString "4")))), (.ex (cK (.str (Str.ofString "5")))), (.ex (cK (.str (Str.ofString "6")))), (.ex (cK (.str (Str.ofString "7")))), (.ex (cK (.str (Str.ofString "8")))), (.ex (cK (.str (Str.ofString "9"))))])))) (ce := cVar 5)
            (env := [.frz (.str R), .own false (.list acc), .frz (.int (k : Nat)), .frz (.str L), .own false (.list (((sN k ++ Str.ofString ":") :: ts).map .str)), .emp, j6.c, .emp]) (f := PyData.str) (xs := ts) (fun t => (figOf t).isNone) PyData.str
            (by simp [cutD_tl']) (by simp) (by simp) (fun t ht => by simp [in_digs])
          have hne := oNe_strsO (ts.filter fun t => (figOf t).isNone) fun t ht => hto t (List.mem_filter.mp ht).1
          have hfil : (ts.filter fun t => (figOf t).isNone) = [] ↔ ts.all (fun t => (figOf t).isSome) = true := by
            rw [List.filter_eq_nil_iff, List.all_eq_true]
            exact ⟨fun z t ht => by have := z t ht; cases h : figOf t with | none => simp [h] at this | some n => rfl, fun z t ht => by have := z t ht; cases h : figOf t with | none => rw [h] at this; cases this | some n => simp⟩
          have c2 := fun ha : ∀ t ∈ ts, (figOf t).isSome = true => comp1 (v := 5) (ci := iSeq (cSl (.nm 4) (.some (.ex (cK (.int 1)))) .none)) (ct := tYesC) (ce := cOpN oIntS [(.nm 5)])
            (env := [.frz (.str R), .own false (.list acc), .frz (.int (k : Nat)), .frz (.str L), .own false (.list (((sN k ++ Str.ofString ":") :: ts).map .str)), .emp, j6.c, .emp]) (f := PyData.str) (xs := ts) (fun _ => true) (fun t => nD (fv t))
            (by simp [cutD_tl']) (by simp) (by simp) (fun t ht => by simp [tYesC, (fv_int (ha t ht)).1])
          simp only [List.map_cons] at hL c1 c2
          cases hall : ts.all (fun t => (figOf t).isSome) with
          | false =>
            rw [hall, Bool.false_and, Bool.false_and, Bool.and_false, Bool.and_false, if_neg (by decide)] at hsc
            have hnn : ¬ (ts.filter fun t => (figOf t).isNone) = [] := fun z => by rw [hfil.mp z] at hall; cases hall
            rw [decide_eq_false hnn] at hne
            rw [← hsc] at kk
            generalize (ts.filter fun t => (figOf t).isNone).map PyData.str = FF at *
            generalize ts.map PyData.str = TS at *
            simp [hL, hk9i, hst, hadd, oNe_strs, c1, hne]
            exact L'.rt _ _ (kk.rt _ _ rfl)
          | true =>
            have hall2 := List.all_eq_true.mp hall
            have c2 := c2 hall2
            rw [filterT] at c2
            rw [hfil.mpr hall] at hne c1
            rw [hall, Bool.true_and] at hsc
            have e3 : (ts.map fun t => nD (fv t)) = (ts.map fv).map nD := by rw [List.map_map]; rfl
            rw [e3] at c2
            have e4 : ts.map figD = (ts.map fv).map nD := by
              rw [List.map_map]
              exact List.map_congr_left fun t ht => (fv_int (hall2 t ht)).2.2
            rw [e4] at hsc
            have hlow : ∀ n ∈ ts.map fv, n < 63 := fun n hn => by
              obtain ⟨t, ht, rfl⟩ := List.mem_map.mp hn
              have := (fv_int (hall2 t ht)).2.1; omega
            have hset := sortSet_nat (l := ts.map fv) (by rw [List.length_map]; omega) hlow
            have hNl : (ts.map fv).length ≤ 1000 := by rw [List.length_map]; omega
            generalize ts.map fv = NN at *
            have hsn : oNe (.list ((setN NN).map nD)) (.list (NN.map nD)) = .val (.frz (.bool (!decide (setN NN = NN)))) := oNe_listM (f := nD) _ _
            have hfn : oNe (.list ((NN.filter fun n => decide (k ≤ n)).map nD)) (.list []) = .val (.frz (.bool (!decide ((NN.filter fun n => decide (k ≤ n)) = [])))) := oNe_listN (f := nD) _
            have c3 := compO_own (b := false) (i := 6) (v := 7) (ct := toT (cOp2 oGe (.nm 7) (.nm 2))) (ce := cVar 7)
              (env := [.frz (.str R), .own false (.list acc), .frz (.int (k : Nat)), .frz (.str L), .own false (.list (.str (sN k ++ Str.ofString ":") :: ts.map .str)), .emp, .own false (.list (NN.map nD)), .emp]) (f := nD) (xs := NN) (fun n => decide (k ≤ n)) nD
              rfl (by simp) (by simp) (by decide) (fun n hn => by simp)
            have hk9d : decide (k ≤ 9) = true := decide_eq_true (by omega)
            rw [hk9d, decide_eq_true rfl, Bool.true_and, Bool.true_and] at hsc
            have hNll : NN.length ≤ lim := by unfold lim; omega
            generalize hFF : NN.filter (fun n => decide (k ≤ n)) = FF at *
            generalize ts.map PyData.str = TS at *
            by_cases q1 : setN NN = NN
            · rw [decide_eq_true q1] at hsn hsc
              by_cases q2 : FF = []
              · rw [decide_eq_true q2] at hfn hsc
                rw [if_pos (by rfl)] at hsc
                simp [hL, hk9i, hst, hadd, oNe_strs, c1, hne, c2, hset, hsn, c3, hfn, hal, hNll]
                exact L'.nx _ ⟨Lr, k + 1, _, ⟨.frz _, rfl⟩, ⟨.frz _, rfl⟩, ⟨.own _ _, rfl⟩, ⟨.own _ _, rfl⟩, hr, rfl, hsc, fun L hL => hfl L (List.mem_cons_of_mem _ hL), by omega, by simp [hacc]⟩
              · rw [decide_eq_false q2] at hfn hsc
                rw [if_neg (by simp)] at hsc
                rw [← hsc] at kk
                simp [hL, hk9i, hst, hadd, oNe_strs, c1, hne, c2, hset, hsn, c3, hfn]
                exact L'.rt _ _ (kk.rt _ _ rfl)
            · rw [decide_eq_false q1] at hsn hsc
              rw [if_neg (by simp)] at hsc
              rw [← hsc] at kk
              simp [hL, hk9i, hst, hadd, oNe_strs, c1, hne, c2, hset, hsn]
              exact L'.rt _ _ (kk.rt _ _ rfl)
        · rw [if_neg (by simp [hww])] at hsc
          rw [← hsc] at kk
          have hwb : (w == sN k ++ Str.ofString ":") = false := beq_eq_false_iff_ne.mpr hww
          simp only [List.map_cons] at hL
          simp [hL, hk9i, hst, hadd, oNe_strs, hwb]
          exact L'.rt _ _ (kk.rt _ _ rfl)
  · rintro e ⟨Lr, k, acc, j2, j3, j4, j6, hr, rfl, hsc, hfl, hk, hacc⟩
    cases Lr with
    | cons L Lr => cases hr
    | nil =>
      rw [← hsc] at kk
      have hal : acc.length ≤ lim := by unfold lim; omega
      simp [hal]
      exact kk.rt _ _ rfl
end DL

namespace DL
open PySem L2 TL
theorem split_ne (x y : Str) : Txt.split x y ≠ [] := by
  unfold Txt.split
  split
  · simp
  · split
    · simp
    · rw [StrLaws.partsBetween_eq]
      obtain ⟨p, q, e⟩ := StrLaws.partsFrom_ne x y.length 0 (Builtin.Str.occurrences x y 0 x.length (x.length + 1))
      rw [e]; simp
structure Good (R : Str) : Prop where
  ok : PyData.strOk R = true
  len : R.length ≤ 900
theorem good_lines {R : Str} (h : Good R) : oSplit (Str.ofString "\n") (.str R) = .val (.own false (.list ((Txt.split R (Str.ofString "\n")).map .str))) ∧ (∀ L ∈ Txt.split R (Str.ofString "\n"), Fine L) ∧ (∀ L ∈ Txt.split R (Str.ofString "\n"), ∀ w ∈ wordsOf L, PyData.strOk w = true) ∧ (Txt.split R (Str.ofString "\n")).length ≤ 1000 := by
  have h1 : (Str.ofString "\n").length = 1 := by decide +kernel
  have h2 : (Str.ofString " ").length = 1 := by decide +kernel
  have hl := h.len
  obtain ⟨a, b⟩ := split_parts h1 h.ok
  have key : ∀ L ∈ Txt.split R (Str.ofString "\n"), Fine L ∧ ∀ w ∈ wordsOf L, PyData.strOk w = true := fun L hL => by
    obtain ⟨c, d⟩ := a L hL
    obtain ⟨e, f⟩ := split_parts h2 c
    exact ⟨⟨by omega, (by have := f; unfold wordsOf; omega), fun w hw => by have := (e w hw).2; omega, split_ne _ _⟩, fun w hw => (e w hw).1⟩
  refine ⟨?_, fun L hL => (key L hL).1, fun L hL => (key L hL).2, by omega⟩
  show (if _ then _ else _) = _
  rw [if_pos ⟨by omega, by decide +kernel⟩]
theorem both_read {R : Str} (h : Good R) : ∃ v, m__law_read [.str R] = .ok (.frz v) ∧ m__law_told [.str R] = .ok (.frz v) ∧ v = scanL (Txt.split R (Str.ofString "\n")) 0 [] := by
  obtain ⟨a, b, c, d⟩ := good_lines h
  exact ⟨_, ev_readS h.len a b c d, ev_toldS h.len a b d, rfl⟩
theorem rise_fig {ts : List Str} {k : Nat} (h : risingD (ts.map figD) (-1) k = true) : ts.map figD = (ts.map fv).map nD ∧ (ts.map fv).Pairwise (· < ·) ∧ ∀ n ∈ ts.map fv, n < k := by
  have h0 := h
  rw [rising_fig, Bool.and_eq_true, Bool.and_eq_true] at h
  have ha := List.all_eq_true.mp h.1.1
  have e : ts.map figD = (ts.map fv).map nD := by
    rw [List.map_map]
    exact List.map_congr_left fun t ht => (fv_int (ha t ht)).2.2
  rw [e] at h0
  have := (rise_iff (ts.map fv) (-1) k).mp h0
  exact ⟨e, this.2.1, fun n hn => by have := this.2.2 n hn; omega⟩
theorem scan_net : ∀ (Ls : List Str) (k : Nat) (pre : List (List Nat)), NetOk pre → pre.length = k → k ≤ 10 → (∃ n : Nat, n ≤ 10 ∧ scanL Ls k (pre.map laD) = .int n) ∨ ∃ net, NetOk net ∧ net.length ≤ 10 ∧ net.length = k + Ls.length ∧ scanL Ls k (pre.map laD) = netD net
  | [], k, pre, h1, h2, h3 => .inr ⟨pre, h1, by omega, by simp [h2], rfl⟩
  | L :: r, k, pre, h1, h2, h3 => by
    unfold scanL
    split
    · rename_i hb
      rw [Bool.and_eq_true, decide_eq_true_eq] at hb
      obtain ⟨hk, hb⟩ := hb
      cases hw : wordsOf L with
      | nil => rw [hw] at hb; cases hb
      | cons w ts =>
        rw [hw] at hb
        have hb : (decide (w = sN k ++ Str.ofString ":") && risingD (ts.map figD) (-1) k) = true := hb
        rw [Bool.and_eq_true] at hb
        obtain ⟨e, p1, p2⟩ := rise_fig hb.2
        have e2 : pre.map laD ++ [PyData.tuple ((w :: ts).tail.map figD)] = (pre ++ [ts.map fv]).map laD := by
          rw [List.map_append, List.tail_cons, e]; rfl
        rw [e2]
        rcases scan_net r (k + 1) (pre ++ [ts.map fv]) (h1.snoc p1 (by rw [h2]; exact p2)) (by simp [h2]) (by omega) with q | ⟨net, a, b, c, d⟩
        · exact .inl q
        · exact .inr ⟨net, a, b, by rw [c]; simp; omega, d⟩
    · exact .inl ⟨k, h3, rfl⟩
theorem read_shape {R : Str} : (∃ n : Nat, n ≤ 10 ∧ scanL (Txt.split R (Str.ofString "\n")) 0 [] = .int n) ∨ ∃ net, NetV net ∧ scanL (Txt.split R (Str.ofString "\n")) 0 [] = netD net := by
  rcases scan_net (Txt.split R (Str.ofString "\n")) 0 [] NetOk.nil rfl (by omega) with q | ⟨net, a, b, c, d⟩
  · exact .inl q
  · refine .inr ⟨net, ⟨a, ?_, b⟩, d⟩
    have := List.length_pos_iff.mpr (split_ne R (Str.ofString "\n"))
    omega
end DL

namespace DL
open PySem L2 TL
theorem ok_appI {a b : Str} (ha : PyData.strOk a = true) (hb : PyData.strOk b = true) : PyData.strOk (a ++ b) = true := by
  unfold PyData.strOk at *
  show (a.cps ++ b.cps).all _ = true
  rw [Array.all_append, ha, hb]; rfl
def GT (n : Nat) (R : Str) : Prop := PyData.strOk R = true ∧ R.length ≤ n
theorem add_GT {a b : Str} {m n : Nat} (ha : GT m a) (hb : GT n b) (h : m + n ≤ 100000) : oAdd (.str a) (.str b) = .val (.frz (.str (a ++ b))) ∧ GT (m + n) (a ++ b) := by
  have h1 : a.length + b.length ≤ lim := by have := ha.2; have := hb.2; unfold lim; omega
  refine ⟨?_, ok_appI ha.1 hb.1, by rw [len_app]; have := ha.2; have := hb.2; omega⟩
  show (if _ then _ else _) = _
  rw [if_pos h1]
theorem ok_joinI {s : Str} (hs : PyData.strOk s = true) : ∀ ys : List Str, (∀ y ∈ ys, PyData.strOk y = true) → PyData.strOk (Str.join s ys) = true
  | [], _ => by show PyData.strOk Str.empty = true; decide +kernel
  | [y], h => h y (by simp)
  | x :: y :: ys, h => by
    show PyData.strOk (x ++ s ++ Str.join s (y :: ys)) = true
    exact ok_appI (ok_appI (h x (by simp)) hs) (ok_joinI hs (y :: ys) fun z hz => h z (List.mem_cons_of_mem _ hz))
def totL (ys : List Str) : Nat := (ys.map fun y => y.length + 1).sum
theorem tot_app (a b : List Str) : totL (a ++ b) = totL a + totL b := by unfold totL; rw [List.map_append, List.sum_append]
theorem tot_eq (ys : List Str) : totL ys = (ys.map (·.length)).sum + ys.length := by
  induction ys with
  | nil => rfl
  | cons y ys ih => unfold totL at ih ⊢; simp only [List.map_cons, List.sum_cons, List.length_cons]; omega
theorem join_GT {s : Str} (h1 : s.length ≤ 1) (hs : PyData.strOk s = true) {ys : List Str} (h : ∀ y ∈ ys, PyData.strOk y = true) : GT (totL ys) (Txt.join s ys) := by
  have e : Txt.join s ys = Str.join s ys := PySem.StrLaws.glued_eq_join s ys
  refine ⟨by rw [e]; exact ok_joinI hs ys h, ?_⟩
  refine Nat.le_trans (join_len_le s ys) ?_
  rw [tot_eq]
  have : ys.length * s.length ≤ ys.length * 1 := Nat.mul_le_mul_left _ h1
  omega
theorem tot_split {R s : Str} (h1 : s.length = 1) : totL (Txt.split R s) = R.length + 1 := by
  have e := StrLaws.join_split R s
  have hne := split_ne R s
  generalize Txt.split R s = ys at *
  cases ys with
  | nil => exact (hne rfl).elim
  | cons y ys =>
    have := PyProof.Rows.len_join_cons s y ys
    rw [e, h1] at this
    rw [tot_eq, this]
    simp only [List.length_cons]; omega
theorem sl_GT {R : Str} {n : Nat} (h : GT n R) (hn : n ≤ 100000) (lo hi : Option Int) : ∃ R1, oSl (.str R) lo hi = .val (.frz (.str R1)) ∧ GT n R1 := by
  have hl : R.length ≤ lim := by have := h.2; unfold lim; omega
  refine ⟨cutS R lo hi, ?_, ?_⟩
  · show (if _ then _ else _) = _
    rw [if_pos hl]
  · constructor
    · have h1 := h.1
      unfold PyData.strOk at h1 ⊢
      rw [← Array.all_toList, List.all_eq_true] at h1 ⊢
      intro c hc
      exact h1 c (List.mem_of_mem_drop (List.mem_of_mem_take hc))
    · have : (cutS R lo hi).length ≤ R.length := by
        show ((R.cps.toList.drop (HT.sIx R.length 0 lo)).take (HT.sIx R.length R.length hi - HT.sIx R.length 0 lo)).toArray.size ≤ R.cps.size
        simp; omega
      have := h.2
      omega
end DL

namespace DL
open PySem L2 TL
def spT (l : List Nat) : Str := if l = [] then Str.ofString "none" else rowW (l.map sN)
def stW : Stp → List Str
  | .put s => [Str.ofString "put", sN s]
  | .take s => [Str.ofString "take", sN s]
  | .slide n s => [Str.ofString "slide", sN n, sN s]
def stT (p : List Stp) : Str := if p = [] then Str.ofString "none" else Txt.join (Str.ofString "; ") (p.map fun st => rowW (stW st))
def Stp.small : Stp → Prop
  | .put s => s < 16
  | .take s => s < 16
  | .slide n s => n < 16 ∧ s < 16
def prt : PyData → PyData
  | .int i => .str (sN i.toNat)
  | d => d
theorem strsJ_id (ws : List Str) : strsJ (ws.map .str) = some ws := by
  have := strsJ_map id ws
  rwa [List.map_id] at this
def stNums : Stp → List Nat
  | .put s => [s]
  | .take s => [s]
  | .slide n s => [n, s]
theorem NetV.ne {net : List (List Nat)} (hv : NetV net) : net ≠ [] := by have := hv.one; intro h; rw [h] at this; simp at this
theorem w1 {w : Str} (h : w ∈ ([Str.ofString "spot", Str.ofString "rules", Str.ofString "clear", Str.ofString "net", Str.ofString "back", Str.ofString "lay", Str.ofString "play", Str.ofString "cost", Str.ofString "most", Str.ofString "steps"] : List Str)) : w.length ≤ 1000 ∧ 32 ∉ tl w := by
  have h2 := w_sp w (by simp only [List.mem_cons, List.not_mem_nil, or_false] at h ⊢; rcases h with h | h | h | h | h | h | h | h | h | h <;> simp [h])
  exact ⟨by omega, h2.1⟩
end DL

namespace DL
open PySem L2 TL
def signs5 : Str := Str.ofString "0123456789: -\na.:0 1\n"
theorem signs_ok : ∀ i : Nat, i < 20 → (match atI signs5.cps.toList (i : Int) with | some c => decide (c < 0x110000) | none => false) = true := by decide +kernel
theorem sign_ix (b : Int) : ∃ S, oIx (.str (Str.ofString "0123456789: -\na.:0 1\n")) (.int (b % 20)) = .val (.frz (.str S)) ∧ GT 1 S := by
  obtain ⟨i, hi, h20⟩ : ∃ i : Nat, b % 20 = i ∧ i < 20 := ⟨(b % 20).toNat, by omega, by omega⟩
  have h := signs_ok i h20
  rw [hi]
  split at h
  · rename_i c hc
    refine ⟨⟨#[c]⟩, ?_, ?_, Nat.le_refl 1⟩
    · have hl : signs5.length ≤ lim := by decide +kernel
      show (if signs5.length ≤ lim then (match atI signs5.cps.toList (i : Int) with | some c => OR.val (.frz (.str ⟨#[c]⟩)) | none => .no) else .no) = _
      rw [if_pos hl, hc]
    · unfold PyData.strOk
      simpa using of_decide_eq_true h
  · cases h
def odd16s : List Str := [Str.ofString "", Str.ofString "0", Str.ofString "00", Str.ofString "01", Str.ofString "-0", Str.ofString "-1", Str.ofString "10", Str.ofString ":", Str.ofString "0:", Str.ofString "1:", Str.ofString "a", Str.ofString "1.0", Str.ofString "9", Str.ofString "+1", Str.ofString "0 0", Str.ofString "2"]
theorem odd16_GT : ∀ o ∈ odd16s, PyData.strOk o = true ∧ o.length ≤ 3 := by decide +kernel
theorem tot_take (k : Nat) (ys : List Str) : totL (ys.take k) ≤ totL ys := by
  have := tot_app (ys.take k) (ys.drop k)
  rw [List.take_append_drop] at this
  omega
theorem tot_drop (k : Nat) (ys : List Str) : totL (ys.drop k) ≤ totL ys := by
  have := tot_app (ys.take k) (ys.drop k)
  rw [List.take_append_drop] at this
  omega
theorem GT.up {m n : Nat} {R : Str} (h : GT m R) (hn : m ≤ n) : GT n R := ⟨h.1, Nat.le_trans h.2 hn⟩
theorem join_lines {ys : List Str} {n : Nat} (h : ∀ y ∈ ys, PyData.strOk y = true) (hn : totL ys ≤ n) (h9 : n ≤ 900) : strsJ (ys.map .str) = some ys ∧ (ys.map (·.length)).sum + ys.length * (Str.ofString "\n").length ≤ 16777216 ∧ GT n (Txt.join (Str.ofString "\n") ys) := by
  have h1 : (Str.ofString "\n").length = 1 := by decide +kernel
  have := tot_eq ys
  refine ⟨strsJ_id ys, by rw [h1]; omega, ?_⟩
  exact (join_GT (by omega) (by decide +kernel) h).up hn
theorem tot_set (o : Str) : ∀ (ys : List Str) (j : Nat), totL (ys.set j o) ≤ totL ys + (o.length + 1)
  | [], j => by simp [totL]
  | y :: ys, 0 => by unfold totL; simp only [List.set_cons_zero, List.map_cons, List.sum_cons]; omega
  | y :: ys, j + 1 => by
    have := tot_set o ys j
    unfold totL at this ⊢
    simp only [List.set_cons_succ, List.map_cons, List.sum_cons]; omega
theorem set_mem {o y : Str} {ys : List Str} {j : Nat} (h : y ∈ ys.set j o) : y = o ∨ y ∈ ys := by
  rcases List.mem_or_eq_of_mem_set h with h | h
  · exact .inr h
  · exact .inl h
theorem sList_strs (ys : List Str) (j : Nat) (o : Str) (h : j < ys.length) : sList (.list (ys.map .str)) (.int (j : Nat)) (.str o) = some (.list ((ys.set j o).map .str)) := by
  have hix : ixN (ys.map PyData.str).length (j : Int) = some j := by
    unfold ixN
    rw [List.length_map]
    simp; omega
  show (match ixN (ys.map PyData.str).length (j : Int) with | some j => some (PyData.list ((ys.map PyData.str).set j (.str o))) | none => none) = _
  rw [hix, List.map_set]
theorem rgD_rangeE (a k : Nat) : rgD (a : Int) k = (List.range' a k).map nD := by
  unfold rgD
  rw [List.range'_eq_map_range, List.map_map]
  apply List.map_congr_left
  intro i _
  show PyData.int _ = PyData.int _
  congr 1
theorem rg2_11 {n : Nat} (h : n ≤ 1000) : rg2 [.int (n : Nat), .int 11] = some ((List.range' n (11 - n)).map nD) := by
  unfold rg2
  dsimp only
  rw [if_pos (by omega), show ((11 : Int) - n).toNat = 11 - n by omega, rgD_rangeE]
def lnS (x : Nat) : Str := Str.ofString "\n" ++ sN x ++ Str.ofString ":"
theorem lnS_ok : ∀ x < 11, PyData.strOk (lnS x) = true ∧ (lnS x).length ≤ 4 ∧ (Str.ofString "\n").length + (sN x).length ≤ lim ∧ (Str.ofString "\n" ++ sN x).length + (Str.ofString ":").length ≤ lim := by decide +kernel
theorem ev_bent5 {R : Str} (hG : GT 100 R) (b : Int) : ∃ c d, m__law_bent_v2 (.list [.int b]) [.str R] = .ok c d ∧ (∃ b' : Int, d = .list [.int b']) ∧ ∃ R', c = .frz (.str R') ∧ Good R' := by
  obtain ⟨g1, g2⟩ := hG
  obtain ⟨hs, hfine, hwok, hLn⟩ := good_lines (R := R) ⟨g1, by omega⟩
  have hn1 : (Str.ofString "\n").length = 1 := by decide +kernel
  have hsp1 : (Str.ofString " ").length = 1 := by decide +kernel
  have htot := tot_split (R := R) hn1
  obtain ⟨hLo, _⟩ := split_parts hn1 g1
  have hne := split_ne R (Str.ofString "\n")
  generalize Txt.split R (Str.ofString "\n") = Ls at *
  have hpos : 0 < Ls.length := List.length_pos_iff.mpr hne
  have hln : oLen [.list (Ls.map PyData.str)] = .val (.frz (.int Ls.length)) := by simp [show Ls.length ≤ lim by unfold lim; omega]
  have hRl : oLen [.str R] = .val (.frz (.int R.length)) := oLen_str (by omega)
  have t1 := ev_take b Ls.length (by omega) (by omega)
  obtain ⟨a, ha, ha2⟩ : ∃ k : Nat, b % (Ls.length : Int) = k ∧ k < Ls.length := ⟨(b % (Ls.length : Int)).toNat, by
    have := Int.emod_nonneg b (show (Ls.length : Int) ≠ 0 by omega); omega, by
    have := Int.emod_lt_of_pos b (show 0 < (Ls.length : Int) by omega); omega⟩
  rw [ha] at t1
  generalize b / (Ls.length : Int) = b1 at t1
  have t2 := ev_take b1 ((R.length : Int) + 1) (by omega) (by omega)
  generalize b1 % ((R.length : Int) + 1) = wh at t2
  generalize b1 / ((R.length : Int) + 1) = b2 at t2
  have t3 := ev_take b2 20 (by decide) (by decide)
  obtain ⟨S, hS, gS⟩ := sign_ix b2
  generalize b2 / 20 = b3 at t3
  have t4 := ev_take b3 8 (by decide) (by decide)
  have hw8 : b3 % 8 = 0 ∨ b3 % 8 = 1 ∨ b3 % 8 = 2 ∨ b3 % 8 = 3 ∨ b3 % 8 = 4 ∨ b3 % 8 = 5 ∨ b3 % 8 = 6 ∨ b3 % 8 = 7 := by omega
  generalize b3 / 8 = b4 at t4
  have c1 : cutD (Ls.map PyData.str) none (some (a : Int)) = (Ls.take a).map .str := by rw [cutD_map, cutL_take]
  have c2 : cutD (Ls.map PyData.str) (some ((a : Int) + 1)) none = (Ls.drop (a + 1)).map .str := by rw [cutD_map, show (a : Int) + 1 = ((a + 1 : Nat) : Int) by omega, cutL_drop]
  have c3 : cutD (Ls.map PyData.str) (some (a : Int)) none = (Ls.drop a).map .str := by rw [cutD_map, cutL_drop]
  have hat : atI (Ls.map PyData.str) (a : Int) = some (.str Ls[a]) := by rw [atI_nat, List.getElem?_map, List.getElem?_eq_getElem ha2]; rfl
  have hla : PyData.strOk Ls[a] = true ∧ Ls[a].length ≤ R.length := hLo _ (List.getElem_mem ha2)
  have oka : ∀ k, ∀ y ∈ Ls.take k, PyData.strOk y = true := fun k y hy => (hLo y (List.mem_of_mem_take hy)).1
  have okd : ∀ k, ∀ y ∈ Ls.drop k, PyData.strOk y = true := fun k y hy => (hLo y (List.mem_of_mem_drop hy)).1
  have ta := tot_take a Ls
  have td := tot_drop a Ls
  have td1 := tot_drop (a + 1) Ls
  have la : (Ls.take a).length ≤ 1000 := by rw [List.length_take]; omega
  have ld : (Ls.drop a).length ≤ 1000 := by rw [List.length_drop]; omega
  have ld1 : (Ls.drop (a + 1)).length ≤ 1000 := by rw [List.length_drop]; omega
  have addL : ∀ (A B : List Str), A.length + B.length ≤ 5000 → oAdd (.list (A.map .str)) (.list (B.map .str)) = .val (.own false (.list ((A ++ B).map .str))) := fun A B h => by
    rw [List.map_append]
    show (if _ then _ else _) = _
    rw [if_pos (by rw [List.length_map, List.length_map]; unfold lim; omega)]
  apply runI_ex; intro K k
  rcases hw8 with h8 | h8 | h8 | h8 | h8 | h8 | h8 | h8
  · rw [h8] at t4
    obtain ⟨R1, s1, G1⟩ := sl_GT (R := R) (n := 100) ⟨g1, g2⟩ (by decide) none (some wh)
    obtain ⟨R2, s2, G2⟩ := sl_GT (R := R) (n := 100) ⟨g1, g2⟩ (by decide) (some wh) none
    obtain ⟨p1, p2⟩ := add_GT G1 gS (by decide)
    obtain ⟨p3, p4⟩ := add_GT p2 G2 (by decide)
    generalize Ls.map PyData.str = LD at *
    simp [c__law_bent_v2, hs, hln, hRl, t1, t2, t3, hS, t4, s1, s2, p1, p3]
    exact k.rt _ _ _ rfl ⟨⟨_, rfl⟩, _, rfl, ⟨p4.1, by have := p4.2; omega⟩⟩
  · rw [h8] at t4
    obtain ⟨R1, s1, G1⟩ := sl_GT (R := R) (n := 100) ⟨g1, g2⟩ (by decide) none (some wh)
    obtain ⟨R2, s2, G2⟩ := sl_GT (R := R) (n := 100) ⟨g1, g2⟩ (by decide) (some (wh + 1)) none
    obtain ⟨p1, p2⟩ := add_GT (b := Str.ofString "") (n := 0) G1 ⟨by decide +kernel, by decide +kernel⟩ (by decide)
    obtain ⟨p3, p4⟩ := add_GT p2 G2 (by decide)
    generalize Ls.map PyData.str = LD at *
    simp [c__law_bent_v2, hs, hln, hRl, t1, t2, t3, hS, t4, s1, s2, p1, p3]
    exact k.rt _ _ _ rfl ⟨⟨_, rfl⟩, _, rfl, ⟨p4.1, by have := p4.2; omega⟩⟩
  · rw [h8] at t4
    obtain ⟨R1, s1, G1⟩ := sl_GT (R := R) (n := 100) ⟨g1, g2⟩ (by decide) none (some wh)
    obtain ⟨R2, s2, G2⟩ := sl_GT (R := R) (n := 100) ⟨g1, g2⟩ (by decide) (some (wh + 1)) none
    obtain ⟨p1, p2⟩ := add_GT G1 gS (by decide)
    obtain ⟨p3, p4⟩ := add_GT p2 G2 (by decide)
    have hat2 : atI [PyData.str S, .str (Str.ofString ""), .str S] 2 = some (.str S) := rfl
    generalize Ls.map PyData.str = LD at *
    simp [c__law_bent_v2, hs, hln, hRl, t1, t2, t3, hS, t4, s1, s2, p1, p3, hat2]
    exact k.rt _ _ _ rfl ⟨⟨_, rfl⟩, _, rfl, ⟨p4.1, by have := p4.2; omega⟩⟩
  · rw [h8] at t4
    obtain ⟨j1, j2, j3⟩ := join_lines (ys := Ls.take a ++ Ls.drop (a + 1)) (n := 300) (fun y hy => (List.mem_append.mp hy).elim (oka a y) (okd _ y)) (by rw [tot_app]; omega) (by decide)
    have q1 := addL (Ls.take a) (Ls.drop (a + 1)) (by omega)
    generalize Ls.take a ++ Ls.drop (a + 1) = V at *
    generalize V.map PyData.str = VD at *
    generalize (Ls.take a).map PyData.str = A at *
    generalize (Ls.drop (a + 1)).map PyData.str = B at *
    generalize Ls.map PyData.str = LD at *
    simp [c__law_bent_v2, hs, hln, hRl, t1, t2, t3, hS, t4, c1, c2, q1, j1, j2]
    exact k.rt _ _ _ rfl ⟨⟨_, rfl⟩, _, rfl, ⟨j3.1, by have := j3.2; omega⟩⟩
  · rw [h8] at t4
    obtain ⟨j1, j2, j3⟩ := join_lines (ys := Ls.take a ++ [Ls[a]] ++ Ls.drop a) (n := 400) (fun y hy => by
      rcases List.mem_append.mp hy with hy | hy
      · rcases List.mem_append.mp hy with hy | hy
        · exact oka a y hy
        · rw [List.mem_singleton.mp hy]; exact hla.1
      · exact okd _ y hy) (by
      rw [tot_app, tot_app]
      have : totL [Ls[a]] = Ls[a].length + 1 := by unfold totL; simp
      omega) (by decide)
    have q1 := addL (Ls.take a) [Ls[a]] (by simp; omega)
    have q2 := addL (Ls.take a ++ [Ls[a]]) (Ls.drop a) (by rw [List.length_append]; simp; omega)
    generalize Ls[a] = La at *
    have e1 : ([La] : List Str).map PyData.str = [.str La] := rfl
    rw [e1] at q1
    generalize Ls.take a ++ [La] ++ Ls.drop a = V at *
    generalize V.map PyData.str = VD at *
    generalize (Ls.take a ++ [La]).map PyData.str = AB at *
    generalize (Ls.take a).map PyData.str = A at *
    generalize (Ls.drop a).map PyData.str = B at *
    generalize Ls.map PyData.str = LD at *
    simp [c__law_bent_v2, hs, hln, hRl, t1, t2, t3, hS, t4, c1, c3, hat, q1, q2, j1, j2]
    exact k.rt _ _ _ rfl ⟨⟨_, rfl⟩, _, rfl, ⟨j3.1, by have := j3.2; omega⟩⟩
  · rw [h8] at t4
    obtain ⟨j1, j2, j3⟩ := join_lines (ys := Ls.drop a ++ Ls.take a) (n := 300) (fun y hy => (List.mem_append.mp hy).elim (okd a y) (oka _ y)) (by rw [tot_app]; omega) (by decide)
    have q1 := addL (Ls.drop a) (Ls.take a) (by omega)
    generalize Ls.drop a ++ Ls.take a = V at *
    generalize V.map PyData.str = VD at *
    generalize (Ls.take a).map PyData.str = A at *
    generalize (Ls.drop a).map PyData.str = B at *
    generalize Ls.map PyData.str = LD at *
    simp [c__law_bent_v2, hs, hln, hRl, t1, t2, t3, hS, t4, c1, c3, q1, j1, j2]
    exact k.rt _ _ _ rfl ⟨⟨_, rfl⟩, _, rfl, ⟨j3.1, by have := j3.2; omega⟩⟩
  · rw [h8] at t4
    obtain ⟨w1, w2⟩ := split_parts (R := Ls[a]) hsp1 hla.1
    have wt := tot_split (R := Ls[a]) hsp1
    have wne := split_ne Ls[a] (Str.ofString " ")
    have hws : oSplit (Str.ofString " ") (.str Ls[a]) = .val (.own false (.list ((Txt.split Ls[a] (Str.ofString " ")).map .str))) := oSplit_sp (by have := hla.2; omega)
    generalize Txt.split Ls[a] (Str.ofString " ") = Ws at *
    have wpos : 0 < Ws.length := List.length_pos_iff.mpr wne
    have wl := hla.2
    have t5 := ev_take b4 16 (by decide) (by decide)
    obtain ⟨o, ho, hox⟩ := pick (odd16s.map .str) b4 16 (by decide +kernel) (by decide)
    obtain ⟨o, hom, rfl⟩ := List.mem_map.mp ho
    have hox : atI [.str (Str.ofString ""), .str (Str.ofString "0"), .str (Str.ofString "00"), .str (Str.ofString "01"), .str (Str.ofString "-0"), .str (Str.ofString "-1"), .str (Str.ofString "10"), .str (Str.ofString ":"), .str (Str.ofString "0:"), .str (Str.ofString "1:"), .str (Str.ofString "a"), .str (Str.ofString "1.0"), .str (Str.ofString "9"), .str (Str.ofString "+1"), .str (Str.ofString "0 0"), .str (Str.ofString "2")] (b4 % 16) = some (PyData.str o) := hox
    obtain ⟨oo1, oo2⟩ := odd16_GT o hom
    have t6 := ev_take (b4 / 16) Ws.length (by omega) (by omega)
    obtain ⟨jx, hj, hj2⟩ : ∃ k : Nat, (b4 / 16) % (Ws.length : Int) = k ∧ k < Ws.length := ⟨((b4 / 16) % (Ws.length : Int)).toNat, by
      have := Int.emod_nonneg (b4 / 16) (show (Ws.length : Int) ≠ 0 by omega); omega, by
      have := Int.emod_lt_of_pos (b4 / 16) (show 0 < (Ws.length : Int) by omega); omega⟩
    rw [hj] at t6
    have hwl : oLen [.list (Ws.map PyData.str)] = .val (.frz (.int Ws.length)) := by simp [show Ws.length ≤ lim by unfold lim; omega]
    have hset := sList_strs Ws jx o hj2
    have tset := tot_set o Ws jx
    have okW : ∀ y ∈ Ws.set jx o, PyData.strOk y = true := fun y hy => by
      rcases set_mem hy with rfl | hy
      · exact oo1
      · exact (w1 y hy).1
    generalize Ws.set jx o = W2 at *
    have jw := join_GT (s := Str.ofString " ") (by omega) (by decide +kernel) okW
    have jw1 := strsJ_id W2
    have jw2 : (W2.map (·.length)).sum + W2.length * (Str.ofString " ").length ≤ 16777216 := by
      have := tot_eq W2
      rw [hsp1]; omega
    obtain ⟨J, hJ⟩ : ∃ J, J = Txt.join (Str.ofString " ") W2 := ⟨_, rfl⟩
    rw [← hJ] at jw
    obtain ⟨j1, j2, j3⟩ := join_lines (ys := Ls.take a ++ [J] ++ Ls.drop (a + 1)) (n := 600) (fun y hy => by
      rcases List.mem_append.mp hy with hy | hy
      · rcases List.mem_append.mp hy with hy | hy
        · exact oka a y hy
        · rw [List.mem_singleton.mp hy]; exact jw.1
      · exact okd _ y hy) (by
      rw [tot_app, tot_app]
      have : totL [J] = J.length + 1 := by unfold totL; simp
      have := jw.2
      omega) (by decide)
    have q1 := addL (Ls.take a) [J] (by simp; omega)
    have q2 := addL (Ls.take a ++ [J]) (Ls.drop (a + 1)) (by rw [List.length_append]; simp; omega)
    have e1 : ([J] : List Str).map PyData.str = [.str J] := rfl
    rw [e1] at q1
    generalize Ls[a] = La at *
    generalize Ls.take a ++ [J] ++ Ls.drop (a + 1) = V at *
    generalize V.map PyData.str = VD at *
    generalize (Ls.take a ++ [J]).map PyData.str = AB at *
    generalize (Ls.take a).map PyData.str = A at *
    generalize (Ls.drop (a + 1)).map PyData.str = B at *
    generalize W2.map PyData.str = W2D at *
    generalize Ws.map PyData.str = WD at *
    generalize Ls.map PyData.str = LD at *
    simp [c__law_bent_v2, hs, hln, hRl, t1, t2, t3, hS, t4, hat, hws, t5, hox, hwl, t6, hset, jw1, jw2, ← hJ, c1, c2, q1, q2, j1, j2]
    exact k.rt _ _ _ rfl ⟨⟨_, rfl⟩, _, rfl, ⟨j3.1, by have := j3.2; omega⟩⟩
  · rw [h8] at t4
    obtain ⟨w1, w2⟩ := split_parts (R := Ls[a]) hsp1 hla.1
    have wt := tot_split (R := Ls[a]) hsp1
    have wne := split_ne Ls[a] (Str.ofString " ")
    have hws : oSplit (Str.ofString " ") (.str Ls[a]) = .val (.own false (.list ((Txt.split Ls[a] (Str.ofString " ")).map .str))) := oSplit_sp (by have := hla.2; omega)
    generalize Txt.split Ls[a] (Str.ofString " ") = Ws at *
    have wpos : 0 < Ws.length := List.length_pos_iff.mpr wne
    have wl := hla.2
    have t5 := ev_take b4 16 (by decide) (by decide)
    obtain ⟨o, ho, hox⟩ := pick (odd16s.map .str) b4 16 (by decide +kernel) (by decide)
    obtain ⟨o, hom, rfl⟩ := List.mem_map.mp ho
    have hox : atI [.str (Str.ofString ""), .str (Str.ofString "0"), .str (Str.ofString "00"), .str (Str.ofString "01"), .str (Str.ofString "-0"), .str (Str.ofString "-1"), .str (Str.ofString "10"), .str (Str.ofString ":"), .str (Str.ofString "0:"), .str (Str.ofString "1:"), .str (Str.ofString "a"), .str (Str.ofString "1.0"), .str (Str.ofString "9"), .str (Str.ofString "+1"), .str (Str.ofString "0 0"), .str (Str.ofString "2")] (b4 % 16) = some (PyData.str o) := hox
    obtain ⟨oo1, oo2⟩ := odd16_GT o hom
    have t6 := ev_take (b4 / 16) Ws.length (by omega) (by omega)
    obtain ⟨jx, hj, hj2⟩ : ∃ k : Nat, (b4 / 16) % (Ws.length : Int) = k ∧ k < Ws.length := ⟨((b4 / 16) % (Ws.length : Int)).toNat, by
      have := Int.emod_nonneg (b4 / 16) (show (Ws.length : Int) ≠ 0 by omega); omega, by
      have := Int.emod_lt_of_pos (b4 / 16) (show 0 < (Ws.length : Int) by omega); omega⟩
    rw [hj] at t6
    have hwl : oLen [.list (Ws.map PyData.str)] = .val (.frz (.int Ws.length)) := by simp [show Ws.length ≤ lim by unfold lim; omega]
    have hset := sList_strs Ws jx o hj2
    have tset := tot_set o Ws jx
    have okW : ∀ y ∈ Ws.set jx o, PyData.strOk y = true := fun y hy => by
      rcases set_mem hy with rfl | hy
      · exact oo1
      · exact (w1 y hy).1
    generalize Ws.set jx o = W2 at *
    have jw := join_GT (s := Str.ofString " ") (by omega) (by decide +kernel) okW
    have jw1 := strsJ_id W2
    have jw2 : (W2.map (·.length)).sum + W2.length * (Str.ofString " ").length ≤ 16777216 := by
      have := tot_eq W2
      rw [hsp1]; omega
    have hlim7 : Ls.length ≤ 1000 := hLn
    have hrg := rg2_11 hlim7
    have hxs : ∀ x ∈ List.range' Ls.length (11 - Ls.length), x < 11 := fun x hx => by
      have := List.mem_range'_1.mp hx; omega
    have hxl : (List.range' Ls.length (11 - Ls.length)).length ≤ 11 := by rw [List.length_range']; omega
    generalize hXS : List.range' Ls.length (11 - Ls.length) = XS at *
    have hc := comp1 (v := 9) (ci := iArgs rg2 [(.ex (cOpN oLen [(.nm 2)])), (.ex (cK (.int 11)))]) (ct := tYesC) (ce := cOp2 oAdd (.ex (cOp2 oAdd (.ex (cK (.str (Str.ofString "\n")))) (.ex (cOpN oStr [(.nm 9)])))) (.ex (cK (.str (Str.ofString ":")))))
      (env := [.own true (.list [.int (b4 / 16 / Ws.length)]), .frz (.str R), .own false (.list (Ls.map .str)), .frz (.int (a : Nat)), .frz (.int wh), .frz (.str S), .frz (.int 7), .own false (.list (odd16s.map .str)), .own false (.list (W2.map .str)), .emp]) (f := nD) (xs := XS) (fun _ => true) (fun x => .str (lnS x))
      (by simp only [iArgs, hln, hrg]; simp [hln, hrg]) (by simp) (by simp) (fun x hx => by
        obtain ⟨z1, z2, z3, z4⟩ := lnS_ok x (hxs x hx)
        have y1 : oAdd (.str (Str.ofString "\n")) (.str (sN x)) = .val (.frz (.str (Str.ofString "\n" ++ sN x))) := by
          show (if _ then _ else _) = _
          rw [if_pos z3]
        have y2 : oAdd (.str (Str.ofString "\n" ++ sN x)) (.str (Str.ofString ":")) = .val (.frz (.str (lnS x))) := by
          show (if _ then _ else _) = _
          rw [if_pos z4]; rfl
        simp [tYesC, oStr_nat2' (show x < 1000 by have := hxs x hx; omega), y1, y2])
    rw [filterT] at hc
    have okX : ∀ y ∈ XS.map lnS, PyData.strOk y = true ∧ y.length ≤ 4 := fun y hy => by
      obtain ⟨x, hx, rfl⟩ := List.mem_map.mp hy
      obtain ⟨z1, z2, _⟩ := lnS_ok x (hxs x hx)
      exact ⟨z1, z2⟩
    have hsl := sum_len 4 (XS.map lnS) fun y hy => (okX y hy).2
    have hml : (XS.map lnS).length ≤ 11 := by rw [List.length_map]; exact hxl
    have h0 : (Str.ofString "").length = 0 := by decide +kernel
    have jn1 : strsJ (XS.map fun x => PyData.str (lnS x)) = some (XS.map lnS) := strsJ_map lnS XS
    have jn2 : ((XS.map lnS).map (·.length)).sum + (XS.map lnS).length * (Str.ofString "").length ≤ 16777216 := by rw [h0]; omega
    have jn3 : GT 60 (Txt.join (Str.ofString "") (XS.map lnS)) := (join_GT (by omega) (by decide +kernel) fun y hy => (okX y hy).1).up (by rw [tot_eq]; omega)
    obtain ⟨f1, f2⟩ := add_GT (a := R) (m := 100) ⟨g1, g2⟩ jn3 (by decide)
    simp only [odd16s, List.map_cons, List.map_nil] at hc
    have hl7 : R.length + (Txt.join (Str.ofString "") (XS.map lnS)).length ≤ lim := by have := jn3.2; unfold lim; omega
    generalize XS.map lnS = XL at *
    generalize (XS.map fun x => PyData.str (lnS x)) = XD at *
    generalize Ls[a] = La at *
    generalize W2.map PyData.str = W2D at *
    generalize Ws.map PyData.str = WD at *
    generalize Ls.map PyData.str = LD at *
    simp [c__law_bent_v2, hs, hln, hRl, t1, t2, t3, hS, t4, hat, hws, t5, hox, hwl, t6, hset, hc, jn1, jn2, hl7]
    exact k.rt _ _ _ rfl ⟨⟨_, rfl⟩, _, rfl, ⟨f2.1, by have := f2.2; omega⟩⟩
end DL

namespace DL
open PySem L2 TL
theorem tot_le {B : Nat} : ∀ ys : List Str, (∀ y ∈ ys, y.length ≤ B) → totL ys ≤ ys.length * (B + 1)
  | [], _ => by simp [totL]
  | y :: ys, h => by
    have h1 := h y List.mem_cons_self
    have h2 := tot_le ys fun z hz => h z (List.mem_cons_of_mem _ hz)
    unfold totL at h2 ⊢
    simp only [List.map_cons, List.sum_cons, List.length_cons, Nat.succ_mul]; omega
theorem sN_one : ∀ n < 10, PyData.strOk (sN n) = true ∧ (sN n).length = 1 ∧ PyData.strOk (sN n ++ Str.ofString ":") = true ∧ (sN n ++ Str.ofString ":").length = 2 := by decide +kernel
theorem row_GT {i : Nat} {l : List Nat} (hi : i < 5) (hl : ∀ x ∈ l, x < i) (hp : l.Pairwise (· < ·)) : GT 11 (rowS i l) := by
  have hn : l.length ≤ i := (⟨hp, hl⟩ : LayV i l).len
  have ok : ∀ y ∈ ((sN i ++ Str.ofString ":") :: l.map sN), PyData.strOk y = true := fun y hy => by
    rcases List.mem_cons.mp hy with rfl | hy
    · exact (sN_one i (by omega)).2.2.1
    · obtain ⟨x, hx, rfl⟩ := List.mem_map.mp hy
      exact (sN_one x (by have := hl x hx; omega)).1
  have h1 : (Str.ofString " ").length ≤ 1 := by decide +kernel
  have g := join_GT h1 (by decide +kernel) ok
  refine GT.up g ?_
  have t2 := tot_le (B := 1) (l.map sN) fun y hy => by
    obtain ⟨x, hx, rfl⟩ := List.mem_map.mp hy
    have := (sN_one x (by have := hl x hx; omega)).2.1; omega
  rw [List.length_map] at t2
  have t1 : totL ((sN i ++ Str.ofString ":") :: l.map sN) = (sN i ++ Str.ofString ":").length + 1 + totL (l.map sN) := by unfold totL; simp
  rw [t1, (sN_one i (by omega)).2.2.2]
  omega
theorem text_GT {net : List (List Nat)} (hv : NetV net) (h5 : net.length ≤ 5) : GT 60 (textT net) := by
  have ok : ∀ t ∈ rowsT net, GT 11 t := fun t ht => by
    unfold rowsT at ht
    obtain ⟨q, hq, rfl⟩ := List.mem_map.mp ht
    have hg := List.mem_zipIdx_iff_getElem?.mp hq
    obtain ⟨a, b, c, d⟩ := row_ok hv hg
    have := (List.getElem?_eq_some_iff.mp hg).1
    exact row_GT (by omega) b d
  have hl : (rowsT net).length = net.length := by unfold rowsT; rw [List.length_map, List.length_zipIdx]
  have h1 : (Str.ofString "\n").length ≤ 1 := by decide +kernel
  have g := join_GT h1 (by decide +kernel) fun t ht => (ok t ht).1
  refine GT.up g ?_
  have := tot_le (B := 11) (rowsT net) fun t ht => (ok t ht).2
  rw [hl] at this
  omega
theorem show_net5 {net : List (List Nat)} (hv : NetV net) : showOk (netD net) = true := by
  have h10 := hv.ten
  refine show_tuple shL (fun l hl => ?_) (by omega)
  obtain ⟨i, hi, rfl⟩ := List.getElem_of_mem hl
  obtain ⟨a, b, c, _⟩ := row_ok hv (List.getElem?_eq_getElem hi)
  refine ⟨fun n hn => ?_, by omega⟩
  have := b n hn
  exact Nat.lt_of_lt_of_le (show n < 10 by omega) (by decide)
theorem both5 {R : Str} (h : Good R) : ∃ v b, m__law_read [.str R] = .ok (.frz v) ∧ m__law_told [.str R] = .ok (.frz v) ∧ isiD "tuple" v = some b ∧ showOk v = true := by
  obtain ⟨v, a, b, e⟩ := both_read h
  rcases read_shape (R := R) with ⟨n, hn, e2⟩ | ⟨net, hv, e2⟩
  · rw [e, e2] at a b
    have hsn : ∀ n, n < 11 → showOk (.int (n : Nat)) = true := by decide +kernel
    exact ⟨_, _, a, b, rfl, hsn n (by omega)⟩
  · rw [e, e2] at a b
    exact ⟨_, _, a, b, rfl, show_net5 hv⟩
theorem odd_cases {x : PyData} (h : odd16 x) : isiD "str" x = some true ∨ isiD "str" x = some false := by
  simp only [odd16, List.mem_cons, List.not_mem_nil, or_false] at h
  rcases h with rfl | rfl | rfl | rfl | rfl | rfl | rfl | rfl | rfl | rfl | rfl | rfl | rfl | rfl | rfl | rfl <;> first | exact .inl rfl | exact .inr rfl
theorem oNe_sm5 (a : Str) : oNe (.str a) (.str a) = .val (.frz (.bool false)) := by
  have : oNe (.str a) (.str a) = .val (.frz (.bool (!(a == a)))) := rfl
  rw [this]; simp
theorem law_true_05 (ns : List Int) : m_law_v5 [scriptD ns] = .ok (.frz (.bool true)) := by
  refine law_outer (by decide) (by decide) (fun js => ∃ (j1 j2 j3 j4 j5 j6 j7 : Jk), js = [j1.c, j2.c, j3.c, j4.c, j5.c, j6.c, j7.c]) ⟨jkE, jkE, jkE, jkE, jkE, jkE, jkE, rfl⟩ ?_
  rintro k hk js ⟨j1, j2, j3, j4, j5, j6, j7, rfl⟩ K' hnx hct
  obtain ⟨rr, hbox, b, rfl⟩ := ev_box ns k hk
  obtain ⟨rr, d, hnet, ⟨b2, rfl⟩, net, rfl, hok, h1, h2⟩ := ev_net b 5 (by decide) (by decide)
  have hv : NetV net := ⟨hok, h1, by omega⟩
  have htx := ev_ltext hv
  have hT := text_GT hv (by omega)
  obtain ⟨c, d, hodd, ⟨b3, rfl⟩, x, rfl, hx⟩ := ev_odd b2
  generalize textT net = T at *
  obtain ⟨c, d, hb1, ⟨b4, rfl⟩, R1, rfl, G1⟩ := ev_bent5 (hT.up (by decide)) b3
  obtain ⟨c, d, hb2, ⟨b5, rfl⟩, R2, rfl, G2⟩ := ev_bent5 (hT.up (by decide)) b4
  obtain ⟨f1, f2⟩ := add_GT (b := Str.ofString "\n") (n := 1) hT ⟨by decide +kernel, by decide +kernel⟩ (by decide)
  simp [hbox, hnet, htx, hodd, hb1, hb2, f1]
  refine sat_forT (f := PyData.str) (xs := [R1, R2, T ++ Str.ofString "\n", Str.ofString "", T]) (fun rest e => ∃ (j5 j6 j7 : Jk), e = [.frz (scriptD ns), .frz (.int (k:Nat)), .own false (.list [.int b5]), .frz (.str T), .frz x, j5.c, j6.c, j7.c] ∧ ∀ R ∈ rest, Good R) ⟨j5, j6, j7, rfl, ?_⟩ ?_ ?_
  · intro R hR
    simp only [List.mem_cons, List.not_mem_nil, or_false] at hR
    rcases hR with rfl | rfl | rfl | rfl | rfl
    · exact G1
    · exact G2
    · exact ⟨f2.1, by have := f2.2; omega⟩
    · exact ⟨by decide +kernel, by decide +kernel⟩
    · exact ⟨hT.1, by have := hT.2; omega⟩
  · rintro R rest e ⟨j5, j6, j7, rfl, hR⟩ K2 L
    obtain ⟨v, bb, a1, a2, a3, a4⟩ := both5 (hR R List.mem_cons_self)
    have hb : oNe (.bool bb) (.bool bb) = .val (.frz (.bool false)) := by cases bb <;> rfl
    simp [a1, a2, a3, a4, hb, oNe_sm5]
    exact L.nx _ ⟨⟨_, (by first | rfl | exact Jk.u _ | exact Jm.m _ | exact Jm.lck _ | simp | assumption)⟩, ⟨_, (by first | rfl | exact Jk.u _ | exact Jm.m _ | exact Jm.lck _ | simp | assumption)⟩, ⟨_, (by first | rfl | exact Jk.u _ | exact Jm.m _ | exact Jm.lck _ | simp | assumption)⟩, rfl, fun y hy => hR y (List.mem_cons_of_mem _ hy)⟩
  · rintro e ⟨j5, j6, j7, rfl, -⟩
    have hl : m__law_told [.list [.str T]] = .ok (.frz (.int 0)) := ev_told0 rfl
    have hs : showOk (.int 0) = true := by decide +kernel
    have hr : (PyData.int 0).shown = Str.ofString "0" := by decide +kernel
    rcases odd_cases hx with h | h
    · simp [h, hl, hs, hr, oNe_sm5]
      exact hnx _ ⟨⟨_, (by first | rfl | exact Jk.u _ | exact Jm.m _ | exact Jm.lck _ | simp | assumption)⟩, ⟨_, (by first | rfl | exact Jk.u _ | exact Jm.m _ | exact Jm.lck _ | simp | assumption)⟩, ⟨_, (by first | rfl | exact Jk.u _ | exact Jm.m _ | exact Jm.lck _ | simp | assumption)⟩, ⟨_, (by first | rfl | exact Jk.u _ | exact Jm.m _ | exact Jm.lck _ | simp | assumption)⟩, ⟨_, (by first | rfl | exact Jk.u _ | exact Jm.m _ | exact Jm.lck _ | simp | assumption)⟩, ⟨_, (by first | rfl | exact Jk.u _ | exact Jm.m _ | exact Jm.lck _ | simp | assumption)⟩, ⟨_, (by first | rfl | exact Jk.u _ | exact Jm.m _ | exact Jm.lck _ | simp | assumption)⟩, rfl⟩
    · have ho := ev_told0 h
      simp [h, ho, hl, hs, hr, oNe_sm5]
      exact hnx _ ⟨⟨_, (by first | rfl | exact Jk.u _ | exact Jm.m _ | exact Jm.lck _ | simp | assumption)⟩, ⟨_, (by first | rfl | exact Jk.u _ | exact Jm.m _ | exact Jm.lck _ | simp | assumption)⟩, ⟨_, (by first | rfl | exact Jk.u _ | exact Jm.m _ | exact Jm.lck _ | simp | assumption)⟩, ⟨_, (by first | rfl | exact Jk.u _ | exact Jm.m _ | exact Jm.lck _ | simp | assumption)⟩, ⟨_, (by first | rfl | exact Jk.u _ | exact Jm.m _ | exact Jm.lck _ | simp | assumption)⟩, ⟨_, (by first | rfl | exact Jk.u _ | exact Jm.m _ | exact Jm.lck _ | simp | assumption)⟩, ⟨_, (by first | rfl | exact Jk.u _ | exact Jm.m _ | exact Jm.lck _ | simp | assumption)⟩, rfl⟩
end DL

namespace K05
open PySem PySem.Spec PyProof.Rows L2 DL
def topS (i : Nat) : Stmt := PySem.Challenge.pw_needstones_k05_texts_refused.main.body.getD i (.Pass ⟨0, 0, 0, 0⟩)
abbrev s_NoText___init__ : Stmt := inClass (topS 7) 0
abbrev N_NoText___init__ : List Str := ["self", "at"]
theorem sc_NoText___init__ : FnScope N_NoText___init__ ["self", "at"] (defScope s_NoText___init__) := ⟨rfl, rfl, rfl, by decide +kernel, rfl, by decide +kernel, by decide +kernel⟩
abbrev s_is_whole : Stmt := topS 10
abbrev N_is_whole : List Str := ["thing"]
theorem sc_is_whole : FnScope N_is_whole ["thing"] (defScope s_is_whole) := ⟨rfl, rfl, rfl, by decide +kernel, rfl, by decide +kernel, by decide +kernel⟩
abbrev s_is_rising : Stmt := topS 11
abbrev N_is_rising : List Str := ["things", "behind", "last", "thing"]
theorem sc_is_rising : FnScope N_is_rising ["things", "behind"] (defScope s_is_rising) := ⟨rfl, rfl, rfl, by decide +kernel, rfl, by decide +kernel, by decide +kernel⟩
abbrev s_number_in : Stmt := topS 14
abbrev N_number_in : List Str := ["word"]
theorem sc_number_in : FnScope N_number_in ["word"] (defScope s_number_in) := ⟨rfl, rfl, rfl, by decide +kernel, rfl, by decide +kernel, by decide +kernel⟩
abbrev s_needs_in : Stmt := topS 15
abbrev N_needs_in : List Str := ["line", "spot", "words", "needs", "word"]
theorem sc_needs_in : FnScope N_needs_in ["line", "spot"] (defScope s_needs_in) := ⟨rfl, rfl, rfl, by decide +kernel, rfl, by decide +kernel, by decide +kernel⟩
abbrev s_read_net : Stmt := topS 16
abbrev N_read_net : List Str := ["text", "found", "at", "line", "needs"]
theorem sc_read_net : FnScope N_read_net ["text"] (defScope s_read_net) := ⟨rfl, rfl, rfl, by decide +kernel, rfl, by decide +kernel, by decide +kernel⟩
abbrev s__law_cell : Stmt := topS 18
abbrev N__law_cell : List Str := ["script", "k"]
theorem sc__law_cell : FnScope N__law_cell ["script", "k"] (defScope s__law_cell) := ⟨rfl, rfl, rfl, by decide +kernel, rfl, by decide +kernel, by decide +kernel⟩
abbrev s__law_mix : Stmt := topS 19
abbrev N__law_mix : List Str := ["cell", "k", "some", "stir"]
theorem sc__law_mix : FnScope N__law_mix ["cell", "k"] (defScope s__law_mix) := ⟨rfl, rfl, rfl, by decide +kernel, rfl, by decide +kernel, by decide +kernel⟩
abbrev s__law_box : Stmt := topS 20
abbrev N__law_box : List Str := ["script", "k", "cell", "number", "j"]
theorem sc__law_box : FnScope N__law_box ["script", "k"] (defScope s__law_box) := ⟨rfl, rfl, rfl, by decide +kernel, rfl, by decide +kernel, by decide +kernel⟩
abbrev s__law_take : Stmt := topS 21
abbrev N__law_take : List Str := ["box", "many", "left", "digit"]
theorem sc__law_take : FnScope N__law_take ["box", "many"] (defScope s__law_take) := ⟨rfl, rfl, rfl, by decide +kernel, rfl, by decide +kernel, by decide +kernel⟩
abbrev s__law_odd : Stmt := topS 22
abbrev N__law_odd : List Str := ["box", "some"]
theorem sc__law_odd : FnScope N__law_odd ["box"] (defScope s__law_odd) := ⟨rfl, rfl, rfl, by decide +kernel, rfl, by decide +kernel, by decide +kernel⟩
abbrev s__law_net : Stmt := topS 23
abbrev N__law_net : List Str := ["box", "most", "net", "spot", "needs", "one"]
theorem sc__law_net : FnScope N__law_net ["box", "most"] (defScope s__law_net) := ⟨rfl, rfl, rfl, by decide +kernel, rfl, by decide +kernel, by decide +kernel⟩
abbrev s__law_text : Stmt := topS 24
abbrev N__law_text : List Str := ["net", "rows", "spot", "need"]
theorem sc__law_text : FnScope N__law_text ["net"] (defScope s__law_text) := ⟨rfl, rfl, rfl, by decide +kernel, rfl, by decide +kernel, by decide +kernel⟩
abbrev s__law_bent : Stmt := topS 25
abbrev N__law_bent : List Str := ["box", "text", "lines", "at", "where", "sign", "way", "odd", "words", "spot"]
theorem sc__law_bent : FnScope N__law_bent ["box", "text"] (defScope s__law_bent) := ⟨rfl, rfl, rfl, by decide +kernel, rfl, by decide +kernel, by decide +kernel⟩
abbrev s__law_read : Stmt := topS 26
abbrev N__law_read : List Str := ["text", "net", "at", "one", "words", "word", "needs", "need"]
theorem sc__law_read : FnScope N__law_read ["text"] (defScope s__law_read) := ⟨rfl, rfl, rfl, by decide +kernel, rfl, by decide +kernel, by decide +kernel⟩
abbrev s__law_told : Stmt := topS 27
abbrev N__law_told : List Str := ["text", "found", "e"]
theorem sc__law_told : FnScope N__law_told ["text"] (defScope s__law_told) := ⟨rfl, rfl, rfl, by decide +kernel, rfl, by decide +kernel, by decide +kernel⟩
abbrev s_law : Stmt := topS 28
abbrev N_law : List Str := ["script", "k", "box", "text", "odd", "some", "due", "found"]
theorem sc_law : FnScope N_law ["script"] (defScope s_law) := ⟨rfl, rfl, rfl, by decide +kernel, rfl, by decide +kernel, by decide +kernel⟩
structure Adr where
  a_NoText___init__ : Addr
  fd_NoText___init__ : FuncData
  a_is_whole : Addr
  fd_is_whole : FuncData
  a_is_rising : Addr
  fd_is_rising : FuncData
  a_number_in : Addr
  fd_number_in : FuncData
  a_needs_in : Addr
  fd_needs_in : FuncData
  a_read_net : Addr
  fd_read_net : FuncData
  a__law_cell : Addr
  fd__law_cell : FuncData
  a__law_mix : Addr
  fd__law_mix : FuncData
  a__law_box : Addr
  fd__law_box : FuncData
  a__law_take : Addr
  fd__law_take : FuncData
  a__law_odd : Addr
  fd__law_odd : FuncData
  a__law_net : Addr
  fd__law_net : FuncData
  a__law_text : Addr
  fd__law_text : FuncData
  a__law_bent : Addr
  fd__law_bent : FuncData
  a__law_read : Addr
  fd__law_read : FuncData
  a__law_told : Addr
  fd__law_told : FuncData
  a_law : Addr
  fd_law : FuncData
  x_StoneError : Addr
  x_NoText : Addr
  x_NoLay : Addr
  x_NoNet : Addr
  x_NoPlay : Addr
  x_NoSpot : Addr
  x_NoStep : Addr
abbrev rzL (D : Adr) : List (Str × Addr) := []
abbrev askL (D : Adr) : List (Str × Addr) := []
structure Txt (w : World) (K : PySem.W.Frag) (mg : Str → Option Value) (D : Adr) : Prop where
  F_NoText___init__ : Fun K "__init__" "NoText.__init__" s_NoText___init__ D.a_NoText___init__ D.fd_NoText___init__
  b_NoText___init__ : Binds K D.fd_NoText___init__ ["self", "at"] []
  F_is_whole : Fun K "is_whole" "is_whole" s_is_whole D.a_is_whole D.fd_is_whole
  g_is_whole : mg "is_whole" = some (.ref D.a_is_whole)
  b_is_whole : Binds K D.fd_is_whole ["thing"] []
  F_is_rising : Fun K "is_rising" "is_rising" s_is_rising D.a_is_rising D.fd_is_rising
  g_is_rising : mg "is_rising" = some (.ref D.a_is_rising)
  b_is_rising : Binds K D.fd_is_rising ["things", "behind"] []
  F_number_in : Fun K "number_in" "number_in" s_number_in D.a_number_in D.fd_number_in
  g_number_in : mg "number_in" = some (.ref D.a_number_in)
  b_number_in : Binds K D.fd_number_in ["word"] []
  F_needs_in : Fun K "needs_in" "needs_in" s_needs_in D.a_needs_in D.fd_needs_in
  g_needs_in : mg "needs_in" = some (.ref D.a_needs_in)
  b_needs_in : Binds K D.fd_needs_in ["line", "spot"] []
  F_read_net : Fun K "read_net" "read_net" s_read_net D.a_read_net D.fd_read_net
  g_read_net : mg "read_net" = some (.ref D.a_read_net)
  b_read_net : Binds K D.fd_read_net ["text"] []
  F__law_cell : Fun K "_law_cell" "_law_cell" s__law_cell D.a__law_cell D.fd__law_cell
  g__law_cell : mg "_law_cell" = some (.ref D.a__law_cell)
  b__law_cell : Binds K D.fd__law_cell ["script", "k"] []
  F__law_mix : Fun K "_law_mix" "_law_mix" s__law_mix D.a__law_mix D.fd__law_mix
  g__law_mix : mg "_law_mix" = some (.ref D.a__law_mix)
  b__law_mix : Binds K D.fd__law_mix ["cell", "k"] []
  F__law_box : Fun K "_law_box" "_law_box" s__law_box D.a__law_box D.fd__law_box
  g__law_box : mg "_law_box" = some (.ref D.a__law_box)
  b__law_box : Binds K D.fd__law_box ["script", "k"] []
  F__law_take : Fun K "_law_take" "_law_take" s__law_take D.a__law_take D.fd__law_take
  g__law_take : mg "_law_take" = some (.ref D.a__law_take)
  b__law_take : Binds K D.fd__law_take ["box", "many"] []
  F__law_odd : Fun K "_law_odd" "_law_odd" s__law_odd D.a__law_odd D.fd__law_odd
  g__law_odd : mg "_law_odd" = some (.ref D.a__law_odd)
  b__law_odd : Binds K D.fd__law_odd ["box"] []
  F__law_net : Fun K "_law_net" "_law_net" s__law_net D.a__law_net D.fd__law_net
  g__law_net : mg "_law_net" = some (.ref D.a__law_net)
  b__law_net : Binds K D.fd__law_net ["box", "most"] []
  F__law_text : Fun K "_law_text" "_law_text" s__law_text D.a__law_text D.fd__law_text
  g__law_text : mg "_law_text" = some (.ref D.a__law_text)
  b__law_text : Binds K D.fd__law_text ["net"] []
  F__law_bent : Fun K "_law_bent" "_law_bent" s__law_bent D.a__law_bent D.fd__law_bent
  g__law_bent : mg "_law_bent" = some (.ref D.a__law_bent)
  b__law_bent : Binds K D.fd__law_bent ["box", "text"] []
  F__law_read : Fun K "_law_read" "_law_read" s__law_read D.a__law_read D.fd__law_read
  g__law_read : mg "_law_read" = some (.ref D.a__law_read)
  b__law_read : Binds K D.fd__law_read ["text"] []
  F__law_told : Fun K "_law_told" "_law_told" s__law_told D.a__law_told D.fd__law_told
  g__law_told : mg "_law_told" = some (.ref D.a__law_told)
  b__law_told : Binds K D.fd__law_told ["text"] []
  F_law : Fun K "law" "law" s_law D.a_law D.fd_law
  g_law : mg "law" = some (.ref D.a_law)
  b_law : Binds K D.fd_law ["script"] []
  n_ValueError : mg "ValueError" = none
  n_abs : mg "abs" = none
  n_bool : mg "bool" = none
  n_divmod : mg "divmod" = none
  n_enumerate : mg "enumerate" = none
  n_int : mg "int" = none
  n_isinstance : mg "isinstance" = none
  n_len : mg "len" = none
  n_max : mg "max" = none
  n_min : mg "min" = none
  n_range : mg "range" = none
  n_repr : mg "repr" = none
  n_set : mg "set" = none
  n_sorted : mg "sorted" = none
  n_str : mg "str" = none
  n_tuple : mg "tuple" = none
  k_FIGURES : ∃ t, mg "FIGURES" = some (.str "0123456789" t)
  k_MOST_SPOTS : ∃ t, mg "MOST_SPOTS" = some (.int 10 t)
  se : AskC K mg "StoneError" D.x_StoneError
  rd_SE : ClX.CRead K D.x_StoneError (.type "type")
  vV_SE : PySem.W.findCls K (.ref D.x_StoneError) (.type "type") "__init__" = some (.val (.builtin "ValueError.__init__"))
  rv_NoText : Rv K mg "NoText" D.x_NoText D.a_NoText___init__
  ec_NoText : ExcC K D.x_NoText
  xf_NoText : XfC K D.x_NoText
  at_NoText : PySem.W.findIn K (.ref D.x_NoText) "at" = some none
  g_NoLay : mg "NoLay" = some (.ref D.x_NoLay)
  g_NoNet : mg "NoNet" = some (.ref D.x_NoNet)
  g_NoPlay : mg "NoPlay" = some (.ref D.x_NoPlay)
  g_NoSpot : mg "NoSpot" = some (.ref D.x_NoSpot)
  g_NoStep : mg "NoStep" = some (.ref D.x_NoStep)
  k5 : PySem.W.kitAny K (.ref D.x_NoText) ([D.x_NoLay, D.x_NoNet, D.x_NoPlay, D.x_NoSpot, D.x_NoStep].map Value.ref) = some false
  kV : PySem.W.kitOne K (.ref D.x_NoText) (.type "ValueError") = some true
  kT : PySem.W.kitOne K (.ref D.x_NoText) (.ref D.x_NoText) = some true
  met : PySem.W.exmOne K (.ref D.x_NoText) (.ref D.x_StoneError) = some true

section
variable {P : Program} {w : World} {K : PySem.W.Frag} {mg : Str → Option Value} {base : Heap} {D : Adr}
theorem ok_NoText___init__ (T : Txt w K mg D) : FnOk P w K mg base (L2N.CX P w) 1 D.a_NoText___init__ D.fd_NoText___init__ ["self", "at"] (spNT K) :=
  fn_NT T.F_NoText___init__ sc_NoText___init__ fun cdv A outer s H E =>
    (pss_cons (ps_expr (pe_seinit (by rfl) T.se.g T.rd_SE T.vV_SE (pa_cons (pv 0) (pa_cons pe_str pa_nil)))) (pss_one (ps_ost (pv 0) (pv 1))))
theorem ok_is_whole (T : Txt w K mg D) : FnOk P w K mg base (L2N.CX P w) 1 D.a_is_whole D.fd_is_whole ["thing"] (spB K (xpT [("NoText", D.x_NoText)]) 1 m_is_whole) :=
  fn_B T.F_is_whole sc_is_whole rfl (by decide) fun cdv A outer s H E hr =>
    (dss_one (ds_ret (de_and (de_isi kitT_int (by rfl) T.n_isinstance (by rfl) T.n_int bt_int (do_nm (pv 0))) (de_and1 (de_not (de_isi kitT_bool (by rfl) T.n_isinstance (by rfl) T.n_bool bt_bool (do_nm (pv 0))))))))
theorem ok_is_rising (T : Txt w K mg D) : FnOk P w K mg base (L2N.CX P w) 2 D.a_is_rising D.fd_is_rising ["things", "behind"] (spB K (xpT [("NoText", D.x_NoText)]) 2 m_is_rising) :=
  fn_B T.F_is_rising sc_is_rising rfl (by decide) fun cdv A outer s H E hr =>
    (dss_cons (ds_set (i := 2) sc_is_rising.nd rfl (.inl rfl) (de_neg (DE.opd de_int)))
    (dss_cons (ds_forO (passes_of rfl) rfl (pv 0) (dg_name (i := 3) sc_is_rising.nd rfl (.inl rfl)) (dss_cons (ds_if (DW.dt (dw_or (dt_not (dt_val (de_call (L2N.takes_of rfl rfl rfl rfl) (ok_is_whole T) (hr.mono (by decide)) (by rfl) T.g_is_whole T.F_is_whole.kp T.b_is_whole (da_cons (do_nm (pv 3)) da_nil)))) (dw_or1 (dt_not (dt_chain op_lt op_lt ok_cmp ok_cmp (do_nm (pv 2)) (do_nm (pv 3)) (do_nm (pv 1))))))) (dss_one (ds_ret de_bool)) dss_nil)
    (dss_one (ds_set (i := 2) sc_is_rising.nd rfl (.inl rfl) (de_var (pv 3))))))
    (dss_one (ds_ret de_bool))))
theorem ok_number_in (T : Txt w K mg D) : FnOk P w K mg base (L2N.CX P w) 1 D.a_number_in D.fd_number_in ["word"] (spB K (xpT [("NoText", D.x_NoText)]) 1 m_number_in) :=
  fn_B T.F_number_in sc_number_in rfl (by decide) fun cdv A outer s H E hr =>
    (dss_cons (ds_if (DW.dt (dw_and (dt_cmp (or_eq (hu64 hr)) ok_eq (nomark _) (DE.opd (de_callB call_len ok_len (by rfl) T.n_len bt_len (da_cons (do_nm (pv 0)) da_nil))) (DE.opd de_int)) (dw_and1 (dt_cmp op_in_str ok_inStr (by rfl) (do_nm (pv 0)) (DE.opd (de_glS (by rfl) T.k_FIGURES)))))) (dss_one (ds_ret (de_callTy call_int_str ok_intS (by rfl) T.n_int bt_int (da_cons (do_nm (pv 0)) da_nil)))) dss_nil)
    (dss_one (ds_ret de_none)))
theorem ok_needs_in (T : Txt w K mg D) : FnOk P w K mg base (L2N.CX P w) 3 D.a_needs_in D.fd_needs_in ["line", "spot"] (spB K (xpT [("NoText", D.x_NoText)]) 2 m_needs_in) :=
  fn_B T.F_needs_in sc_needs_in rfl (by decide) fun cdv A outer s H E hr =>
    (dss_cons (ds_set (i := 2) sc_needs_in.nd rfl (.inl rfl) (de_split (do_nm (pv 0)) pe_str))
    (dss_cons (ds_set (i := 3) sc_needs_in.nd rfl (.inl rfl) (de_callTy call_tuple_of ok_tuple (by rfl) T.n_tuple bt_tuple (da_cons (DE.opd (de_comp (own := [("word", 4)]) rfl sc_needs_in.nd (di_seq (de_sl (do_nm (pv 2)) (dp_some (DE.opd de_int)) dp_none)) (blkOk_by (N := N_needs_in) (sc := defScope s_needs_in) (by decide +kernel)) (fun _ _ _ _ _ => (dg_name (i := 4) sc_needs_in.nd rfl (.inl rfl))) (fun _ _ _ _ _ => dts_nil) (fun _ _ _ _ _ => (de_callK (K := K) (ok_number_in T) (hr.mono (by decide)) (by rfl) T.g_number_in T.F_number_in.kp T.b_number_in (da_cons (do_nm (pv 4)) da_nil))))) da_nil)))
    (dss_cons (ds_if (DW.dt (dw_or (dt_cmp (or_ne (hu64 hr)) ok_ne (nomark _) (DE.opd (de_ix ix_seq ok_ix (fun _ _ => rfl) (do_nm (pv 2)) (DE.opd de_int))) (DE.opd (de_bin or_add ok_add (DE.opd (de_callTy call_str_int ok_str (by rfl) T.n_str bt_str (da_cons (do_nm (pv 1)) da_nil))) (DE.opd de_str)))) (dw_or1 (dt_not (dt_val (de_call (L2N.takes_of rfl rfl rfl rfl) (ok_is_rising T) (hr.mono (by decide)) (by rfl) T.g_is_rising T.F_is_rising.kp T.b_is_rising (da_cons (do_nm (pv 3)) (da_cons (do_nm (pv 1)) da_nil)))))))) (dss_one (ds_ret de_none)) dss_nil)
    (dss_one (ds_ret (de_move (pv 3)))))))
theorem ok_read_net (T : Txt w K mg D) : FnOk P w K mg base (L2N.CX P w) 4 D.a_read_net D.fd_read_net ["text"] (spB K (xpT [("NoText", D.x_NoText)]) 1 m_read_net_v2) :=
  fn_B T.F_read_net sc_read_net rfl (by decide) fun cdv A outer s H E hr =>
    (dss_cons (ds_if (dt_not (dt_val (de_isi kitT_str (by rfl) T.n_isinstance (by rfl) T.n_str bt_str (do_nm (pv 0))))) (dss_one (ds_raiseV rfl (L2N.takes_of rfl rfl rfl rfl) (by rfl) T.rv_NoText rfl (ok_NoText___init__ T) (hr.mono (by decide)) T.b_NoText___init__ de_int)) dss_nil)
    (dss_cons (ds_set (i := 1) sc_read_net.nd rfl (.inl rfl) (de_lst da_nil))
    (dss_cons (ds_for (passes_of rfl) rfl (di_enum (by rfl) T.n_enumerate (de_split (do_nm (pv 0)) pe_str)) (dg_tup rfl (DGs.cons (pg_name (i := 2) sc_read_net.nd rfl (.inl rfl)) (DGs.cons (pg_name (i := 3) sc_read_net.nd rfl (.inl rfl)) DGs.nil rfl) rfl)) (dss_cons (ds_set (i := 4) sc_read_net.nd rfl (.inl rfl) (de_call (L2N.takes_of rfl rfl rfl rfl) (ok_needs_in T) (hr.mono (by decide)) (by rfl) T.g_needs_in T.F_needs_in.kp T.b_needs_in (da_cons (do_nm (pv 3)) (da_cons (do_nm (pv 2)) da_nil))))
    (dss_cons (ds_if (DW.dt (dw_or (dt_cmp op_isN ok_isN (nomark _) (do_nm (pv 4)) (DE.opd de_none)) (dw_or1 (dt_cmp (or_eq (hu64 hr)) ok_eq (nomark _) (do_nm (pv 2)) (DE.opd (de_glI (by rfl) T.k_MOST_SPOTS)))))) (dss_one (ds_raiseV rfl (L2N.takes_of rfl rfl rfl rfl) (by rfl) T.rv_NoText rfl (ok_NoText___init__ T) (hr.mono (by decide)) T.b_NoText___init__ (de_var (pv 2)))) dss_nil)
    (dss_one (ds_expr (de_meth PySem.F.plainAttrs_list PySem.F.slot_list_append PySem.F.type_list_append mt_append ok_append (pv 1) (da_cons (DE.opd (de_var (pv 4))) da_nil)))))))
    (dss_one (ds_ret (de_callTy call_tuple_of ok_tuple (by rfl) T.n_tuple bt_tuple (da_cons (do_nm (pv 1)) da_nil)))))))
theorem ok__law_cell (T : Txt w K mg D) : FnOk P w K mg base (L2N.CX P w) 1 D.a__law_cell D.fd__law_cell ["script", "k"] (spB K (xpT [("NoText", D.x_NoText)]) 2 m__law_cell) :=
  fn_B T.F__law_cell sc__law_cell rfl (by decide) fun cdv A outer s H E hr =>
    (dss_cons (ds_if (dt_cmp op_lt ok_cmp (nomark _) (do_nm (pv 1)) (DE.opd (de_callB call_len ok_len (by rfl) T.n_len bt_len (da_cons (do_nm (pv 0)) da_nil)))) (dss_one (ds_ret (de_ix ix_seq ok_ix (fun _ _ => rfl) (do_nm (pv 0)) (do_nm (pv 1))))) dss_nil)
    (dss_one (ds_ret de_int)))
theorem ok__law_mix (T : Txt w K mg D) : FnOk P w K mg base (L2N.CX P w) 1 D.a__law_mix D.fd__law_mix ["cell", "k"] (spB K (xpT [("NoText", D.x_NoText)]) 2 m__law_mix) :=
  fn_B T.F__law_mix sc__law_mix rfl (by decide) fun cdv A outer s H E hr =>
    (dss_cons (ds_set (i := 2) sc__law_mix.nd rfl (.inl rfl) (de_lst (da_cons (DE.opd de_int) (da_cons (DE.opd de_int) (da_cons (DE.opd de_int) (da_cons (DE.opd de_int) (da_cons (DE.opd de_int) (da_cons (DE.opd de_int) (da_cons (DE.opd de_int) (da_cons (DE.opd de_int) (da_cons (DE.opd de_int) (da_cons (DE.opd de_int) (da_cons (DE.opd de_int) (da_cons (DE.opd de_int) (da_cons (DE.opd de_int) da_nil)))))))))))))))
    (dss_cons (ds_set (i := 3) sc__law_mix.nd rfl (.inl rfl) (de_bin or_add ok_add (DE.opd (de_bin or_add ok_add (DE.opd (de_bin op_mul ok_mul (DE.opd (de_bin or_add ok_add (DE.opd (de_bin op_modN ok_mod (do_nm (pv 0)) (DE.opd de_int))) (DE.opd de_int))) (DE.opd (de_ix ix_seq ok_ix (fun _ _ => rfl) (do_nm (pv 2)) (DE.opd (de_bin op_modN ok_mod (do_nm (pv 1)) (DE.opd de_int))))))) (DE.opd (de_bin op_mul ok_mul (DE.opd de_int) (do_nm (pv 1)))))) (DE.opd (de_bin op_mul ok_mul (DE.opd de_int) (DE.opd (de_bin op_fdiv ok_fdiv (do_nm (pv 1)) (DE.opd de_int)))))))
    (dss_cons (ds_set (i := 3) sc__law_mix.nd rfl (.inl rfl) (de_bin op_modN ok_mod (do_nm (pv 3)) (DE.opd de_int)))
    (dss_one (ds_ret (de_bin op_fdiv ok_fdiv (DE.opd (de_bin op_modN ok_mod (DE.opd (de_bin or_add ok_add (DE.opd (de_bin op_mul ok_mul (do_nm (pv 3)) (do_nm (pv 3)))) (DE.opd (de_bin op_mul ok_mul (DE.opd de_int) (do_nm (pv 1)))))) (DE.opd de_int))) (DE.opd de_int)))))))
theorem ok__law_box (T : Txt w K mg D) : FnOk P w K mg base (L2N.CX P w) 2 D.a__law_box D.fd__law_box ["script", "k"] (spB K (xpT [("NoText", D.x_NoText)]) 2 m__law_box) :=
  fn_B T.F__law_box sc__law_box rfl (by decide) fun cdv A outer s H E hr =>
    (dss_cons (ds_set (i := 2) sc__law_box.nd rfl (.inl rfl) (de_call (L2N.takes_of rfl rfl rfl rfl) (ok__law_cell T) (hr.mono (by decide)) (by rfl) T.g__law_cell T.F__law_cell.kp T.b__law_cell (da_cons (do_nm (pv 0)) (da_cons (do_nm (pv 1)) da_nil))))
    (dss_cons (ds_if (dt_cmp (or_eq (hu64 hr)) ok_eq (nomark _) (DE.opd (de_bin op_modN ok_mod (do_nm (pv 2)) (DE.opd de_int))) (DE.opd de_int)) (dss_one (ds_ret (de_lst (da_cons (DE.opd (de_bin op_fdiv ok_fdiv (DE.opd (de_callB call_abs ok_abs (by rfl) T.n_abs bt_abs (da_cons (do_nm (pv 2)) da_nil))) (DE.opd de_int))) da_nil)))) dss_nil)
    (dss_cons (ds_set (i := 3) sc__law_box.nd rfl (.inl rfl) de_int)
    (dss_cons (ds_for (passes_of rfl) rfl (di_range1 (by rfl) T.n_range (da_cons (DE.opd de_int) da_nil)) (dg_name (i := 4) sc__law_box.nd rfl (.inl rfl)) (dss_one (ds_set (i := 3) sc__law_box.nd rfl (.inl rfl) (de_bin or_add ok_add (DE.opd (de_bin op_mul ok_mul (do_nm (pv 3)) (DE.opd de_int))) (DE.opd (de_call (L2N.takes_of rfl rfl rfl rfl) (ok__law_mix T) (hr.mono (by decide)) (by rfl) T.g__law_mix T.F__law_mix.kp T.b__law_mix (da_cons (do_nm (pv 2)) (da_cons (do_nm (pv 4)) da_nil))))))))
    (dss_one (ds_ret (de_lst (da_cons (DE.opd (de_var (pv 3))) da_nil))))))))
theorem ok__law_take (T : Txt w K mg D) : FnOk P w K mg base (L2N.CX P w) 1 D.a__law_take D.fd__law_take ["box", "many"] (spI K 2 m__law_take) :=
  fn_I (xp := xpT [("NoText", D.x_NoText)]) T.F__law_take sc__law_take rfl (by decide) fun cdv A outer s H E hr =>
    (dss_cons (ds_unp (de_callB call_divmod ok_divmod (by rfl) T.n_divmod bt_divmod (da_cons (DE.opd (de_ix ix_seq ok_ix (fun _ _ => rfl) (do_nm (pv 0)) (DE.opd de_int))) (da_cons (do_nm (pv 1)) da_nil))) (dg_tup rfl (DGs.cons (pg_name (i := 2) sc__law_take.nd rfl (.inl rfl)) (DGs.cons (pg_name (i := 3) sc__law_take.nd rfl (.inl rfl)) DGs.nil rfl) rfl)))
    (dss_cons (ds_setItem set_list ok_setL (de_var (pv 2)) (pv 0) (DE.opd de_int))
    (dss_one (ds_ret (de_move (pv 3))))))
theorem ok__law_odd (T : Txt w K mg D) : FnOk P w K mg base (L2N.CX P w) 2 D.a__law_odd D.fd__law_odd ["box"] (spI K 1 m__law_odd) :=
  fn_I (xp := xpT [("NoText", D.x_NoText)]) T.F__law_odd sc__law_odd rfl (by decide) fun cdv A outer s H E hr =>
    (dss_cons (ds_set (i := 1) sc__law_odd.nd rfl (.inl rfl) (de_lst (da_cons (DE.opd de_none) (da_cons (DE.opd de_bool) (da_cons (DE.opd de_bool) (da_cons (DE.opd (de_neg (DE.opd de_int))) (da_cons (DE.opd de_str) (da_cons (DE.opd de_str) (da_cons (DE.opd de_str) (da_cons (DE.opd (de_tup da_nil)) (da_cons (DE.opd (de_lst da_nil)) (da_cons (DE.opd (de_tup (da_cons (DE.opd de_int) da_nil))) (da_cons (DE.opd (de_lst (da_cons (DE.opd de_int) da_nil))) (da_cons (DE.opd (de_dispI (.cons .nil) (by decide +kernel) (by decide) (by decide))) (da_cons (DE.opd (de_tup (da_cons (DE.opd (de_tup da_nil)) (da_cons (DE.opd (de_tup (da_cons (DE.opd de_int) da_nil))) da_nil)))) (da_cons (DE.opd (de_bin op_pow ok_pow (DE.opd de_int) (DE.opd de_int))) (da_cons (DE.opd (de_tup (da_cons (DE.opd (de_tup (da_cons (DE.opd de_int) da_nil))) da_nil))) (da_cons (DE.opd (de_lst (da_cons (DE.opd (de_tup da_nil)) da_nil))) da_nil))))))))))))))))))
    (dss_one (ds_ret (de_ix ix_seq ok_ix (fun _ _ => rfl) (do_nm (pv 1)) (DE.opd (de_callI (L2N.takes_of rfl rfl rfl rfl) (ok__law_take T) (hr.mono (by decide)) (by rfl) T.g__law_take T.F__law_take.kp T.b__law_take (pv 0) (da_cons (DE.opd de_int) da_nil)))))))
theorem ok__law_net (T : Txt w K mg D) : FnOk P w K mg base (L2N.CX P w) 2 D.a__law_net D.fd__law_net ["box", "most"] (spI K 2 m__law_net) :=
  fn_I (xp := xpT [("NoText", D.x_NoText)]) T.F__law_net sc__law_net rfl (by decide) fun cdv A outer s H E hr =>
    (dss_cons (ds_set (i := 2) sc__law_net.nd rfl (.inl rfl) (de_lst da_nil))
    (dss_cons (ds_for (passes_of rfl) rfl (di_range1 (by rfl) T.n_range (da_cons (DE.opd (de_bin or_add ok_add (DE.opd de_int) (DE.opd (de_callI (L2N.takes_of rfl rfl rfl rfl) (ok__law_take T) (hr.mono (by decide)) (by rfl) T.g__law_take T.F__law_take.kp T.b__law_take (pv 0) (da_cons (DE.opd (de_var (pv 1))) da_nil))))) da_nil)) (dg_name (i := 3) sc__law_net.nd rfl (.inl rfl)) (dss_cons (ds_setComp (i := 4) (own := [("one", 5)]) rfl sc__law_net.nd rfl rfl (sw_true rfl rfl rfl (by decide +kernel)) (di_range1 (by rfl) T.n_range (da_cons (do_nm (pv 3)) da_nil)) (blkOk_by (N := N__law_net) (sc := defScope s__law_net) (by decide +kernel)) (fun _ _ _ _ _ => (dg_name (i := 5) sc__law_net.nd rfl (.inl rfl))) (fun _ _ _ _ _ => (dts_one (dt_cmp (or_eq (hu64 hr)) (ok_eq (K := K)) (nomark _) (DE.opd (de_callIK (K := K) (ok__law_take T) (hr.mono (by decide)) (by rfl) T.g__law_take T.F__law_take.kp T.b__law_take (pv 0) (da_cons (DE.opd de_int) da_nil))) (DE.opd de_int)))) (fun _ _ _ _ _ => (de_var (pv 5))))
    (dss_cons (ds_if (DW.dt (dw_and (dt_cmp op_gt ok_cmp (nomark _) (do_nm (pv 3)) (DE.opd de_int)) (dw_and (dt_cmp (or_eq (hu64 hr)) ok_eq (nomark _) (do_nm (pv 4)) (DE.opd (de_lst da_nil))) (dw_and1 (dt_cmp op_gt ok_cmp (nomark _) (DE.opd (de_callI (L2N.takes_of rfl rfl rfl rfl) (ok__law_take T) (hr.mono (by decide)) (by rfl) T.g__law_take T.F__law_take.kp T.b__law_take (pv 0) (da_cons (DE.opd de_int) da_nil))) (DE.opd de_int)))))) (dss_one (ds_set (i := 4) sc__law_net.nd rfl (.inl rfl) (de_lst (da_cons (DE.opd (de_callI (L2N.takes_of rfl rfl rfl rfl) (ok__law_take T) (hr.mono (by decide)) (by rfl) T.g__law_take T.F__law_take.kp T.b__law_take (pv 0) (da_cons (DE.opd (de_var (pv 3))) da_nil))) da_nil)))) dss_nil)
    (dss_one (ds_expr (de_meth PySem.F.plainAttrs_list PySem.F.slot_list_append PySem.F.type_list_append mt_append ok_append (pv 2) (da_cons (DE.opd (de_callTy call_tuple_of ok_tuple (by rfl) T.n_tuple bt_tuple (da_cons (DE.opd (de_sl (do_nm (pv 4)) dp_none (dp_some (DE.opd de_int)))) da_nil))) da_nil)))))))
    (dss_one (ds_ret (de_callTy call_tuple_of ok_tuple (by rfl) T.n_tuple bt_tuple (da_cons (do_nm (pv 2)) da_nil))))))
theorem ok__law_text (T : Txt w K mg D) : FnOk P w K mg base (L2N.CX P w) 1 D.a__law_text D.fd__law_text ["net"] (spB K (xpT [("NoText", D.x_NoText)]) 1 m__law_text) :=
  fn_B T.F__law_text sc__law_text rfl (by decide) fun cdv A outer s H E hr =>
    (dss_cons (ds_set (i := 1) sc__law_text.nd rfl (.inl rfl) (de_lst da_nil))
    (dss_cons (ds_for (passes_of rfl) rfl (di_range1 (by rfl) T.n_range (da_cons (DE.opd (de_callB call_len ok_len (by rfl) T.n_len bt_len (da_cons (do_nm (pv 0)) da_nil))) da_nil)) (dg_name (i := 2) sc__law_text.nd rfl (.inl rfl)) (dss_one (ds_expr (de_meth PySem.F.plainAttrs_list PySem.F.slot_list_append PySem.F.type_list_append mt_append ok_append (pv 1) (da_cons (DE.opd (de_bin or_add ok_add (DE.opd (de_bin or_add ok_add (DE.opd (de_callTy call_str_int ok_str (by rfl) T.n_str bt_str (da_cons (do_nm (pv 2)) da_nil))) (DE.opd de_str))) (DE.opd (de_join (K := K) de_str (DE.opd (de_comp (own := [("need", 3)]) rfl sc__law_text.nd (di_seq (de_ix ix_seq ok_ix (fun _ _ => rfl) (do_nm (pv 0)) (do_nm (pv 2)))) (blkOk_by (N := N__law_text) (sc := defScope s__law_text) (by decide +kernel)) (fun _ _ _ _ _ => (dg_name (i := 3) sc__law_text.nd rfl (.inl rfl))) (fun _ _ _ _ _ => dts_nil) (fun _ _ _ _ _ => (de_bin or_add (ok_add (K := K)) (DE.opd de_str) (DE.opd (de_callTy call_str_int (ok_str (K := K)) (by rfl) T.n_str bt_str (da_cons (do_nm (pv 3)) da_nil))))))))))) da_nil)))))
    (dss_one (ds_ret (de_join (K := K) de_str (do_nm (pv 1)))))))
theorem ok__law_bent (T : Txt w K mg D) : FnOk P w K mg base (L2N.CX P w) 2 D.a__law_bent D.fd__law_bent ["box", "text"] (spI K 2 m__law_bent_v2) :=
  fn_I (xp := xpT [("NoText", D.x_NoText)]) T.F__law_bent sc__law_bent rfl (by decide) fun cdv A outer s H E hr =>
    (dss_cons (ds_set (i := 2) sc__law_bent.nd rfl (.inl rfl) (de_split (do_nm (pv 1)) pe_str))
    (dss_cons (ds_set (i := 3) sc__law_bent.nd rfl (.inl rfl) (de_callI (L2N.takes_of rfl rfl rfl rfl) (ok__law_take T) (hr.mono (by decide)) (by rfl) T.g__law_take T.F__law_take.kp T.b__law_take (pv 0) (da_cons (DE.opd (de_callB call_len ok_len (by rfl) T.n_len bt_len (da_cons (do_nm (pv 2)) da_nil))) da_nil)))
    (dss_cons (ds_set (i := 4) sc__law_bent.nd rfl (.inl rfl) (de_callI (L2N.takes_of rfl rfl rfl rfl) (ok__law_take T) (hr.mono (by decide)) (by rfl) T.g__law_take T.F__law_take.kp T.b__law_take (pv 0) (da_cons (DE.opd (de_bin or_add ok_add (DE.opd (de_callB call_len ok_len (by rfl) T.n_len bt_len (da_cons (do_nm (pv 1)) da_nil))) (DE.opd de_int))) da_nil)))
    (dss_cons (ds_set (i := 5) sc__law_bent.nd rfl (.inl rfl) (de_ix ix_seq ok_ix (fun _ _ => rfl) (DE.opd de_str) (DE.opd (de_callI (L2N.takes_of rfl rfl rfl rfl) (ok__law_take T) (hr.mono (by decide)) (by rfl) T.g__law_take T.F__law_take.kp T.b__law_take (pv 0) (da_cons (DE.opd de_int) da_nil)))))
    (dss_cons (ds_set (i := 6) sc__law_bent.nd rfl (.inl rfl) (de_callI (L2N.takes_of rfl rfl rfl rfl) (ok__law_take T) (hr.mono (by decide)) (by rfl) T.g__law_take T.F__law_take.kp T.b__law_take (pv 0) (da_cons (DE.opd de_int) da_nil)))
    (dss_cons (ds_set (i := 7) sc__law_bent.nd rfl (.inl rfl) (de_lst (da_cons (DE.opd de_str) (da_cons (DE.opd de_str) (da_cons (DE.opd de_str) (da_cons (DE.opd de_str) (da_cons (DE.opd de_str) (da_cons (DE.opd de_str) (da_cons (DE.opd de_str) (da_cons (DE.opd de_str) (da_cons (DE.opd de_str) (da_cons (DE.opd de_str) (da_cons (DE.opd de_str) (da_cons (DE.opd de_str) (da_cons (DE.opd de_str) (da_cons (DE.opd de_str) (da_cons (DE.opd de_str) (da_cons (DE.opd de_str) da_nil))))))))))))))))))
    (dss_cons (ds_if (dt_cmp op_lt ok_cmp (nomark _) (do_nm (pv 6)) (DE.opd de_int)) (dss_one (ds_ret (de_bin or_add ok_add (DE.opd (de_bin or_add ok_add (DE.opd (de_sl (do_nm (pv 1)) dp_none (dp_some (do_nm (pv 4))))) (DE.opd (de_ix ix_seq ok_ix (fun _ _ => rfl) (DE.opd (de_lst (da_cons (DE.opd (de_var (pv 5))) (da_cons (DE.opd de_str) (da_cons (DE.opd (de_var (pv 5))) da_nil))))) (do_nm (pv 6)))))) (DE.opd (de_sl (do_nm (pv 1)) (dp_some (DE.opd (de_bin or_add ok_add (do_nm (pv 4)) (DE.opd (de_callTy call_int1 ok_int (by rfl) T.n_int bt_int (da_cons (DE.opd (de_cmp op_gt ok_cmp (nomark _) (do_nm (pv 6)) (DE.opd de_int))) da_nil)))))) dp_none))))) dss_nil)
    (dss_cons (ds_if (dt_cmp (or_eq (hu64 hr)) ok_eq (nomark _) (do_nm (pv 6)) (DE.opd de_int)) (dss_one (ds_ret (de_join (K := K) de_str (DE.opd (de_bin or_add ok_add (DE.opd (de_sl (do_nm (pv 2)) dp_none (dp_some (do_nm (pv 3))))) (DE.opd (de_sl (do_nm (pv 2)) (dp_some (DE.opd (de_bin or_add ok_add (do_nm (pv 3)) (DE.opd de_int)))) dp_none))))))) dss_nil)
    (dss_cons (ds_if (dt_cmp (or_eq (hu64 hr)) ok_eq (nomark _) (do_nm (pv 6)) (DE.opd de_int)) (dss_one (ds_ret (de_join (K := K) de_str (DE.opd (de_bin or_add ok_add (DE.opd (de_bin or_add ok_add (DE.opd (de_sl (do_nm (pv 2)) dp_none (dp_some (do_nm (pv 3))))) (DE.opd (de_lst (da_cons (DE.opd (de_ix ix_seq ok_ix (fun _ _ => rfl) (do_nm (pv 2)) (do_nm (pv 3)))) da_nil))))) (DE.opd (de_sl (do_nm (pv 2)) (dp_some (do_nm (pv 3))) dp_none))))))) dss_nil)
    (dss_cons (ds_if (dt_cmp (or_eq (hu64 hr)) ok_eq (nomark _) (do_nm (pv 6)) (DE.opd de_int)) (dss_one (ds_ret (de_join (K := K) de_str (DE.opd (de_bin or_add ok_add (DE.opd (de_sl (do_nm (pv 2)) (dp_some (do_nm (pv 3))) dp_none)) (DE.opd (de_sl (do_nm (pv 2)) dp_none (dp_some (do_nm (pv 3)))))))))) dss_nil)
    (dss_cons (ds_set (i := 8) sc__law_bent.nd rfl (.inl rfl) (de_split (DE.opd (de_ix ix_seq ok_ix (fun _ _ => rfl) (do_nm (pv 2)) (do_nm (pv 3)))) pe_str))
    (dss_cons (ds_setItem set_list ok_setL (de_ix ix_seq ok_ix (fun _ _ => rfl) (do_nm (pv 7)) (DE.opd (de_callI (L2N.takes_of rfl rfl rfl rfl) (ok__law_take T) (hr.mono (by decide)) (by rfl) T.g__law_take T.F__law_take.kp T.b__law_take (pv 0) (da_cons (DE.opd de_int) da_nil)))) (pv 8) (DE.opd (de_callI (L2N.takes_of rfl rfl rfl rfl) (ok__law_take T) (hr.mono (by decide)) (by rfl) T.g__law_take T.F__law_take.kp T.b__law_take (pv 0) (da_cons (DE.opd (de_callB call_len ok_len (by rfl) T.n_len bt_len (da_cons (do_nm (pv 8)) da_nil))) da_nil))))
    (dss_cons (ds_if (dt_cmp (or_eq (hu64 hr)) ok_eq (nomark _) (do_nm (pv 6)) (DE.opd de_int)) (dss_one (ds_ret (de_join (K := K) de_str (DE.opd (de_bin or_add ok_add (DE.opd (de_bin or_add ok_add (DE.opd (de_sl (do_nm (pv 2)) dp_none (dp_some (do_nm (pv 3))))) (DE.opd (de_lst (da_cons (DE.opd (de_join (K := K) de_str (do_nm (pv 8)))) da_nil))))) (DE.opd (de_sl (do_nm (pv 2)) (dp_some (DE.opd (de_bin or_add ok_add (do_nm (pv 3)) (DE.opd de_int)))) dp_none))))))) dss_nil)
    (dss_one (ds_ret (de_bin or_add ok_add (do_nm (pv 1)) (DE.opd (de_join (K := K) de_str (DE.opd (de_comp (own := [("spot", 9)]) rfl sc__law_bent.nd (di_range2 (by rfl) T.n_range (da_cons (DE.opd (de_callB call_len ok_len (by rfl) T.n_len bt_len (da_cons (do_nm (pv 2)) da_nil))) (da_cons (DE.opd de_int) da_nil))) (blkOk_by (N := N__law_bent) (sc := defScope s__law_bent) (by decide +kernel)) (fun _ _ _ _ _ => (dg_name (i := 9) sc__law_bent.nd rfl (.inl rfl))) (fun _ _ _ _ _ => dts_nil) (fun _ _ _ _ _ => (de_bin or_add (ok_add (K := K)) (DE.opd (de_bin or_add (ok_add (K := K)) (DE.opd de_str) (DE.opd (de_callTy call_str_int (ok_str (K := K)) (by rfl) T.n_str bt_str (da_cons (do_nm (pv 9)) da_nil))))) (DE.opd de_str)))))))))))))))))))))))
theorem ok__law_read (T : Txt w K mg D) : FnOk P w K mg base (L2N.CX P w) 1 D.a__law_read D.fd__law_read ["text"] (spB K (xpT [("NoText", D.x_NoText)]) 1 m__law_read) :=
  fn_B T.F__law_read sc__law_read rfl (by decide) fun cdv A outer s H E hr =>
    (dss_cons (ds_set (i := 1) sc__law_read.nd rfl (.inl rfl) (de_lst da_nil))
    (dss_cons (ds_for (passes_of rfl) rfl (di_enum (by rfl) T.n_enumerate (de_split (do_nm (pv 0)) pe_str)) (dg_tup rfl (DGs.cons (pg_name (i := 2) sc__law_read.nd rfl (.inr rfl)) (DGs.cons (pg_name (i := 3) sc__law_read.nd rfl (.inl rfl)) DGs.nil rfl) rfl)) (dss_cons (ds_set (i := 4) sc__law_read.nd rfl (.inl rfl) (de_split (do_nm (pv 3)) pe_str))
    (dss_cons (ds_if (DW.dt (dw_or (dt_cmp op_gt ok_cmp (nomark _) (do_nm (pv 2)) (DE.opd de_int)) (dw_or1 (dt_cmp (or_ne (hu64 hr)) ok_ne (nomark _) (DE.opd (de_ix ix_seq ok_ix (fun _ _ => rfl) (do_nm (pv 4)) (DE.opd de_int))) (DE.opd (de_bin or_add ok_add (DE.opd (de_callTy call_str_int ok_str (by rfl) T.n_str bt_str (da_cons (do_nm (pv 2)) da_nil))) (DE.opd de_str))))))) (dss_one (ds_ret (de_move (pv 2)))) dss_nil)
    (dss_cons (ds_if (dt_cmp (or_ne (hu64 hr)) ok_ne (nomark _) (DE.opd (de_comp (own := [("word", 5)]) rfl sc__law_read.nd (di_seq (de_sl (do_nm (pv 4)) (dp_some (DE.opd de_int)) dp_none)) (blkOk_by (N := N__law_read) (sc := defScope s__law_read) (by decide +kernel)) (fun _ _ _ _ _ => (dg_name (i := 5) sc__law_read.nd rfl (.inl rfl))) (fun _ _ _ _ _ => (dts_one (dt_cmp (or_notIn (hu65 hr)) (ok_notIn (K := K)) (by rfl) (do_nm (pv 5)) (DE.opd (de_lst (da_cons (DE.opd de_str) (da_cons (DE.opd de_str) (da_cons (DE.opd de_str) (da_cons (DE.opd de_str) (da_cons (DE.opd de_str) (da_cons (DE.opd de_str) (da_cons (DE.opd de_str) (da_cons (DE.opd de_str) (da_cons (DE.opd de_str) (da_cons (DE.opd de_str) da_nil))))))))))))))) (fun _ _ _ _ _ => (de_var (pv 5))))) (DE.opd (de_lst da_nil))) (dss_one (ds_ret (de_move (pv 2)))) dss_nil)
    (dss_cons (ds_setComp (i := 6) (own := [("word", 5)]) rfl sc__law_read.nd rfl rfl (sw_true rfl rfl rfl (by decide +kernel)) (di_seq (de_sl (do_nm (pv 4)) (dp_some (DE.opd de_int)) dp_none)) (blkOk_by (N := N__law_read) (sc := defScope s__law_read) (by decide +kernel)) (fun _ _ _ _ _ => (dg_name (i := 5) sc__law_read.nd rfl (.inl rfl))) (fun _ _ _ _ _ => dts_nil) (fun _ _ _ _ _ => (de_callTy call_int_str (ok_intS (K := K)) (by rfl) T.n_int bt_int (da_cons (do_nm (pv 5)) da_nil))))
    (dss_cons (ds_if (DW.dt (dw_or (dt_cmp (or_ne (hu64 hr)) ok_ne (nomark _) (DE.opd (de_sortSet rfl (by rfl) T.n_sorted (by rfl) T.n_set (do_nm (pv 6)))) (do_nm (pv 6))) (dw_or1 (dt_cmp (or_ne (hu64 hr)) ok_ne (nomark _) (DE.opd (de_compO (own := [("need", 7)]) rfl sc__law_read.nd (pv 6) (blkOk_by (N := N__law_read) (sc := defScope s__law_read) (by decide +kernel)) (fun _ _ _ _ _ => (dg_name (i := 7) sc__law_read.nd rfl (.inl rfl))) (fun _ _ _ _ _ => (dts_one (dt_cmp op_ge (ok_cmp (K := K)) (nomark _) (do_nm (pv 7)) (do_nm (pv 2))))) (fun _ _ _ _ _ => (de_var (pv 7))))) (DE.opd (de_lst da_nil)))))) (dss_one (ds_ret (de_move (pv 2)))) dss_nil)
    (dss_one (ds_expr (de_meth PySem.F.plainAttrs_list PySem.F.slot_list_append PySem.F.type_list_append mt_append ok_append (pv 1) (da_cons (DE.opd (de_callTy call_tuple_of ok_tuple (by rfl) T.n_tuple bt_tuple (da_cons (do_nm (pv 6)) da_nil))) da_nil))))))))))
    (dss_one (ds_ret (de_callTy call_tuple_of ok_tuple (by rfl) T.n_tuple bt_tuple (da_cons (do_nm (pv 1)) da_nil))))))
theorem ok__law_told (T : Txt w K mg D) : FnOk P w K mg base (L2N.CX P w) 5 D.a__law_told D.fd__law_told ["text"] (spB K (xpT [("NoText", D.x_NoText)]) 1 m__law_told) :=
  fn_B T.F__law_told sc__law_told rfl (by decide) fun cdv A outer s H E hr =>
    (dss_cons (ds_try rfl rfl sc__law_told.nd rfl rfl ⟨by rfl, by decide, .inl T.se.g⟩ (L2N.takes_of rfl rfl rfl rfl) (fun _ _ _ _ h q => metT T.met h q) (fun W pn xe tk _ => (dss_one (ds_set (i := 1) sc__law_told.nd rfl (.inl rfl) (de_call tk (ok_read_net T) (hr.mono (by decide)) (by rfl) T.g_read_net T.F_read_net.kp T.b_read_net (da_cons (do_nm (pv 0)) da_nil)))))
    (fun a oe cls d pn hz hf => suite_nt T.ec_NoText T.xf_NoText T.at_NoText hz hf rfl (fun _ => pv 2) (cs := [D.x_NoLay, D.x_NoNet, D.x_NoPlay, D.x_NoSpot, D.x_NoStep]) (pa_cons (pe_glob (v := .ref D.x_NoLay) (by rfl) T.g_NoLay rfl) (pa_cons (pe_glob (v := .ref D.x_NoNet) (by rfl) T.g_NoNet rfl) (pa_cons (pe_glob (v := .ref D.x_NoPlay) (by rfl) T.g_NoPlay rfl) (pa_cons (pe_glob (v := .ref D.x_NoSpot) (by rfl) T.g_NoSpot rfl) (pa_cons (pe_glob (v := .ref D.x_NoStep) (by rfl) T.g_NoStep rfl) pa_nil))))) (fun _ _ _ q => q) (by show 5 ≤ 1000; omega) T.k5 T.kV T.kT (by rfl) T.n_isinstance (by rfl) T.n_ValueError (by rfl) T.rv_NoText.g))
    (dss_one (ds_ret (de_move (pv 1)))))
theorem ok_law (T : Txt w K mg D) : FnG P w K mg base 6 D.a_law D.fd_law ["script"] (spB K (xpT [("NoText", D.x_NoText)]) 1 m_law_v5) :=
  fn_BG T.F_law sc_law rfl (by decide) fun cdv A outer s H E hg hr =>
    (dss_cons (ds_for (passes_of rfl) rfl (di_range1 (by rfl) T.n_range (da_cons (DE.opd (de_callB (call_max2 rfl) ok_max2 (by rfl) T.n_max bt_max (da_cons (DE.opd de_int) (da_cons (DE.opd (de_callB (call_min2 rfl) ok_min2 (by rfl) T.n_min bt_min (da_cons (DE.opd (de_callB call_len ok_len (by rfl) T.n_len bt_len (da_cons (do_nm (pv 0)) da_nil))) (da_cons (DE.opd de_int) da_nil)))) da_nil)))) da_nil)) (dg_name (i := 1) sc_law.nd rfl (.inl rfl)) (dss_cons (ds_set (i := 2) sc_law.nd rfl (.inl rfl) (de_call (L2N.takes_of rfl rfl rfl rfl) (ok__law_box T) (hr.mono (by decide)) (by rfl) T.g__law_box T.F__law_box.kp T.b__law_box (da_cons (do_nm (pv 0)) (da_cons (do_nm (pv 1)) da_nil))))
    (dss_cons (ds_set (i := 3) sc_law.nd rfl (.inl rfl) (de_call (L2N.takes_of rfl rfl rfl rfl) (ok__law_text T) (hr.mono (by decide)) (by rfl) T.g__law_text T.F__law_text.kp T.b__law_text (da_cons (DE.opd (de_callI (L2N.takes_of rfl rfl rfl rfl) (ok__law_net T) (hr.mono (by decide)) (by rfl) T.g__law_net T.F__law_net.kp T.b__law_net (pv 2) (da_cons (DE.opd de_int) da_nil))) da_nil)))
    (dss_cons (ds_set (i := 4) sc_law.nd rfl (.inl rfl) (de_callI (L2N.takes_of rfl rfl rfl rfl) (ok__law_odd T) (hr.mono (by decide)) (by rfl) T.g__law_odd T.F__law_odd.kp T.b__law_odd (pv 2) da_nil))
    (dss_cons (ds_for (passes_of rfl) rfl (di_seq (de_lst (da_cons (DE.opd (de_callI (L2N.takes_of rfl rfl rfl rfl) (ok__law_bent T) (hr.mono (by decide)) (by rfl) T.g__law_bent T.F__law_bent.kp T.b__law_bent (pv 2) (da_cons (DE.opd (de_var (pv 3))) da_nil))) (da_cons (DE.opd (de_callI (L2N.takes_of rfl rfl rfl rfl) (ok__law_bent T) (hr.mono (by decide)) (by rfl) T.g__law_bent T.F__law_bent.kp T.b__law_bent (pv 2) (da_cons (DE.opd (de_var (pv 3))) da_nil))) (da_cons (DE.opd (de_bin or_add ok_add (do_nm (pv 3)) (DE.opd de_str))) (da_cons (DE.opd de_str) (da_cons (DE.opd (de_var (pv 3))) da_nil))))))) (dg_name (i := 5) sc_law.nd rfl (.inl rfl)) (dss_cons (ds_set (i := 6) sc_law.nd rfl (.inl rfl) (de_call (L2N.takes_of rfl rfl rfl rfl) (ok__law_read T) (hr.mono (by decide)) (by rfl) T.g__law_read T.F__law_read.kp T.b__law_read (da_cons (do_nm (pv 5)) da_nil)))
    (dss_cons (ds_set (i := 7) sc_law.nd rfl (.inl rfl) (de_call (L2N.takes_of rfl rfl rfl rfl) (ok__law_told T) (hr.mono (by decide)) (by rfl) T.g__law_told T.F__law_told.kp T.b__law_told (da_cons (do_nm (pv 5)) da_nil)))
    (dss_one (ds_if (DW.dt (dw_or (dt_cmp (or_ne (hu64 hr)) ok_ne (nomark _) (DE.opd (de_isi kitT_tuple (by rfl) T.n_isinstance (by rfl) T.n_tuple bt_tuple (do_nm (pv 6)))) (DE.opd (de_isi kitT_tuple (by rfl) T.n_isinstance (by rfl) T.n_tuple bt_tuple (do_nm (pv 7))))) (dw_or1 (dt_cmp (or_ne (hu64 hr)) ok_ne (nomark _) (DE.opd (de_callB (cr_repr hg (hu64 hr)) ok_repr (by rfl) T.n_repr bt_repr (da_cons (do_nm (pv 7)) da_nil))) (DE.opd (de_callB (cr_repr hg (hu64 hr)) ok_repr (by rfl) T.n_repr bt_repr (da_cons (do_nm (pv 6)) da_nil))))))) (dss_one (ds_ret de_bool)) dss_nil)))))
    (dss_one (ds_if (DW.dt (dw_or (DW.dt (dw_and (dt_not (dt_val (de_isi kitT_str (by rfl) T.n_isinstance (by rfl) T.n_str bt_str (do_nm (pv 4))))) (dw_and1 (dt_cmp (or_ne (hu64 hr)) ok_ne (nomark _) (DE.opd (de_callB (cr_repr hg (hu64 hr)) ok_repr (by rfl) T.n_repr bt_repr (da_cons (DE.opd (de_call (L2N.takes_of rfl rfl rfl rfl) (ok__law_told T) (hr.mono (by decide)) (by rfl) T.g__law_told T.F__law_told.kp T.b__law_told (da_cons (do_nm (pv 4)) da_nil))) da_nil))) (DE.opd de_str))))) (dw_or1 (dt_cmp (or_ne (hu64 hr)) ok_ne (nomark _) (DE.opd (de_callB (cr_repr hg (hu64 hr)) ok_repr (by rfl) T.n_repr bt_repr (da_cons (DE.opd (de_call (L2N.takes_of rfl rfl rfl rfl) (ok__law_told T) (hr.mono (by decide)) (by rfl) T.g__law_told T.F__law_told.kp T.b__law_told (da_cons (DE.opd (de_lst (da_cons (DE.opd (de_var (pv 3))) da_nil))) da_nil))) da_nil))) (DE.opd de_str))))) (dss_one (ds_ret de_bool)) dss_nil)))))))
    (dss_one (ds_ret de_bool)))
end
theorem all_mk {l : PySem.W.OpenLaw} {w : World} {K : PySem.W.Frag} {h : Heap} {mg : Str → Option Value} {fa : Addr} (X : K.In h) (G : h.Ns mainGlobals mg) (hfa : mg "law" = some (.ref fa)) {f_NoText___init__ f_is_whole f_is_rising f_number_in f_needs_in f_read_net f__law_cell f__law_mix f__law_box f__law_take f__law_odd f__law_net f__law_text f__law_bent f__law_read f__law_told f_law : Addr}
    {od_NoText___init__ an_NoText___init__ : Option Addr} {sl_NoText___init__ : Array (Option Value)} {oc_NoText___init__ kV_NoText___init__ dc_NoText___init__ pm_NoText___init__ cd_NoText___init__ ct_NoText___init__ : Value}
    {od_is_whole an_is_whole : Option Addr} {sl_is_whole : Array (Option Value)} {oc_is_whole kV_is_whole dc_is_whole pm_is_whole cd_is_whole ct_is_whole : Value}
    {od_is_rising an_is_rising : Option Addr} {sl_is_rising : Array (Option Value)} {oc_is_rising kV_is_rising dc_is_rising pm_is_rising cd_is_rising ct_is_rising : Value}
    {od_number_in an_number_in : Option Addr} {sl_number_in : Array (Option Value)} {oc_number_in kV_number_in dc_number_in pm_number_in cd_number_in ct_number_in : Value}
    {od_needs_in an_needs_in : Option Addr} {sl_needs_in : Array (Option Value)} {oc_needs_in kV_needs_in dc_needs_in pm_needs_in cd_needs_in ct_needs_in : Value}
    {od_read_net an_read_net : Option Addr} {sl_read_net : Array (Option Value)} {oc_read_net kV_read_net dc_read_net pm_read_net cd_read_net ct_read_net : Value}
    {od__law_cell an__law_cell : Option Addr} {sl__law_cell : Array (Option Value)} {oc__law_cell kV__law_cell dc__law_cell pm__law_cell cd__law_cell ct__law_cell : Value}
    {od__law_mix an__law_mix : Option Addr} {sl__law_mix : Array (Option Value)} {oc__law_mix kV__law_mix dc__law_mix pm__law_mix cd__law_mix ct__law_mix : Value}
    {od__law_box an__law_box : Option Addr} {sl__law_box : Array (Option Value)} {oc__law_box kV__law_box dc__law_box pm__law_box cd__law_box ct__law_box : Value}
    {od__law_take an__law_take : Option Addr} {sl__law_take : Array (Option Value)} {oc__law_take kV__law_take dc__law_take pm__law_take cd__law_take ct__law_take : Value}
    {od__law_odd an__law_odd : Option Addr} {sl__law_odd : Array (Option Value)} {oc__law_odd kV__law_odd dc__law_odd pm__law_odd cd__law_odd ct__law_odd : Value}
    {od__law_net an__law_net : Option Addr} {sl__law_net : Array (Option Value)} {oc__law_net kV__law_net dc__law_net pm__law_net cd__law_net ct__law_net : Value}
    {od__law_text an__law_text : Option Addr} {sl__law_text : Array (Option Value)} {oc__law_text kV__law_text dc__law_text pm__law_text cd__law_text ct__law_text : Value}
    {od__law_bent an__law_bent : Option Addr} {sl__law_bent : Array (Option Value)} {oc__law_bent kV__law_bent dc__law_bent pm__law_bent cd__law_bent ct__law_bent : Value}
    {od__law_read an__law_read : Option Addr} {sl__law_read : Array (Option Value)} {oc__law_read kV__law_read dc__law_read pm__law_read cd__law_read ct__law_read : Value}
    {od__law_told an__law_told : Option Addr} {sl__law_told : Array (Option Value)} {oc__law_told kV__law_told dc__law_told pm__law_told cd__law_told ct__law_told : Value}
    {od_law an_law : Option Addr} {sl_law : Array (Option Value)} {oc_law kV_law dc_law pm_law cd_law ct_law : Value}
    {tk_FIGURES : Tok}
    {tk_MOST_SPOTS : Tok}
    {x_NoText : Addr}
    (a_NoText___init__ : PySem.W.findIn K (.ref x_NoText) "__init__" = some (some (.ref f_NoText___init__))) (i_NoText___init__ : PySem.W.typeIn K (.ref f_NoText___init__) = some (.type "function")) (l_NoText___init__ : K.lookup f_NoText___init__ = some ⟨oc_NoText___init__, od_NoText___init__, .func (PySem.W.fnOf "__init__" "NoText.__init__" (defArgs s_NoText___init__) (defBody s_NoText___init__) (defScope s_NoText___init__) .none kV_NoText___init__ dc_NoText___init__ pm_NoText___init__ an_NoText___init__ cd_NoText___init__ ct_NoText___init__), sl_NoText___init__⟩) (c_NoText___init__ : PySem.W.codeIn K cd_NoText___init__ "NoText.__init__" = true) (k_NoText___init__ : PySem.W.keepIn K (.ref f_NoText___init__) = true)
    (a_is_whole : PySem.W.nsIn K mainGlobals "is_whole" = some (some (.ref f_is_whole))) (l_is_whole : K.lookup f_is_whole = some ⟨oc_is_whole, od_is_whole, .func (PySem.W.fnOf "is_whole" "is_whole" (defArgs s_is_whole) (defBody s_is_whole) (defScope s_is_whole) .none kV_is_whole dc_is_whole pm_is_whole an_is_whole cd_is_whole ct_is_whole), sl_is_whole⟩) (c_is_whole : PySem.W.codeIn K cd_is_whole "is_whole" = true) (k_is_whole : PySem.W.keepIn K (.ref f_is_whole) = true)
    (a_is_rising : PySem.W.nsIn K mainGlobals "is_rising" = some (some (.ref f_is_rising))) (l_is_rising : K.lookup f_is_rising = some ⟨oc_is_rising, od_is_rising, .func (PySem.W.fnOf "is_rising" "is_rising" (defArgs s_is_rising) (defBody s_is_rising) (defScope s_is_rising) .none kV_is_rising dc_is_rising pm_is_rising an_is_rising cd_is_rising ct_is_rising), sl_is_rising⟩) (c_is_rising : PySem.W.codeIn K cd_is_rising "is_rising" = true) (k_is_rising : PySem.W.keepIn K (.ref f_is_rising) = true)
    (a_number_in : PySem.W.nsIn K mainGlobals "number_in" = some (some (.ref f_number_in))) (l_number_in : K.lookup f_number_in = some ⟨oc_number_in, od_number_in, .func (PySem.W.fnOf "number_in" "number_in" (defArgs s_number_in) (defBody s_number_in) (defScope s_number_in) .none kV_number_in dc_number_in pm_number_in an_number_in cd_number_in ct_number_in), sl_number_in⟩) (c_number_in : PySem.W.codeIn K cd_number_in "number_in" = true) (k_number_in : PySem.W.keepIn K (.ref f_number_in) = true)
    (a_needs_in : PySem.W.nsIn K mainGlobals "needs_in" = some (some (.ref f_needs_in))) (l_needs_in : K.lookup f_needs_in = some ⟨oc_needs_in, od_needs_in, .func (PySem.W.fnOf "needs_in" "needs_in" (defArgs s_needs_in) (defBody s_needs_in) (defScope s_needs_in) .none kV_needs_in dc_needs_in pm_needs_in an_needs_in cd_needs_in ct_needs_in), sl_needs_in⟩) (c_needs_in : PySem.W.codeIn K cd_needs_in "needs_in" = true) (k_needs_in : PySem.W.keepIn K (.ref f_needs_in) = true)
    (a_read_net : PySem.W.nsIn K mainGlobals "read_net" = some (some (.ref f_read_net))) (l_read_net : K.lookup f_read_net = some ⟨oc_read_net, od_read_net, .func (PySem.W.fnOf "read_net" "read_net" (defArgs s_read_net) (defBody s_read_net) (defScope s_read_net) .none kV_read_net dc_read_net pm_read_net an_read_net cd_read_net ct_read_net), sl_read_net⟩) (c_read_net : PySem.W.codeIn K cd_read_net "read_net" = true) (k_read_net : PySem.W.keepIn K (.ref f_read_net) = true)
    (a__law_cell : PySem.W.nsIn K mainGlobals "_law_cell" = some (some (.ref f__law_cell))) (l__law_cell : K.lookup f__law_cell = some ⟨oc__law_cell, od__law_cell, .func (PySem.W.fnOf "_law_cell" "_law_cell" (defArgs s__law_cell) (defBody s__law_cell) (defScope s__law_cell) .none kV__law_cell dc__law_cell pm__law_cell an__law_cell cd__law_cell ct__law_cell), sl__law_cell⟩) (c__law_cell : PySem.W.codeIn K cd__law_cell "_law_cell" = true) (k__law_cell : PySem.W.keepIn K (.ref f__law_cell) = true)
    (a__law_mix : PySem.W.nsIn K mainGlobals "_law_mix" = some (some (.ref f__law_mix))) (l__law_mix : K.lookup f__law_mix = some ⟨oc__law_mix, od__law_mix, .func (PySem.W.fnOf "_law_mix" "_law_mix" (defArgs s__law_mix) (defBody s__law_mix) (defScope s__law_mix) .none kV__law_mix dc__law_mix pm__law_mix an__law_mix cd__law_mix ct__law_mix), sl__law_mix⟩) (c__law_mix : PySem.W.codeIn K cd__law_mix "_law_mix" = true) (k__law_mix : PySem.W.keepIn K (.ref f__law_mix) = true)
    (a__law_box : PySem.W.nsIn K mainGlobals "_law_box" = some (some (.ref f__law_box))) (l__law_box : K.lookup f__law_box = some ⟨oc__law_box, od__law_box, .func (PySem.W.fnOf "_law_box" "_law_box" (defArgs s__law_box) (defBody s__law_box) (defScope s__law_box) .none kV__law_box dc__law_box pm__law_box an__law_box cd__law_box ct__law_box), sl__law_box⟩) (c__law_box : PySem.W.codeIn K cd__law_box "_law_box" = true) (k__law_box : PySem.W.keepIn K (.ref f__law_box) = true)
    (a__law_take : PySem.W.nsIn K mainGlobals "_law_take" = some (some (.ref f__law_take))) (l__law_take : K.lookup f__law_take = some ⟨oc__law_take, od__law_take, .func (PySem.W.fnOf "_law_take" "_law_take" (defArgs s__law_take) (defBody s__law_take) (defScope s__law_take) .none kV__law_take dc__law_take pm__law_take an__law_take cd__law_take ct__law_take), sl__law_take⟩) (c__law_take : PySem.W.codeIn K cd__law_take "_law_take" = true) (k__law_take : PySem.W.keepIn K (.ref f__law_take) = true)
    (a__law_odd : PySem.W.nsIn K mainGlobals "_law_odd" = some (some (.ref f__law_odd))) (l__law_odd : K.lookup f__law_odd = some ⟨oc__law_odd, od__law_odd, .func (PySem.W.fnOf "_law_odd" "_law_odd" (defArgs s__law_odd) (defBody s__law_odd) (defScope s__law_odd) .none kV__law_odd dc__law_odd pm__law_odd an__law_odd cd__law_odd ct__law_odd), sl__law_odd⟩) (c__law_odd : PySem.W.codeIn K cd__law_odd "_law_odd" = true) (k__law_odd : PySem.W.keepIn K (.ref f__law_odd) = true)
    (a__law_net : PySem.W.nsIn K mainGlobals "_law_net" = some (some (.ref f__law_net))) (l__law_net : K.lookup f__law_net = some ⟨oc__law_net, od__law_net, .func (PySem.W.fnOf "_law_net" "_law_net" (defArgs s__law_net) (defBody s__law_net) (defScope s__law_net) .none kV__law_net dc__law_net pm__law_net an__law_net cd__law_net ct__law_net), sl__law_net⟩) (c__law_net : PySem.W.codeIn K cd__law_net "_law_net" = true) (k__law_net : PySem.W.keepIn K (.ref f__law_net) = true)
    (a__law_text : PySem.W.nsIn K mainGlobals "_law_text" = some (some (.ref f__law_text))) (l__law_text : K.lookup f__law_text = some ⟨oc__law_text, od__law_text, .func (PySem.W.fnOf "_law_text" "_law_text" (defArgs s__law_text) (defBody s__law_text) (defScope s__law_text) .none kV__law_text dc__law_text pm__law_text an__law_text cd__law_text ct__law_text), sl__law_text⟩) (c__law_text : PySem.W.codeIn K cd__law_text "_law_text" = true) (k__law_text : PySem.W.keepIn K (.ref f__law_text) = true)
    (a__law_bent : PySem.W.nsIn K mainGlobals "_law_bent" = some (some (.ref f__law_bent))) (l__law_bent : K.lookup f__law_bent = some ⟨oc__law_bent, od__law_bent, .func (PySem.W.fnOf "_law_bent" "_law_bent" (defArgs s__law_bent) (defBody s__law_bent) (defScope s__law_bent) .none kV__law_bent dc__law_bent pm__law_bent an__law_bent cd__law_bent ct__law_bent), sl__law_bent⟩) (c__law_bent : PySem.W.codeIn K cd__law_bent "_law_bent" = true) (k__law_bent : PySem.W.keepIn K (.ref f__law_bent) = true)
    (a__law_read : PySem.W.nsIn K mainGlobals "_law_read" = some (some (.ref f__law_read))) (l__law_read : K.lookup f__law_read = some ⟨oc__law_read, od__law_read, .func (PySem.W.fnOf "_law_read" "_law_read" (defArgs s__law_read) (defBody s__law_read) (defScope s__law_read) .none kV__law_read dc__law_read pm__law_read an__law_read cd__law_read ct__law_read), sl__law_read⟩) (c__law_read : PySem.W.codeIn K cd__law_read "_law_read" = true) (k__law_read : PySem.W.keepIn K (.ref f__law_read) = true)
    (a__law_told : PySem.W.nsIn K mainGlobals "_law_told" = some (some (.ref f__law_told))) (l__law_told : K.lookup f__law_told = some ⟨oc__law_told, od__law_told, .func (PySem.W.fnOf "_law_told" "_law_told" (defArgs s__law_told) (defBody s__law_told) (defScope s__law_told) .none kV__law_told dc__law_told pm__law_told an__law_told cd__law_told ct__law_told), sl__law_told⟩) (c__law_told : PySem.W.codeIn K cd__law_told "_law_told" = true) (k__law_told : PySem.W.keepIn K (.ref f__law_told) = true)
    (a_law : PySem.W.nsIn K mainGlobals "law" = some (some (.ref f_law))) (l_law : K.lookup f_law = some ⟨oc_law, od_law, .func (PySem.W.fnOf "law" "law" (defArgs s_law) (defBody s_law) (defScope s_law) .none kV_law dc_law pm_law an_law cd_law ct_law), sl_law⟩) (c_law : PySem.W.codeIn K cd_law "law" = true) (k_law : PySem.W.keepIn K (.ref f_law) = true)
    (n_ValueError : PySem.W.nsIn K mainGlobals "ValueError" = some none)
    (n_abs : PySem.W.nsIn K mainGlobals "abs" = some none)
    (n_bool : PySem.W.nsIn K mainGlobals "bool" = some none)
    (n_divmod : PySem.W.nsIn K mainGlobals "divmod" = some none)
    (n_enumerate : PySem.W.nsIn K mainGlobals "enumerate" = some none)
    (n_int : PySem.W.nsIn K mainGlobals "int" = some none)
    (n_isinstance : PySem.W.nsIn K mainGlobals "isinstance" = some none)
    (n_len : PySem.W.nsIn K mainGlobals "len" = some none)
    (n_max : PySem.W.nsIn K mainGlobals "max" = some none)
    (n_min : PySem.W.nsIn K mainGlobals "min" = some none)
    (n_range : PySem.W.nsIn K mainGlobals "range" = some none)
    (n_repr : PySem.W.nsIn K mainGlobals "repr" = some none)
    (n_set : PySem.W.nsIn K mainGlobals "set" = some none)
    (n_sorted : PySem.W.nsIn K mainGlobals "sorted" = some none)
    (n_str : PySem.W.nsIn K mainGlobals "str" = some none)
    (n_tuple : PySem.W.nsIn K mainGlobals "tuple" = some none)
    (k_FIGURES : PySem.W.nsIn K mainGlobals "FIGURES" = some (some (.str "0123456789" tk_FIGURES)))
    (k_MOST_SPOTS : PySem.W.nsIn K mainGlobals "MOST_SPOTS" = some (some (.int 10 tk_MOST_SPOTS)))
    {x_StoneError : Addr} {cd_StoneError : ClassData} (xg_StoneError : PySem.W.nsIn K mainGlobals "StoneError" = some (some (.ref x_StoneError))) (xt_StoneError : PySem.W.typeIn K (.ref x_StoneError) = some (.type "type")) (xc_StoneError : PySem.W.clsIn K x_StoneError = some cd_StoneError)
    {cd_NoText : ClassData} (xg_NoText : PySem.W.nsIn K mainGlobals "NoText" = some (some (.ref x_NoText))) (xt_NoText : PySem.W.typeIn K (.ref x_NoText) = some (.type "type")) (xc_NoText : PySem.W.clsIn K x_NoText = some cd_NoText)
    {x_NoLay : Addr} {cd_NoLay : ClassData} (xg_NoLay : PySem.W.nsIn K mainGlobals "NoLay" = some (some (.ref x_NoLay))) (xt_NoLay : PySem.W.typeIn K (.ref x_NoLay) = some (.type "type")) (xc_NoLay : PySem.W.clsIn K x_NoLay = some cd_NoLay)
    {x_NoNet : Addr} {cd_NoNet : ClassData} (xg_NoNet : PySem.W.nsIn K mainGlobals "NoNet" = some (some (.ref x_NoNet))) (xt_NoNet : PySem.W.typeIn K (.ref x_NoNet) = some (.type "type")) (xc_NoNet : PySem.W.clsIn K x_NoNet = some cd_NoNet)
    {x_NoPlay : Addr} {cd_NoPlay : ClassData} (xg_NoPlay : PySem.W.nsIn K mainGlobals "NoPlay" = some (some (.ref x_NoPlay))) (xt_NoPlay : PySem.W.typeIn K (.ref x_NoPlay) = some (.type "type")) (xc_NoPlay : PySem.W.clsIn K x_NoPlay = some cd_NoPlay)
    {x_NoSpot : Addr} {cd_NoSpot : ClassData} (xg_NoSpot : PySem.W.nsIn K mainGlobals "NoSpot" = some (some (.ref x_NoSpot))) (xt_NoSpot : PySem.W.typeIn K (.ref x_NoSpot) = some (.type "type")) (xc_NoSpot : PySem.W.clsIn K x_NoSpot = some cd_NoSpot)
    {x_NoStep : Addr} {cd_NoStep : ClassData} (xg_NoStep : PySem.W.nsIn K mainGlobals "NoStep" = some (some (.ref x_NoStep))) (xt_NoStep : PySem.W.typeIn K (.ref x_NoStep) = some (.type "type")) (xc_NoStep : PySem.W.clsIn K x_NoStep = some cd_NoStep)
    (xb : PySem.W.subIn K (.ref x_StoneError) (.type "BaseException") = some true) (xn : PySem.W.specialIn K (.builtin "object.__class__") "__get__" = some (some (.builtin "getset_descriptor.__get__"))) (xk : PySem.W.takesIn K (.builtin "object.__class__") = some true)
    (z_rd : PySem.W.readsIn K x_StoneError (.type "type") = true) (z_ga : PySem.W.specialIn K (.ref x_StoneError) "__getattribute__" = some (some (.builtin "type.__getattribute__"))) (z_vv : PySem.W.findCls K (.ref x_StoneError) (.type "type") "__init__" = some (.val (.builtin "ValueError.__init__")))
    {nmN qN : Str} {NN : Addr} {bsN bmN : List Value} {snN : List Str} {subN : List Value} {abN : Bool} {colN : Option Bool} {ddN : Option Addr} {k0N k1N k2N k3N k5N : Option Value} (z_ox : K.lookup x_NoText = some ⟨.type "type", ddN, .cls ⟨nmN, bsN, .ref x_NoText :: bmN, NN, qN, true, snN, subN, abN, colN, false⟩, #[k0N, k1N, k2N, k3N, some (.builtin "ValueError.__new__"), k5N]⟩) (z_rv : PySem.HandSPX.refsVE bmN = true)
    (z_sa : PySem.W.findIn K (.ref x_NoText) "__setattr__" = some (some (.builtin "object.__setattr__"))) (z_kk : PySem.W.keepIn K (.ref x_NoText) = true) (z_no : PySem.W.findIn K (.ref x_NoText) "at" = some none)
    (z_y1 : PySem.W.findIn K (.ref x_NoText) "__getattribute__" = some (some (.builtin "BaseException.__getattribute__"))) (z_y2 : PySem.W.findIn K (.ref x_NoText) "__getattr__" = some none) (z_y3 : PySem.W.hasDictIn K x_NoText = true) (z_y4 : PySem.W.findIn K (.ref x_NoText) "__class__" = some (some (.builtin "object.__class__")))
    (z_xm : cd_NoText.mro = DL.mroD x_NoText x_StoneError) (z_nd : ([x_StoneError, x_NoText, x_NoLay, x_NoNet, x_NoPlay, x_NoSpot, x_NoStep] : List Addr).Nodup)
    : ∃ fd : FuncData, (∀ (s : Shared) (v : Value), BindsTo s fd ⟨[v], []⟩ [("script", v)]) ∧ ∀ base : Heap, K.In base → base.Ns mainGlobals mg → FnG l.prog w K mg base 6 fa fd ["script"] (spLaw K) := by
  have e := hfa.symm.trans (PySem.W.mg_of X G a_law)
  cases e
  have F_NoText___init__ := fun_mk (st := s_NoText___init__) l_NoText___init__ c_NoText___init__ k_NoText___init__
  have F_is_whole := fun_mk (st := s_is_whole) l_is_whole c_is_whole k_is_whole
  have F_is_rising := fun_mk (st := s_is_rising) l_is_rising c_is_rising k_is_rising
  have F_number_in := fun_mk (st := s_number_in) l_number_in c_number_in k_number_in
  have F_needs_in := fun_mk (st := s_needs_in) l_needs_in c_needs_in k_needs_in
  have F_read_net := fun_mk (st := s_read_net) l_read_net c_read_net k_read_net
  have F__law_cell := fun_mk (st := s__law_cell) l__law_cell c__law_cell k__law_cell
  have F__law_mix := fun_mk (st := s__law_mix) l__law_mix c__law_mix k__law_mix
  have F__law_box := fun_mk (st := s__law_box) l__law_box c__law_box k__law_box
  have F__law_take := fun_mk (st := s__law_take) l__law_take c__law_take k__law_take
  have F__law_odd := fun_mk (st := s__law_odd) l__law_odd c__law_odd k__law_odd
  have F__law_net := fun_mk (st := s__law_net) l__law_net c__law_net k__law_net
  have F__law_text := fun_mk (st := s__law_text) l__law_text c__law_text k__law_text
  have F__law_bent := fun_mk (st := s__law_bent) l__law_bent c__law_bent k__law_bent
  have F__law_read := fun_mk (st := s__law_read) l__law_read c__law_read k__law_read
  have F__law_told := fun_mk (st := s__law_told) l__law_told c__law_told k__law_told
  have F_law := fun_mk (st := s_law) l_law c_law k_law
  have A_StoneError : DL.AskC K mg "StoneError" x_StoneError := ⟨PySem.W.mg_of X G xg_StoneError, xt_StoneError, by rw [xc_StoneError]; rfl⟩
  have A_NoText : DL.AskC K mg "NoText" x_NoText := ⟨PySem.W.mg_of X G xg_NoText, xt_NoText, by rw [xc_NoText]; rfl⟩
  have A_NoLay : DL.AskC K mg "NoLay" x_NoLay := ⟨PySem.W.mg_of X G xg_NoLay, xt_NoLay, by rw [xc_NoLay]; rfl⟩
  have A_NoNet : DL.AskC K mg "NoNet" x_NoNet := ⟨PySem.W.mg_of X G xg_NoNet, xt_NoNet, by rw [xc_NoNet]; rfl⟩
  have A_NoPlay : DL.AskC K mg "NoPlay" x_NoPlay := ⟨PySem.W.mg_of X G xg_NoPlay, xt_NoPlay, by rw [xc_NoPlay]; rfl⟩
  have A_NoSpot : DL.AskC K mg "NoSpot" x_NoSpot := ⟨PySem.W.mg_of X G xg_NoSpot, xt_NoSpot, by rw [xc_NoSpot]; rfl⟩
  have A_NoStep : DL.AskC K mg "NoStep" x_NoStep := ⟨PySem.W.mg_of X G xg_NoStep, xt_NoStep, by rw [xc_NoStep]; rfl⟩
  have MM : ∃ cd, PySem.W.clsIn K x_NoText = some cd ∧ cd.mro = DL.mroD x_NoText x_StoneError := ⟨cd_NoText, xc_NoText, z_xm⟩
  have XB : PySem.W.subIn K (.ref x_NoText) (.type "BaseException") = some true := by rw [DL.sub_nt MM]; simp [DL.mroD]
  have XO : PySem.W.mroIn K x_NoText (.type "object") = some true := by
    have z : PySem.W.subIn K (.ref x_NoText) (.type "object") = some true := by rw [DL.sub_nt MM]; simp [DL.mroD]
    exact z
  simp only [List.nodup_cons, List.mem_cons, List.not_mem_nil, or_false, not_or] at z_nd
  have K5 : PySem.W.kitAny K (.ref x_NoText) ([x_NoLay, x_NoNet, x_NoPlay, x_NoSpot, x_NoStep].map Value.ref) = some false := DL.kitAny_no fun u hu => by
    simp only [List.map_cons, List.map_nil, List.mem_cons, List.not_mem_nil, or_false] at hu
    rcases hu with rfl | rfl | rfl | rfl | rfl
    · exact DL.kit_nt MM A_NoLay (fun e => by simp [e] at z_nd) (fun e => by simp [e] at z_nd)
    · exact DL.kit_nt MM A_NoNet (fun e => by simp [e] at z_nd) (fun e => by simp [e] at z_nd)
    · exact DL.kit_nt MM A_NoPlay (fun e => by simp [e] at z_nd) (fun e => by simp [e] at z_nd)
    · exact DL.kit_nt MM A_NoSpot (fun e => by simp [e] at z_nd) (fun e => by simp [e] at z_nd)
    · exact DL.kit_nt MM A_NoStep (fun e => by simp [e] at z_nd) (fun e => by simp [e] at z_nd)
  have T : Txt w K mg ⟨f_NoText___init__, _, f_is_whole, _, f_is_rising, _, f_number_in, _, f_needs_in, _, f_read_net, _, f__law_cell, _, f__law_mix, _, f__law_box, _, f__law_take, _, f__law_odd, _, f__law_net, _, f__law_text, _, f__law_bent, _, f__law_read, _, f__law_told, _, fa, _, x_StoneError, x_NoText, x_NoLay, x_NoNet, x_NoPlay, x_NoSpot, x_NoStep⟩ := ⟨F_NoText___init__, (F_NoText___init__.binds (ps := ["self", "at"]) fun _ _ _ _ _ _ us hl => match us, hl with | [_, _], _ => rfl),
    F_is_whole, PySem.W.mg_of X G a_is_whole, (F_is_whole.binds (ps := ["thing"]) fun _ _ _ _ _ _ us hl => match us, hl with | [_], _ => rfl),
    F_is_rising, PySem.W.mg_of X G a_is_rising, (F_is_rising.binds (ps := ["things", "behind"]) fun _ _ _ _ _ _ us hl => match us, hl with | [_, _], _ => rfl),
    F_number_in, PySem.W.mg_of X G a_number_in, (F_number_in.binds (ps := ["word"]) fun _ _ _ _ _ _ us hl => match us, hl with | [_], _ => rfl),
    F_needs_in, PySem.W.mg_of X G a_needs_in, (F_needs_in.binds (ps := ["line", "spot"]) fun _ _ _ _ _ _ us hl => match us, hl with | [_, _], _ => rfl),
    F_read_net, PySem.W.mg_of X G a_read_net, (F_read_net.binds (ps := ["text"]) fun _ _ _ _ _ _ us hl => match us, hl with | [_], _ => rfl),
    F__law_cell, PySem.W.mg_of X G a__law_cell, (F__law_cell.binds (ps := ["script", "k"]) fun _ _ _ _ _ _ us hl => match us, hl with | [_, _], _ => rfl),
    F__law_mix, PySem.W.mg_of X G a__law_mix, (F__law_mix.binds (ps := ["cell", "k"]) fun _ _ _ _ _ _ us hl => match us, hl with | [_, _], _ => rfl),
    F__law_box, PySem.W.mg_of X G a__law_box, (F__law_box.binds (ps := ["script", "k"]) fun _ _ _ _ _ _ us hl => match us, hl with | [_, _], _ => rfl),
    F__law_take, PySem.W.mg_of X G a__law_take, (F__law_take.binds (ps := ["box", "many"]) fun _ _ _ _ _ _ us hl => match us, hl with | [_, _], _ => rfl),
    F__law_odd, PySem.W.mg_of X G a__law_odd, (F__law_odd.binds (ps := ["box"]) fun _ _ _ _ _ _ us hl => match us, hl with | [_], _ => rfl),
    F__law_net, PySem.W.mg_of X G a__law_net, (F__law_net.binds (ps := ["box", "most"]) fun _ _ _ _ _ _ us hl => match us, hl with | [_, _], _ => rfl),
    F__law_text, PySem.W.mg_of X G a__law_text, (F__law_text.binds (ps := ["net"]) fun _ _ _ _ _ _ us hl => match us, hl with | [_], _ => rfl),
    F__law_bent, PySem.W.mg_of X G a__law_bent, (F__law_bent.binds (ps := ["box", "text"]) fun _ _ _ _ _ _ us hl => match us, hl with | [_, _], _ => rfl),
    F__law_read, PySem.W.mg_of X G a__law_read, (F__law_read.binds (ps := ["text"]) fun _ _ _ _ _ _ us hl => match us, hl with | [_], _ => rfl),
    F__law_told, PySem.W.mg_of X G a__law_told, (F__law_told.binds (ps := ["text"]) fun _ _ _ _ _ _ us hl => match us, hl with | [_], _ => rfl),
    F_law, PySem.W.mg_of X G a_law, (F_law.binds (ps := ["script"]) fun _ _ _ _ _ _ us hl => match us, hl with | [_], _ => rfl),
    PySem.W.mg_none_of X G n_ValueError,
    PySem.W.mg_none_of X G n_abs,
    PySem.W.mg_none_of X G n_bool,
    PySem.W.mg_none_of X G n_divmod,
    PySem.W.mg_none_of X G n_enumerate,
    PySem.W.mg_none_of X G n_int,
    PySem.W.mg_none_of X G n_isinstance,
    PySem.W.mg_none_of X G n_len,
    PySem.W.mg_none_of X G n_max,
    PySem.W.mg_none_of X G n_min,
    PySem.W.mg_none_of X G n_range,
    PySem.W.mg_none_of X G n_repr,
    PySem.W.mg_none_of X G n_set,
    PySem.W.mg_none_of X G n_sorted,
    PySem.W.mg_none_of X G n_str,
    PySem.W.mg_none_of X G n_tuple,
    ⟨tk_FIGURES, PySem.W.mg_of X G k_FIGURES⟩,
    ⟨tk_MOST_SPOTS, PySem.W.mg_of X G k_MOST_SPOTS⟩,
    A_StoneError, ⟨z_rd, z_ga⟩, z_vv,
    ⟨PySem.W.mg_of X G xg_NoText, ⟨⟨_, _, _, _, _, _, _, _, _, _, _, _, _, _, _, z_ox, z_rv⟩, z_sa, XB, xt_NoText, z_kk⟩, a_NoText___init__, i_NoText___init__, z_no⟩, ⟨z_y1, z_y2, XB, z_y3, z_y4, xn, xk, XO⟩, ⟨z_y1, z_y2, XB, z_y3⟩, z_no,
    PySem.W.mg_of X G xg_NoLay, PySem.W.mg_of X G xg_NoNet, PySem.W.mg_of X G xg_NoPlay, PySem.W.mg_of X G xg_NoSpot, PySem.W.mg_of X G xg_NoStep, K5, DL.kit_nt_V MM, DL.kit_nt_self, DL.met_nt MM xb A_StoneError⟩
  exact ⟨_, fun s v => .of_eq rfl, fun base _ _ => law_ofG (ok_law T) (fun ns _ => DL.law_true_05 ns)⟩
end K05
open PySem PySem.W PyProof.Rows
set_option maxHeartbeats 0 in
theorem PySem.Challenge.cw_needstones_k05_texts_refused_holds : PySem.Challenge.rw_needstones_k05_texts_refused.Holds := by
  w_on; o_law; k_head; (case hw => w_witness2)
  k_fill
  refine DL.walk_ofG (l := PySem.Challenge.rw_needstones_k05_texts_refused) (k := 6) (x := "script") rfl rfl ⟨rfl, by decide, by decide⟩ (fun w h Y => PySem.W.kIn_of Y) ?F
  case F =>
    intro w mg fa h KX G hmg
    refine' K05.all_mk KX G hmg ?a_NoText___init__ ?i_NoText___init__ ?l_NoText___init__ ?c_NoText___init__ ?k_NoText___init__ ?a_is_whole ?l_is_whole ?c_is_whole ?k_is_whole ?a_is_rising ?l_is_rising ?c_is_rising ?k_is_rising ?a_number_in ?l_number_in ?c_number_in ?k_number_in ?a_needs_in ?l_needs_in ?c_needs_in ?k_needs_in ?a_read_net ?l_read_net ?c_read_net ?k_read_net ?a__law_cell ?l__law_cell ?c__law_cell ?k__law_cell ?a__law_mix ?l__law_mix ?c__law_mix ?k__law_mix ?a__law_box ?l__law_box ?c__law_box ?k__law_box ?a__law_take ?l__law_take ?c__law_take ?k__law_take ?a__law_odd ?l__law_odd ?c__law_odd ?k__law_odd ?a__law_net ?l__law_net ?c__law_net ?k__law_net ?a__law_text ?l__law_text ?c__law_text ?k__law_text ?a__law_bent ?l__law_bent ?c__law_bent ?k__law_bent ?a__law_read ?l__law_read ?c__law_read ?k__law_read ?a__law_told ?l__law_told ?c__law_told ?k__law_told ?a_law ?l_law ?c_law ?k_law ?n_ValueError ?n_abs ?n_bool ?n_divmod ?n_enumerate ?n_int ?n_isinstance ?n_len ?n_max ?n_min ?n_range ?n_repr ?n_set ?n_sorted ?n_str ?n_tuple ?k_FIGURES ?k_MOST_SPOTS ?xg_StoneError ?xt_StoneError ?xc_StoneError ?xg_NoText ?xt_NoText ?xc_NoText ?xg_NoLay ?xt_NoLay ?xc_NoLay ?xg_NoNet ?xt_NoNet ?xc_NoNet ?xg_NoPlay ?xt_NoPlay ?xc_NoPlay ?xg_NoSpot ?xt_NoSpot ?xc_NoSpot ?xg_NoStep ?xt_NoStep ?xc_NoStep ?xb ?xn ?xk ?z_rd ?z_ga ?z_vv ?z_ox ?z_rv ?z_sa ?z_kk ?z_no ?z_y1 ?z_y2 ?z_y3 ?z_y4 ?z_xm ?z_nd
    (case xg_NoText => k_is)
    (case a_NoText___init__ => k_is)
    (case i_NoText___init__ => k_is)
    (case l_NoText___init__ => k_is)
    (case c_NoText___init__ => k_is)
    (case k_NoText___init__ => k_is)
    (case a_is_whole => k_is)
    (case l_is_whole => k_is)
    (case c_is_whole => k_is)
    (case k_is_whole => k_is)
    (case a_is_rising => k_is)
    (case l_is_rising => k_is)
    (case c_is_rising => k_is)
    (case k_is_rising => k_is)
    (case a_number_in => k_is)
    (case l_number_in => k_is)
    (case c_number_in => k_is)
    (case k_number_in => k_is)
    (case a_needs_in => k_is)
    (case l_needs_in => k_is)
    (case c_needs_in => k_is)
    (case k_needs_in => k_is)
    (case a_read_net => k_is)
    (case l_read_net => k_is)
    (case c_read_net => k_is)
    (case k_read_net => k_is)
    (case a__law_cell => k_is)
    (case l__law_cell => k_is)
    (case c__law_cell => k_is)
    (case k__law_cell => k_is)
    (case a__law_mix => k_is)
    (case l__law_mix => k_is)
    (case c__law_mix => k_is)
    (case k__law_mix => k_is)
    (case a__law_box => k_is)
    (case l__law_box => k_is)
    (case c__law_box => k_is)
    (case k__law_box => k_is)
    (case a__law_take => k_is)
    (case l__law_take => k_is)
    (case c__law_take => k_is)
    (case k__law_take => k_is)
    (case a__law_odd => k_is)
    (case l__law_odd => k_is)
    (case c__law_odd => k_is)
    (case k__law_odd => k_is)
    (case a__law_net => k_is)
    (case l__law_net => k_is)
    (case c__law_net => k_is)
    (case k__law_net => k_is)
    (case a__law_text => k_is)
    (case l__law_text => k_is)
    (case c__law_text => k_is)
    (case k__law_text => k_is)
    (case a__law_bent => k_is)
    (case l__law_bent => k_is)
    (case c__law_bent => k_is)
    (case k__law_bent => k_is)
    (case a__law_read => k_is)
    (case l__law_read => k_is)
    (case c__law_read => k_is)
    (case k__law_read => k_is)
    (case a__law_told => k_is)
    (case l__law_told => k_is)
    (case c__law_told => k_is)
    (case k__law_told => k_is)
    (case a_law => k_is)
    (case l_law => k_is)
    (case c_law => k_is)
    (case k_law => k_is)
    (case n_ValueError => k_is)
    (case n_abs => k_is)
    (case n_bool => k_is)
    (case n_divmod => k_is)
    (case n_enumerate => k_is)
    (case n_int => k_is)
    (case n_isinstance => k_is)
    (case n_len => k_is)
    (case n_max => k_is)
    (case n_min => k_is)
    (case n_range => k_is)
    (case n_repr => k_is)
    (case n_set => k_is)
    (case n_sorted => k_is)
    (case n_str => k_is)
    (case n_tuple => k_is)
    (case k_FIGURES => k_is)
    (case k_MOST_SPOTS => k_is)
    (case xg_StoneError => k_is)
    (case xt_StoneError => k_is)
    (case xc_StoneError => k_is)
    (case xt_NoText => k_is)
    (case xc_NoText => k_is)
    (case xg_NoLay => k_is)
    (case xt_NoLay => k_is)
    (case xc_NoLay => k_is)
    (case xg_NoNet => k_is)
    (case xt_NoNet => k_is)
    (case xc_NoNet => k_is)
    (case xg_NoPlay => k_is)
    (case xt_NoPlay => k_is)
    (case xc_NoPlay => k_is)
    (case xg_NoSpot => k_is)
    (case xt_NoSpot => k_is)
    (case xc_NoSpot => k_is)
    (case xg_NoStep => k_is)
    (case xt_NoStep => k_is)
    (case xc_NoStep => k_is)
    (case xb => k_is)
    (case xn => k_is)
    (case xk => k_is)
    (case z_rd => k_is)
    (case z_ga => k_is)
    (case z_vv => k_is)
    (case z_ox => k_is)
    (case z_rv => rfl)
    (case z_sa => k_is)
    (case z_kk => k_is)
    (case z_no => k_is)
    (case z_y1 => k_is)
    (case z_y2 => k_is)
    (case z_y3 => k_is)
    (case z_y4 => k_is)
    (case z_xm => rfl)
    (case z_nd => decide)
#print axioms PySem.Challenge.cw_needstones_k05_texts_refused_holds
