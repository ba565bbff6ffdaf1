import PyProof.Rows.All
import Wide.All
import OpenK.AllK
import Wide.FinOn
import HandS.Base
import HandS.Call
import HandS.List
import HandS.Comp
import HandS.Dict
import HandS.Iter
import HandS.Text
import HandS.Exc
import HandS.Lambda
import HandS.Star
import HandS.TupAny
import HandS.Deep
import HandS.IsInst
import HandS.Property
import HandS.Ends
import HandS.Words
import HandS.WordsList
import HandS.WordsExc
import HandS.ExcOwn
import HandS.ExcCtx
import HandS.HotCalls
import HandS.CallSlots
import HandS.Defaults
import HandS.NoneIn
import HandS.TryOnly
import KE.GoesMore
import HandS.Zip
import HandS.WordsDict
import HandS.TupLen
import KE.KUnpackStar
import HandS.RaiseMore
import HandS.Conv
import HandS.SetFor
import HandS.StrMore
import KE.KDictDisplayH
import KE.KDictCopyH
import HandS.ExcInit
import KE.KExcIs
import HandS.ClsMeth
import HandS.More
import HandS.MakeKwOnly
import HandS.GenOver
import PyProof.GenComp
import HandS.GenBody
import HandS.GenList
import KE.KCallOwn
import PyProof.ReprRoads
import HandS.HeadWalk
import KE.KStateDown
import HandS.Head0
import HandS.Head1
import HandS.Head2
import HandS.HeadHook1
import HandS.HeadHook2
import HandS.HeadHook4
import HandS.Codes
import PyProof.StrLawsRepr
import PySem.Challenge.RW_passedits_k33_errors_of_likeness
set_option Elab.async false
set_option linter.all false
section
set_option maxRecDepth 100000
namespace Pf
open PySem PySem.Spec PyProof.Rows L2 LamX

/-- a key of a dict: an int or a text, or a tuple of these -/
inductive DK where
  | k (a : Key) | t (as : List Key)
  deriving DecidableEq
inductive D where
  | non | bl (b : Bool) | int (i : Int) | str (s : Str)
  | tup (ds : List D) | lst (ds : List D) | dct (t : Bool) (kvs : List (DK × D))
  | ins (c : Str) (fs : List (Str × D))
  | ref (r : Nat) | cls (c : Str) | ty (n : String) | scr (ns : List Int)
  | kup (ds : List D)
  deriving Inhabited
/-- what a reference means -/
inductive O where
  | lst (ds : List D) | ins (c : Str) (fs : List (Str × D))
  deriving Inhabited
abbrev Hl := List O
def kd : Key → D
  | .inl i => .int i
  | .inr x => .str x
def kt (k : List Key) : D := .tup (k.map kd)
def DK.d : DK → D
  | .k a => kd a
  | .t as => kt as
/-- the world: what stands as it is (F), what is somebody's own (L), where the references are (m) -/
structure Wd where
  F : Addr → Prop
  L : Addr → Prop
  m : Nat → Option Addr
/-- the lambdas' tables; the exception that is handled: its object, its class, its dict -/
structure Tb where
  tabs : List (Addr × Str)
  xc : Option (Addr × Addr × Addr)
/-- the row's facts -/
structure Gx where
  K : PySem.W.Frag
  mg : Str → Option Value
  T : Tb

mutual
inductive Rep (G : Gx) (w : Wd) (H : Hp) : V → D → Prop
  | non : Rep G w H .non .non
  | bl (b : Bool) : Rep G w H (.bl b) (.bl b)
  | int (i : Int) : Rep G w H (.int i) (.int i)
  | str (x : Str) : Rep G w H (.str x) (.str x)
  | tup {a : Addr} {xs : List V} {ds : List D} : H a = some (.tup xs) → Reps G w H xs ds → Rep G w H (.ref a) (.tup ds)
  | kup {a : Addr} {xs : List V} {ds : List D} : (∀ H', SqT G.K H' a xs) → Reps G w H xs ds → Rep G w H (.ref a) (.kup ds)
  | lst {a : Addr} {xs : List V} {ds : List D} : w.F a → H a = some (.lst xs) → Reps G w H xs ds → Rep G w H (.ref a) (.lst ds)
  | dK {a : Addr} {o : Obj} {kvs : List (Key × V)} {ds : List (DK × D)} : w.F a → H a = some (.frz o (.dK kvs)) → RepK G w H kvs ds → Rep G w H (.ref a) (.dct false ds)
  | dT {a : Addr} {o : Obj} {kvs : List (List Key × V)} {ds : List (DK × D)} : w.F a → H a = some (.frz o (.dT kvs)) → RepT G w H kvs ds → Rep G w H (.ref a) (.dct true ds)
  | ins {a C dx : Addr} {fs : List (Str × V)} {c : Str} {ds : List (Str × D)} : w.F a → G.mg c = some (.ref C) → H a = some (.ins C dx fs) → RepF G w H fs ds → Rep G w H (.ref a) (.ins c ds)
  | ref {a : Addr} {r : Nat} : w.m r = some a → Rep G w H (.ref a) (.ref r)
  | cls {C : Addr} {c : Str} : G.mg c = some (.ref C) → Rep G w H (.ref C) (.cls c)
  | ty (n : String) : Rep G w H (.ty n) (.ty n)
  | scr {a : Addr} {o : Obj} {ns : List Int} : w.F a → H a = some (.frz o (.lst (ns.map V.int))) → Rep G w H (.ref a) (.scr ns)
inductive Reps (G : Gx) (w : Wd) (H : Hp) : List V → List D → Prop
  | nil : Reps G w H [] []
  | cons {v : V} {d : D} {vs : List V} {ds : List D} : Rep G w H v d → Reps G w H vs ds → Reps G w H (v :: vs) (d :: ds)
inductive RepK (G : Gx) (w : Wd) (H : Hp) : List (Key × V) → List (DK × D) → Prop
  | nil : RepK G w H [] []
  | cons {k : Key} {v : V} {d : D} {vs : List (Key × V)} {ds : List (DK × D)} : Rep G w H v d → RepK G w H vs ds → RepK G w H ((k, v) :: vs) ((.k k, d) :: ds)
inductive RepT (G : Gx) (w : Wd) (H : Hp) : List (List Key × V) → List (DK × D) → Prop
  | nil : RepT G w H [] []
  | cons {k : List Key} {v : V} {d : D} {vs : List (List Key × V)} {ds : List (DK × D)} : Rep G w H v d → RepT G w H vs ds → RepT G w H ((k, v) :: vs) ((.t k, d) :: ds)
inductive RepF (G : Gx) (w : Wd) (H : Hp) : List (Str × V) → List (Str × D) → Prop
  | nil : RepF G w H [] []
  | cons {k : Str} {v : V} {d : D} {vs : List (Str × V)} {ds : List (Str × D)} : Rep G w H v d → RepF G w H vs ds → RepF G w H ((k, v) :: vs) ((k, d) :: ds)
end

/-- all that a representation leans on is kept -/
structure Soft (G : Gx) (w : Wd) (H : Hp) (w' : Wd) (H' : Hp) : Prop where
  F : ∀ a, w.F a → w'.F a
  m : ∀ r a, w.m r = some a → w'.m r = some a
  tup : ∀ a xs, H a = some (.tup xs) → H' a = some (.tup xs)
  lst : ∀ a xs, w.F a → H a = some (.lst xs) → H' a = some (.lst xs)
  scr : ∀ a o xs, w.F a → H a = some (.frz o (.lst xs)) → H' a = some (.frz o (.lst xs))
  dK : ∀ a o kvs, w.F a → H a = some (.frz o (.dK kvs)) → H' a = some (.frz o (.dK kvs))
  dT : ∀ a o kvs, w.F a → H a = some (.frz o (.dT kvs)) → H' a = some (.frz o (.dT kvs))
  ins : ∀ a C dx fs, w.F a → H a = some (.ins C dx fs) → H' a = some (.ins C dx fs)

section
variable {G : Gx} {w w' : Wd} {H H' : Hp}
mutual
theorem Rep.soft (e : Soft G w H w' H') : ∀ {v : V} {d : D}, Rep G w H v d → Rep G w' H' v d
  | _, _, .non => .non
  | _, _, .bl b => .bl b
  | _, _, .int i => .int i
  | _, _, .str x => .str x
  | _, _, .tup h r => .tup (e.tup _ _ h) (Reps.soft e r)
  | _, _, .kup h r => .kup h (Reps.soft e r)
  | _, _, .lst f h r => .lst (e.F _ f) (e.lst _ _ f h) (Reps.soft e r)
  | _, _, .dK f h r => .dK (e.F _ f) (e.dK _ _ _ f h) (RepK.soft e r)
  | _, _, .dT f h r => .dT (e.F _ f) (e.dT _ _ _ f h) (RepT.soft e r)
  | _, _, .ins f g h r => .ins (e.F _ f) g (e.ins _ _ _ _ f h) (RepF.soft e r)
  | _, _, .ref h => .ref (e.m _ _ h)
  | _, _, .cls h => .cls h
  | _, _, .ty n => .ty n
  | _, _, .scr f h => .scr (e.F _ f) (e.scr _ _ _ f h)
theorem Reps.soft (e : Soft G w H w' H') : ∀ {v : List V} {d : List D}, Reps G w H v d → Reps G w' H' v d
  | _, _, .nil => .nil
  | _, _, .cons a b => .cons (Rep.soft e a) (Reps.soft e b)
theorem RepK.soft (e : Soft G w H w' H') : ∀ {v : List (Key × V)} {d : List (DK × D)}, RepK G w H v d → RepK G w' H' v d
  | _, _, .nil => .nil
  | _, _, .cons a b => .cons (Rep.soft e a) (RepK.soft e b)
theorem RepT.soft (e : Soft G w H w' H') : ∀ {v : List (List Key × V)} {d : List (DK × D)}, RepT G w H v d → RepT G w' H' v d
  | _, _, .nil => .nil
  | _, _, .cons a b => .cons (Rep.soft e a) (RepT.soft e b)
theorem RepF.soft (e : Soft G w H w' H') : ∀ {v : List (Str × V)} {d : List (Str × D)}, RepF G w H v d → RepF G w' H' v d
  | _, _, .nil => .nil
  | _, _, .cons a b => .cons (Rep.soft e a) (RepF.soft e b)
end
end

/-- later: the world has grown; what stands and what is owned is as it was -/
structure Le (w : Wd) (H : Hp) (w' : Wd) (H' : Hp) : Prop where
  F : ∀ a, w.F a → w'.F a
  L : ∀ a, w.L a → w'.L a
  m : ∀ r a, w.m r = some a → w'.m r = some a
  hF : ∀ a o, w.F a → H a = some o → H' a = some o
  hL : ∀ a o, w.L a → H a = some o → H' a = some o
  tup : ∀ a xs, H a = some (.tup xs) → H' a = some (.tup xs)
  frz : ∀ a o u, H a = some (.frz o u) → H' a = some (.frz o u)
theorem Le.refl (w : Wd) (H : Hp) : Le w H w H := ⟨fun _ h => h, fun _ h => h, fun _ _ h => h, fun _ _ _ h => h, fun _ _ _ h => h, fun _ _ h => h, fun _ _ _ h => h⟩
theorem Le.trans {w w1 w2 : Wd} {H H1 H2 : Hp} (a : Le w H w1 H1) (b : Le w1 H1 w2 H2) : Le w H w2 H2 :=
  ⟨fun x h => b.F x (a.F x h), fun x h => b.L x (a.L x h), fun r x h => b.m r x (a.m r x h), fun x o f h => b.hF x o (a.F x f) (a.hF x o f h), fun x o f h => b.hL x o (a.L x f) (a.hL x o f h),
   fun x xs h => b.tup x xs (a.tup x xs h), fun x o u h => b.frz x o u (a.frz x o u h)⟩
theorem Le.sqT {w w' : Wd} {H H' : Hp} (e : Le w H w' H') {K : PySem.W.Frag} {a : Addr} {xs : List V} (h : SqT K H a xs) : SqT K H' a xs := by
  rcases h with (h | ⟨o, h⟩) | h
  · exact .inl (.inl (e.tup a xs h))
  · exact .inl (.inr ⟨o, e.frz a o _ h⟩)
  · exact .inr h
theorem Le.rdF {w w' : Wd} {H H' : Hp} (e : Le w H w' H') {a : Addr} {u : HO} (f : w.F a) (h : Rd H a u) : Rd H' a u := by
  rcases h with h | ⟨o, h⟩
  · exact .inl (e.hF a _ f h)
  · exact .inr ⟨o, e.hF a _ f h⟩
theorem Le.soft {G : Gx} {w w' : Wd} {H H' : Hp} (e : Le w H w' H') : Soft G w H w' H' where
  F := e.F
  m := e.m
  tup := e.tup
  lst := fun a xs f h => e.hF a _ f h
  scr := fun a o xs f h => e.hF a _ f h
  dK := fun a o kvs f h => e.hF a _ f h
  dT := fun a o kvs f h => e.hF a _ f h
  ins := fun a C dx fs f h => e.hF a _ f h
section
variable {G : Gx} {w w' : Wd} {H H' : Hp}
theorem Rep.le {v : V} {d : D} (h : Rep G w H v d) (e : Le w H w' H') : Rep G w' H' v d := h.soft e.soft
theorem Reps.le {v : List V} {d : List D} (h : Reps G w H v d) (e : Le w H w' H') : Reps G w' H' v d := h.soft e.soft
theorem RepK.le {v : List (Key × V)} {d : List (DK × D)} (h : RepK G w H v d) (e : Le w H w' H') : RepK G w' H' v d := h.soft e.soft
theorem RepT.le {v : List (List Key × V)} {d : List (DK × D)} (h : RepT G w H v d) (e : Le w H w' H') : RepT G w' H' v d := h.soft e.soft
theorem RepF.le {v : List (Str × V)} {d : List (Str × D)} (h : RepF G w H v d) (e : Le w H w' H') : RepF G w' H' v d := h.soft e.soft
theorem Reps.length : ∀ {v : List V} {d : List D}, Reps G w H v d → v.length = d.length
  | _, _, .nil => rfl
  | _, _, .cons _ b => by simp [Reps.length b]
theorem Reps.get : ∀ {v : List V} {d : List D} {i : Nat} {x : D}, Reps G w H v d → d[i]? = some x → ∃ u, v[i]? = some u ∧ Rep G w H u x
  | _, _, _, _, .nil, e => by simp at e
  | _, _, 0, _, .cons a _, e => by simp at e; subst e; exact ⟨_, rfl, a⟩
  | _, _, i + 1, _, .cons _ b, e => by
    obtain ⟨u, h1, h2⟩ := Reps.get (i := i) b (by simpa using e)
    exact ⟨u, by simpa using h1, h2⟩
theorem Reps.getV : ∀ {v : List V} {d : List D} {i : Nat} {u : V}, Reps G w H v d → v[i]? = some u → ∃ x, d[i]? = some x ∧ Rep G w H u x
  | _, _, _, _, .nil, e => by simp at e
  | _, _, 0, _, .cons a _, e => by simp at e; subst e; exact ⟨_, rfl, a⟩
  | _, _, i + 1, _, .cons _ b, e => by
    obtain ⟨u, h1, h2⟩ := Reps.getV (i := i) b (by simpa using e)
    exact ⟨u, by simpa using h1, h2⟩
theorem Reps.append : ∀ {v u : List V} {d e : List D}, Reps G w H v d → Reps G w H u e → Reps G w H (v ++ u) (d ++ e)
  | _, _, _, _, .nil, h => h
  | _, _, _, _, .cons a b, h => .cons a (Reps.append b h)
theorem Reps.take : ∀ {v : List V} {d : List D} (n : Nat), Reps G w H v d → Reps G w H (v.take n) (d.take n)
  | _, _, 0, _ => .nil
  | _, _, _ + 1, .nil => .nil
  | _, _, n + 1, .cons a b => .cons a (Reps.take n b)
theorem Reps.drop : ∀ {v : List V} {d : List D} (n : Nat), Reps G w H v d → Reps G w H (v.drop n) (d.drop n)
  | _, _, 0, h => h
  | _, _, _ + 1, .nil => .nil
  | _, _, n + 1, .cons _ b => Reps.drop n b
theorem Reps.set : ∀ {v : List V} {d : List D} {u : V} {x : D} (n : Nat), Reps G w H v d → Rep G w H u x → Reps G w H (v.set n u) (d.set n x)
  | _, _, _, _, _, .nil, _ => .nil
  | _, _, _, _, 0, .cons _ b, h => .cons h b
  | _, _, _, _, n + 1, .cons a b, h => .cons a (Reps.set n b h)
end

def keyD : D → Option Key
  | .int i => some (.inl i)
  | .str x => some (.inr x)
  | _ => none
def keysD : List D → Option (List Key)
  | [] => some []
  | d :: ds => match keyD d, keysD ds with
    | some k, some ks => some (k :: ks)
    | _, _ => none
def dkD : D → Option DK
  | .tup ds => (keysD ds).map .t
  | d => (keyD d).map .k
section
variable {κ α : Type} [DecidableEq κ]
def getA (kvs : List (κ × α)) (k : κ) : Option α := (kvs.find? fun kv => decide (kv.1 = k)).map (·.2)
def putA (kvs : List (κ × α)) (k : κ) (v : α) : List (κ × α) :=
  if (kvs.any fun kv => decide (kv.1 = k)) = true then kvs.map (fun kv => if kv.1 = k then (kv.1, v) else kv) else kvs ++ [(k, v)]
def dropA (kvs : List (κ × α)) (k : κ) : List (κ × α) := kvs.filter fun kv => decide (kv.1 ≠ k)
end
def isK : DK → Bool
  | .k _ => true
  | .t _ => false
def isT : DK → Bool
  | .k _ => false
  | .t _ => true
section
variable {G : Gx} {w : Wd} {H : Hp}
theorem Rep.keyD {v : V} {d : D} {k : Key} (r : Rep G w H v d) (h : keyD d = some k) : v = kV k := by
  cases r <;> simp only [Pf.keyD, Option.some.injEq, reduceCtorEq] at h <;> (subst h; rfl)
theorem Reps.keysD : ∀ {v : List V} {d : List D} {ks : List Key}, Reps G w H v d → Pf.keysD d = some ks → v = ks.map kV
  | _, _, _, .nil, h => by simp only [Pf.keysD, Option.some.injEq] at h; subst h; rfl
  | _, _, _, .cons (d := d) (ds := ds) a b, h => by
    simp only [Pf.keysD] at h
    cases e : Pf.keyD d with
    | none => rw [e] at h; cases h
    | some k =>
      cases e2 : Pf.keysD ds with
      | none => rw [e, e2] at h; cases h
      | some ks => rw [e, e2] at h; cases h; rw [a.keyD e, Reps.keysD b e2]; rfl
theorem RepK.all : ∀ {v : List (Key × V)} {d : List (DK × D)}, RepK G w H v d → d.all (fun p => isK p.1) = true
  | _, _, .nil => rfl
  | _, _, .cons _ b => by rw [List.all_cons, RepK.all b]; rfl
theorem RepT.all : ∀ {v : List (List Key × V)} {d : List (DK × D)}, RepT G w H v d → d.all (fun p => isT p.1) = true
  | _, _, .nil => rfl
  | _, _, .cons _ b => by rw [List.all_cons, RepT.all b]; rfl
theorem dk_k (a b : Key) : decide ((DK.k a) = .k b) = decide (a = b) := by simp
theorem dk_t (a b : List Key) : decide ((DK.t a) = .t b) = decide (a = b) := by simp
theorem RepK.length : ∀ {v : List (Key × V)} {d : List (DK × D)}, RepK G w H v d → v.length = d.length
  | _, _, .nil => rfl
  | _, _, .cons _ b => by simp [RepK.length b]
theorem RepT.length : ∀ {v : List (List Key × V)} {d : List (DK × D)}, RepT G w H v d → v.length = d.length
  | _, _, .nil => rfl
  | _, _, .cons _ b => by simp [RepT.length b]
theorem RepK.get : ∀ {v : List (Key × V)} {d : List (DK × D)} {i : Nat} {q : DK × D}, RepK G w H v d → d[i]? = some q → ∃ k u, v[i]? = some (k, u) ∧ q.1 = .k k ∧ Rep G w H u q.2
  | _, _, _, _, .nil, e => by simp at e
  | _, _, 0, _, .cons a _, e => by simp at e; subst e; exact ⟨_, _, rfl, rfl, a⟩
  | _, _, i + 1, _, .cons _ b, e => by
    obtain ⟨k, u, h1, h2⟩ := RepK.get (i := i) b (by simpa using e)
    exact ⟨k, u, by simpa using h1, h2⟩
theorem RepT.get : ∀ {v : List (List Key × V)} {d : List (DK × D)} {i : Nat} {q : DK × D}, RepT G w H v d → d[i]? = some q → ∃ k u, v[i]? = some (k, u) ∧ q.1 = .t k ∧ Rep G w H u q.2
  | _, _, _, _, .nil, e => by simp at e
  | _, _, 0, _, .cons a _, e => by simp at e; subst e; exact ⟨_, _, rfl, rfl, a⟩
  | _, _, i + 1, _, .cons _ b, e => by
    obtain ⟨k, u, h1, h2⟩ := RepT.get (i := i) b (by simpa using e)
    exact ⟨k, u, by simpa using h1, h2⟩
theorem RepK.look : ∀ {v : List (Key × V)} {d : List (DK × D)} (k : Key), RepK G w H v d → (valV v k = none ∧ getA d (.k k) = none) ∨ ∃ x e, valV v k = some x ∧ getA d (.k k) = some e ∧ Rep G w H x e
  | _, _, k, .nil => .inl ⟨rfl, rfl⟩
  | _, _, k, .cons (k := j) (v := x) (d := e) (vs := vs) (ds := ds) a b => by
    by_cases hj : j = k
    · subst hj
      exact .inr ⟨x, e, by simp [valV], by simp [getA], a⟩
    · have h1 : valV ((j, x) :: vs) k = valV vs k := valV_neg hj
      have h2 : getA ((DK.k j, e) :: ds) (.k k) = getA ds (.k k) := by simp [getA, List.find?_cons, hj]
      rw [h1, h2]
      exact RepK.look k b
theorem RepT.look : ∀ {v : List (List Key × V)} {d : List (DK × D)} (k : List Key), RepT G w H v d → (valV v k = none ∧ getA d (.t k) = none) ∨ ∃ x e, valV v k = some x ∧ getA d (.t k) = some e ∧ Rep G w H x e
  | _, _, k, .nil => .inl ⟨rfl, rfl⟩
  | _, _, k, .cons (k := j) (v := x) (d := e) (vs := vs) (ds := ds) a b => by
    by_cases hj : j = k
    · subst hj
      exact .inr ⟨x, e, by simp [valV], by simp [getA], a⟩
    · have h1 : valV ((j, x) :: vs) k = valV vs k := valV_neg hj
      have h2 : getA ((DK.t j, e) :: ds) (.t k) = getA ds (.t k) := by simp [getA, List.find?_cons, hj]
      rw [h1, h2]
      exact RepT.look k b
theorem RepK.append : ∀ {v u : List (Key × V)} {d e : List (DK × D)}, RepK G w H v d → RepK G w H u e → RepK G w H (v ++ u) (d ++ e)
  | _, _, _, _, .nil, h => h
  | _, _, _, _, .cons a b, h => .cons a (RepK.append b h)
theorem RepT.append : ∀ {v u : List (List Key × V)} {d e : List (DK × D)}, RepT G w H v d → RepT G w H u e → RepT G w H (v ++ u) (d ++ e)
  | _, _, _, _, .nil, h => h
  | _, _, _, _, .cons a b, h => .cons a (RepT.append b h)
theorem RepK.anyK (k : Key) : ∀ {v : List (Key × V)} {d : List (DK × D)}, RepK G w H v d → (v.any fun kv => decide (kv.1 = k)) = d.any fun kv => decide (kv.1 = .k k)
  | _, _, .nil => rfl
  | _, _, .cons _ b => by rw [List.any_cons, List.any_cons, RepK.anyK k b, dk_k]
theorem RepT.anyK (k : List Key) : ∀ {v : List (List Key × V)} {d : List (DK × D)}, RepT G w H v d → (v.any fun kv => decide (kv.1 = k)) = d.any fun kv => decide (kv.1 = .t k)
  | _, _, .nil => rfl
  | _, _, .cons _ b => by rw [List.any_cons, List.any_cons, RepT.anyK k b, dk_t]
theorem RepK.mapK (k : Key) {x : V} {e : D} (hx : Rep G w H x e) : ∀ {v : List (Key × V)} {d : List (DK × D)}, RepK G w H v d → RepK G w H (v.map fun kv => if kv.1 = k then (kv.1, x) else kv) (d.map fun kv => if kv.1 = .k k then (kv.1, e) else kv)
  | _, _, .nil => .nil
  | _, _, .cons (k := j) a b => by
    rw [List.map_cons, List.map_cons]
    by_cases hj : j = k
    · subst hj; rw [if_pos rfl, if_pos rfl]; exact .cons hx (RepK.mapK _ hx b)
    · rw [if_neg hj, if_neg (fun z => hj (DK.k.inj z))]; exact .cons a (RepK.mapK k hx b)
theorem RepT.mapK (k : List Key) {x : V} {e : D} (hx : Rep G w H x e) : ∀ {v : List (List Key × V)} {d : List (DK × D)}, RepT G w H v d → RepT G w H (v.map fun kv => if kv.1 = k then (kv.1, x) else kv) (d.map fun kv => if kv.1 = .t k then (kv.1, e) else kv)
  | _, _, .nil => .nil
  | _, _, .cons (k := j) a b => by
    rw [List.map_cons, List.map_cons]
    by_cases hj : j = k
    · subst hj; rw [if_pos rfl, if_pos rfl]; exact .cons hx (RepT.mapK _ hx b)
    · rw [if_neg hj, if_neg (fun z => hj (DK.t.inj z))]; exact .cons a (RepT.mapK k hx b)
theorem RepK.put (k : Key) {x : V} {e : D} (hx : Rep G w H x e) {v : List (Key × V)} {d : List (DK × D)} (r : RepK G w H v d) : RepK G w H (putK v k x) (putA d (.k k) e) := by
  unfold putK putA
  rw [r.anyK k]
  split
  · exact r.mapK k hx
  · exact r.append (.cons hx .nil)
theorem RepT.put (k : List Key) {x : V} {e : D} (hx : Rep G w H x e) {v : List (List Key × V)} {d : List (DK × D)} (r : RepT G w H v d) : RepT G w H (putK v k x) (putA d (.t k) e) := by
  unfold putK putA
  rw [r.anyK k]
  split
  · exact r.mapK k hx
  · exact r.append (.cons hx .nil)
theorem RepK.drop (k : Key) : ∀ {v : List (Key × V)} {d : List (DK × D)}, RepK G w H v d → RepK G w H (dropK v k) (dropA d (.k k))
  | _, _, .nil => .nil
  | _, _, .cons (k := j) (v := x) (d := e) (vs := vs) (ds := ds) a b => by
    by_cases hj : j = k
    · have h1 : dropK ((j, x) :: vs) k = dropK vs k := by simp [dropK, hj]
      have h2 : dropA ((DK.k j, e) :: ds) (.k k) = dropA ds (.k k) := by simp [dropA, hj]
      rw [h1, h2]; exact RepK.drop k b
    · have h1 : dropK ((j, x) :: vs) k = (j, x) :: dropK vs k := by simp [dropK, hj]
      have h2 : dropA ((DK.k j, e) :: ds) (.k k) = (DK.k j, e) :: dropA ds (.k k) := by simp [dropA, hj]
      rw [h1, h2]; exact .cons a (RepK.drop k b)
end

def ORep (G : Gx) (w : Wd) (H : Hp) (a : Addr) : O → Prop
  | .lst ds => ∃ xs, H a = some (.lst xs) ∧ Reps G w H xs ds
  | .ins c fs => ∃ C dx vs, G.mg c = some (.ref C) ∧ H a = some (.ins C dx vs) ∧ RepF G w H vs fs
/-- no lambda table -/
def NT (o : HO) : Prop := ∀ ps, o ≠ .tbl ps
structure HRel (G : Gx) (w : Wd) (H : Hp) (h : Hl) : Prop where
  live : ∀ r a, w.m r = some a → ∃ o, h[r]? = some o ∧ ORep G w H a o
  all : ∀ r, r < h.length → ∃ a, w.m r = some a
  inj : ∀ r r' a, w.m r = some a → w.m r' = some a → r = r'
  mF : ∀ r a, w.m r = some a → ¬ w.F a ∧ ¬ w.L a
  FL : ∀ a, w.F a → ¬ w.L a
  there : ∀ a, w.F a ∨ w.L a → H a ≠ none
  ntb : ∀ a ps, H a = some (.tbl ps) → ¬ w.F a ∧ ¬ w.L a
  tabs : Tabs G.T.tabs H
theorem ORep.le {G : Gx} {w w' : Wd} {H H' : Hp} {a : Addr} {o : O} (h : ORep G w H a o) (e : Le w H w' H') (k : ∀ u, H a = some u → H' a = some u) : ORep G w' H' a o := by
  cases o with
  | lst ds => obtain ⟨xs, h1, h2⟩ := h; exact ⟨xs, k _ h1, h2.le e⟩
  | ins c fs => obtain ⟨C, dx, vs, h0, h1, h2⟩ := h; exact ⟨C, dx, vs, h0, k _ h1, h2.le e⟩
theorem ORep.some {G : Gx} {w : Wd} {H : Hp} {a : Addr} {o : O} (h : ORep G w H a o) : ∃ u, H a = some u := by
  cases o with
  | lst ds => obtain ⟨xs, h1, _⟩ := h; exact ⟨_, h1⟩
  | ins c fs => obtain ⟨_, _, _, _, h1, _⟩ := h; exact ⟨_, h1⟩

/-- a new object that stands as it is -/
def Wd.addF (w : Wd) (p : Addr) : Wd := { w with F := fun a => w.F a ∨ a = p }
def Wd.addL (w : Wd) (p : Addr) : Wd := { w with L := fun a => w.L a ∨ a = p }
def Wd.addM (w : Wd) (r : Nat) (p : Addr) : Wd := { w with m := fun q => if q = r then some p else w.m q }
section
variable {G : Gx} {w : Wd} {H : Hp} {h : Hl} {p : Addr} {o : HO}
theorem upd_keep {a : Addr} {u : HO} (hp : H p = none) (e : H a = some u) : upd H p o a = some u := by rw [upd_ne (ne_of_none e hp)]; exact e
theorem Le.addF (hp : H p = none) : Le w H (w.addF p) (upd H p o) :=
  ⟨fun _ h => .inl h, fun _ h => h, fun _ _ h => h, fun _ _ _ h => upd_keep hp h, fun _ _ _ h => upd_keep hp h, fun _ _ h => upd_keep hp h, fun _ _ _ h => upd_keep hp h⟩
theorem Le.new (hp : H p = none) : Le w H w (upd H p o) :=
  ⟨fun _ h => h, fun _ h => h, fun _ _ h => h, fun _ _ _ h => upd_keep hp h, fun _ _ _ h => upd_keep hp h, fun _ _ h => upd_keep hp h, fun _ _ _ h => upd_keep hp h⟩
theorem Le.addL (hp : H p = none) : Le w H (w.addL p) (upd H p o) :=
  ⟨fun _ h => h, fun _ h => .inl h, fun _ _ h => h, fun _ _ _ h => upd_keep hp h, fun _ _ _ h => upd_keep hp h, fun _ _ h => upd_keep hp h, fun _ _ _ h => upd_keep hp h⟩
theorem tabs_new (t : Tabs G.T.tabs H) (hp : H p = none) : Tabs G.T.tabs (upd H p o) := t.ext fun b u e => upd_keep hp e
theorem HRel.fresh (R : HRel G w H h) (hp : H p = none) : ¬ w.F p ∧ ¬ w.L p ∧ ∀ r, w.m r ≠ some p := by
  refine ⟨fun z => R.there p (.inl z) hp, fun z => R.there p (.inr z) hp, fun r z => ?_⟩
  obtain ⟨u, _, h2⟩ := R.live r p z
  obtain ⟨u', e⟩ := h2.some
  rw [hp] at e; cases e
theorem HRel.new (R : HRel G w H h) (hp : H p = none) : HRel G w (upd H p o) h where
  live := fun r a e => by
    obtain ⟨u, h1, h2⟩ := R.live r a e
    exact ⟨u, h1, h2.le (Le.new hp) fun _ => upd_keep hp⟩
  all := R.all
  inj := R.inj
  mF := R.mF
  FL := R.FL
  there := fun a ha => by
    obtain ⟨u, e⟩ := Option.ne_none_iff_exists'.mp (R.there a ha)
    rw [upd_keep hp e]; exact fun z => by cases z
  ntb := fun a ps e => by
    by_cases hq : a = p
    · subst hq; exact ⟨(R.fresh hp).1, (R.fresh hp).2.1⟩
    · rw [upd_ne hq] at e; exact R.ntb a ps e
  tabs := tabs_new R.tabs hp
theorem HRel.addF (R : HRel G w H h) (hp : H p = none) (nt : NT o := by intro _ z; cases z) : HRel G (w.addF p) (upd H p o) h where
  live := fun r a e => by
    obtain ⟨u, h1, h2⟩ := R.live r a e
    exact ⟨u, h1, h2.le (Le.addF hp) fun _ => upd_keep hp⟩
  all := R.all
  inj := R.inj
  mF := fun r a e => ⟨fun z => z.elim (R.mF r a e).1 fun z => (R.fresh hp).2.2 r (z ▸ e), (R.mF r a e).2⟩
  FL := fun a z => z.elim (R.FL a) fun z y => (R.fresh hp).2.1 (z ▸ y)
  there := fun a ha => by
    by_cases hq : a = p
    · rw [hq, upd_same]; exact fun z => by cases z
    · rw [upd_ne hq]
      refine R.there a ?_
      rcases ha with (z | z) | z
      · exact .inl z
      · exact absurd z hq
      · exact .inr z
  ntb := fun a ps e => by
    by_cases hq : a = p
    · subst hq; rw [upd_same] at e; cases e; exact absurd rfl (nt ps)
    · rw [upd_ne hq] at e; exact ⟨fun z => z.elim (R.ntb a ps e).1 hq, (R.ntb a ps e).2⟩
  tabs := tabs_new R.tabs hp
theorem HRel.addL (R : HRel G w H h) (hp : H p = none) (nt : NT o := by intro _ z; cases z) : HRel G (w.addL p) (upd H p o) h where
  live := fun r a e => by
    obtain ⟨u, h1, h2⟩ := R.live r a e
    exact ⟨u, h1, h2.le (Le.addL hp) fun _ => upd_keep hp⟩
  all := R.all
  inj := R.inj
  mF := fun r a e => ⟨(R.mF r a e).1, fun z => z.elim (R.mF r a e).2 fun z => (R.fresh hp).2.2 r (z ▸ e)⟩
  FL := fun a z y => y.elim (R.FL a z) fun y => (R.fresh hp).1 (y ▸ z)
  there := fun a ha => by
    by_cases hq : a = p
    · rw [hq, upd_same]; exact fun z => by cases z
    · rw [upd_ne hq]
      refine R.there a ?_
      rcases ha with z | (z | z)
      · exact .inl z
      · exact .inr z
      · exact absurd z hq
  ntb := fun a ps e => by
    by_cases hq : a = p
    · subst hq; rw [upd_same] at e; cases e; exact absurd rfl (nt ps)
    · rw [upd_ne hq] at e; exact ⟨(R.ntb a ps e).1, fun z => z.elim (R.ntb a ps e).2 hq⟩
  tabs := tabs_new R.tabs hp
end

inductive Res (α : Type) where
  | ok (a : α) (h : Hl)
  | exc (c : Str) (fs : List (Str × D)) (h : Hl)
  | bad
def Res.bind {α β : Type} (r : Res α) (f : α → Hl → Res β) : Res β := match r with
  | .ok a h => f a h
  | .exc c fs h => .exc c fs h
  | .bad => .bad
@[simp] theorem Res.bind_ok {α β : Type} (a : α) (h : Hl) (f : α → Hl → Res β) : (Res.ok a h).bind f = f a h := rfl
@[simp] theorem Res.bind_exc {α β : Type} (c : Str) (fs : List (Str × D)) (h : Hl) (f : α → Hl → Res β) : (Res.exc c fs h).bind f = .exc c fs h := rfl
@[simp] theorem Res.bind_bad {α β : Type} (f : α → Hl → Res β) : (Res.bad).bind f = .bad := rfl
/-- what is wanted of a result -/
def Post {α : Type} (G : Gx) (w : Wd) (H : Hp) (r : Res α) (Q : Wd → Hp → Hl → α → Prop) (EX : Value → Option Addr → Hp → Prop) : Prop := match r with
  | .ok a h' => ∀ w' H', Le w H w' H' → HRel G w' H' h' → Q w' H' h' a
  | .exc c fs h' => ∀ w' H' C dx vs, Le w H w' H' → HRel G w' H' h' → G.mg c = some (.ref C) → H' dx = some (.xd vs) → RepF G w' H' vs fs → w'.F dx → EX (.ref C) (some dx) H'
  | .bad => False
section
variable {α β : Type} {G : Gx} {w w' : Wd} {H H' : Hp} {EX : Value → Option Addr → Hp → Prop}
theorem Post.le {r : Res α} {Q : Wd → Hp → Hl → α → Prop} (p : Post G w H r Q EX) (e : Le w H w' H') : Post G w' H' r Q EX := by
  cases r with
  | ok a h => exact fun w2 H2 e2 => p w2 H2 (e.trans e2)
  | exc c fs h => exact fun w2 H2 C dx vs e2 => p w2 H2 C dx vs (e.trans e2)
  | bad => exact p
theorem Post.imp {r : Res α} {Q Q' : Wd → Hp → Hl → α → Prop} (p : Post G w H r Q EX) (k : ∀ w' H' h' a, Le w H w' H' → HRel G w' H' h' → Q w' H' h' a → Q' w' H' h' a) : Post G w H r Q' EX := by
  cases r with
  | ok a h => exact fun w2 H2 e2 R => k _ _ _ _ e2 R (p w2 H2 e2 R)
  | exc c fs h => exact p
  | bad => exact p
theorem Post.bind {r : Res α} {f : α → Hl → Res β} {Q : Wd → Hp → Hl → β → Prop} (p : Post G w H (r.bind f) Q EX) : Post G w H r (fun w1 H1 h1 a => Post G w1 H1 (f a h1) Q EX) EX := by
  cases r with
  | ok a h => exact fun w2 H2 e2 R => Post.le p e2
  | exc c fs h => exact p
  | bad => exact p
theorem Post.now {a : α} {h : Hl} {Q : Wd → Hp → Hl → α → Prop} (p : Post G w H (.ok a h) Q EX) (R : HRel G w H h) : Q w H h a := p w H (Le.refl w H) R
end

inductive Sl where
  | no | v (d : D) | own (d : D) | x (c : Str) (fs : List (Str × D))
  deriving Inhabited
abbrev Rho := List Sl
abbrev Den (α : Type) := Rho → Hl → Res α
def OwnRep (G : Gx) (w : Wd) (H : Hp) (a : Addr) : D → Prop
  | .lst ds => ∃ xs, H a = some (.lst xs) ∧ Reps G w H xs ds
  | .dct false kvs => ∃ vs, H a = some (.dK vs) ∧ RepK G w H vs kvs
  | .dct true kvs => ∃ vs, H a = some (.dT vs) ∧ RepT G w H vs kvs
  | .ins c fs => ∃ C dx vs, G.mg c = some (.ref C) ∧ H a = some (.ins C dx vs) ∧ RepF G w H vs fs
  | _ => False
theorem OwnRep.le {G : Gx} {w w' : Wd} {H H' : Hp} {a : Addr} {d : D} (h : OwnRep G w H a d) (e : Le w H w' H') (k : ∀ u, H a = some u → H' a = some u) : OwnRep G w' H' a d := by
  cases d with
  | lst ds => obtain ⟨xs, h1, h2⟩ := h; exact ⟨xs, k _ h1, h2.le e⟩
  | dct t kvs => cases t <;> (obtain ⟨vs, h1, h2⟩ := h; exact ⟨vs, k _ h1, h2.le e⟩)
  | ins c fs => obtain ⟨C, dx, vs, h0, h1, h2⟩ := h; exact ⟨C, dx, vs, h0, k _ h1, h2.le e⟩
  | _ => exact h
structure SRel (G : Gx) (Z : Addr → Prop) (w : Wd) (H : Hp) (ρ : Rho) (σ : L2.St) : Prop where
  len : ρ.length = σ.length
  val : ∀ (i : Nat) (d : D), ρ[i]? = some (.v d) → ∃ x, σ[i]? = some (some x) ∧ Rep G w H x d
  own : ∀ (i : Nat) (d : D), ρ[i]? = some (.own d) → ∃ a, σ[i]? = some (some (.ref a)) ∧ w.L a ∧ ¬ Z a ∧ OwnRep G w H a d
  sep : ∀ (i j : Nat) (d e : D) (a : Addr), ρ[i]? = some (.own d) → ρ[j]? = some (.own e) → σ[i]? = some (some (.ref a)) → σ[j]? = some (some (.ref a)) → i = j
  exn : ∀ (i : Nat) (c : Str) (fs : List (Str × D)), ρ[i]? = some (.x c fs) → ∃ a C dx vs, G.T.xc = some (a, C, dx) ∧ σ[i]? = some (some (.ref a)) ∧ w.F dx ∧ H dx = some (.xd vs) ∧ G.mg c = some (.ref C) ∧ RepF G w H vs fs
theorem SRel.le {G : Gx} {Z : Addr → Prop} {w w' : Wd} {H H' : Hp} {ρ : Rho} {σ : L2.St} (S : SRel G Z w H ρ σ) (e : Le w H w' H') : SRel G Z w' H' ρ σ where
  len := S.len
  val := fun i d h => by
    obtain ⟨x, h1, h2⟩ := S.val i d h
    exact ⟨x, h1, h2.le e⟩
  own := fun i d h => by
    obtain ⟨a, h1, h2, h3, h4⟩ := S.own i d h
    exact ⟨a, h1, e.L a h2, h3, h4.le e fun u => e.hL a u h2⟩
  sep := S.sep
  exn := fun i c fs h => by
    obtain ⟨a, C, dx, vs, h1, h2, h3, h4, h5, h6⟩ := S.exn i c fs h
    exact ⟨a, C, dx, vs, h1, h2, e.F _ h3, e.hF _ _ h3 h4, h5, h6.le e⟩

section
variable (G : Gx) (Z : Addr → Prop) (W : WX)
def QE (Q : VK) : Wd → Hp → Hl → D → Prop := fun w H _ d => ∀ v, Rep G w H v d → Q v H
def tE (f : Den D) : TE := fun σ H Q => ∃ w ρ h, SRel G Z w H ρ σ ∧ HRel G w H h ∧ Post G w H (f ρ h) (fun w' H' _ d => ∀ v, Rep G w' H' v d → Q v H') (fun c d H' => W c d σ H')
def tAr (f : Den (List D)) : TA := fun σ H Q => ∃ w ρ h, SRel G Z w H ρ σ ∧ HRel G w H h ∧ Post G w H (f ρ h) (fun w' H' _ d => ∀ v, Reps G w' H' v d → Q v H') (fun c d H' => W c d σ H')
def tTe (f : Den Bool) : TT := fun σ H Q => ∃ w ρ h, SRel G Z w H ρ σ ∧ HRel G w H h ∧ Post G w H (f ρ h) (fun _ H' _ b => Q b H') (fun c d H' => W c d σ H')
end
section
variable {α β : Type} {G : Gx} {Z : Addr → Prop} {W : WX} {w : Wd} {ρ : Rho} {h : Hl} {σ : L2.St} {H : Hp} {Q : Wd → Hp → Hl → β → Prop}
theorem step_E {f : Den D} {g : D → Hl → Res β} {K : VK} (S : SRel G Z w H ρ σ) (R : HRel G w H h) (p : Post G w H ((f ρ h).bind g) Q (fun c d H' => W c d σ H'))
    (k : ∀ w1 H1 h1 d x, Le w H w1 H1 → SRel G Z w1 H1 ρ σ → HRel G w1 H1 h1 → Rep G w1 H1 x d → Post G w1 H1 (g d h1) Q (fun c d H' => W c d σ H') → K x H1) : tE G Z W f σ H K :=
  ⟨w, ρ, h, S, R, p.bind.imp fun w1 H1 h1 d e R1 p1 x r => k w1 H1 h1 d x e (S.le e) R1 r p1⟩
theorem step_A {f : Den (List D)} {g : List D → Hl → Res β} {K : List V → Hp → Prop} (S : SRel G Z w H ρ σ) (R : HRel G w H h) (p : Post G w H ((f ρ h).bind g) Q (fun c d H' => W c d σ H'))
    (k : ∀ w1 H1 h1 d x, Le w H w1 H1 → SRel G Z w1 H1 ρ σ → HRel G w1 H1 h1 → Reps G w1 H1 x d → Post G w1 H1 (g d h1) Q (fun c d H' => W c d σ H') → K x H1) : tAr G Z W f σ H K :=
  ⟨w, ρ, h, S, R, p.bind.imp fun w1 H1 h1 d e R1 p1 x r => k w1 H1 h1 d x e (S.le e) R1 r p1⟩
theorem step_T {f : Den Bool} {g : Bool → Hl → Res β} {K : Bool → Hp → Prop} (S : SRel G Z w H ρ σ) (R : HRel G w H h) (p : Post G w H ((f ρ h).bind g) Q (fun c d H' => W c d σ H'))
    (k : ∀ w1 H1 h1 b, Le w H w1 H1 → SRel G Z w1 H1 ρ σ → HRel G w1 H1 h1 → Post G w1 H1 (g b h1) Q (fun c d H' => W c d σ H') → K b H1) : tTe G Z W f σ H K :=
  ⟨w, ρ, h, S, R, p.bind.imp fun w1 H1 h1 d e R1 p1 => k w1 H1 h1 d e (S.le e) R1 p1⟩
end
theorem pe_imp {X : Cx} {e : Expr} {t t' : TE} (h : PE X e t) (k : ∀ σ H Q, t' σ H Q → t σ H Q) : PE X e t' := ⟨fun pins s σ H Q I q => h.run pins s σ H Q I (k σ H Q q)⟩
theorem pt_imp {X : Cx} {e : Expr} {t t' : TT} (h : PT X e t) (k : ∀ σ H Q, t' σ H Q → t σ H Q) : PT X e t' := ⟨fun pins s σ H Q I q => h.run pins s σ H Q I (k σ H Q q)⟩
theorem pw_imp {X : Cx} {e : Expr} {t t' : TT} (h : PW X e t) (k : ∀ σ H Q, t' σ H Q → t σ H Q) : PW X e t' := ⟨fun wh pins s σ H Q I q => h.run wh pins s σ H Q I (k σ H Q q)⟩
theorem pa_imp {X : Cx} {e : List Expr} {t t' : TA} (h : PA X e t) (k : ∀ σ H Q, t' σ H Q → t σ H Q) : PA X e t' := ⟨fun pos pins s σ H Q I q => h.run pos pins s σ H Q I (k σ H Q q)⟩
theorem ps_imp {X : Cx} {e : Stmt} {t t' : TS} (h : PS X e t) (k : ∀ D σ H, t' D σ H → t D σ H) : PS X e t' := ⟨fun pins s σ H D I q => h.run pins s σ H D I (k D σ H q)⟩
theorem pss_imp {X : Cx} {e : List Stmt} {t t' : TS} (h : PSs X e t) (k : ∀ D σ H, t' D σ H → t D σ H) : PSs X e t' := ⟨fun pins s σ H D I q => h.run pins s σ H D I (k D σ H q)⟩
end Pf
end
section
set_option maxRecDepth 100000
namespace Pf
open PySem PySem.Spec PyProof.Rows L2 LamX

theorem szl : sizeLine = 16777216 := sizeLine_eq
abbrev gx (X : Cx) (T : Tb) : Gx := ⟨X.K, X.mg, T⟩
/-- an expression and the plain function that tells its value -/
abbrev SE (X : Cx) (T : Tb) (Z : Addr → Prop) (W : WX) (e : Expr) (f : Den D) : Prop := PE X e (tE (gx X T) Z W f)
abbrev SA (X : Cx) (T : Tb) (Z : Addr → Prop) (W : WX) (e : List Expr) (f : Den (List D)) : Prop := PA X e (tAr (gx X T) Z W f)
abbrev ST (X : Cx) (T : Tb) (Z : Addr → Prop) (W : WX) (e : Expr) (f : Den Bool) : Prop := PT X e (tTe (gx X T) Z W f)
abbrev SW (X : Cx) (T : Tb) (Z : Addr → Prop) (W : WX) (e : Expr) (f : Den Bool) : Prop := PW X e (tTe (gx X T) Z W f)
/-- what is wanted of a value -/
abbrev QD (G : Gx) (Q : VK) : Wd → Hp → Hl → D → Prop := fun w H _ d => ∀ v, Rep G w H v d → Q v H
def optR {α : Type} (o : Option α) (h : Hl) : Res α := match o with
  | some a => .ok a h
  | none => .bad
@[simp] theorem optR_some {α : Type} (a : α) (h : Hl) : optR (some a) h = .ok a h := rfl
@[simp] theorem optR_none {α : Type} (h : Hl) : optR (none : Option α) h = .bad := rfl

section
variable {G : Gx} {w : Wd} {H : Hp} {h : Hl} {Q : VK} {EX : Value → Option Addr → Hp → Prop}
theorem post_opt' {α : Type} {o : Option α} {P : Wd → Hp → Hl → α → Prop} (p : Post G w H (optR o h) P EX) : ∃ a, o = some a ∧ Post G w H (.ok a h) P EX := by
  cases o with
  | none => exact p.elim
  | some a => exact ⟨a, rfl, p⟩
theorem post_opt {α : Type} {o : Option α} {P : Wd → Hp → Hl → α → Prop} (p : Post G w H (optR o h) P EX) (R : HRel G w H h) : ∃ a, o = some a ∧ P w H h a := by
  cases o with
  | none => exact p.elim
  | some a => exact ⟨a, rfl, p.now R⟩
/-- a new tuple comes out -/
theorem post_tup {xs : List V} {ds : List D} (p : Post G w H (.ok (.tup ds) h) (QD G Q) EX) (R : HRel G w H h) (r : Reps G w H xs ds) : ∀ q, H q = none → Q (.ref q) (upd H q (.tup xs)) := fun q hq =>
  p w _ (Le.new hq) (R.new hq) _ (.tup upd_same (r.le (Le.new hq)))
theorem post_lst {xs : List V} {ds : List D} (p : Post G w H (.ok (.lst ds) h) (QD G Q) EX) (R : HRel G w H h) (r : Reps G w H xs ds) : ∀ q, H q = none → Q (.ref q) (upd H q (.lst xs)) := fun q hq =>
  p (w.addF q) _ (Le.addF hq) (R.addF hq) _ (.lst (.inr rfl) upd_same (r.le (Le.addF hq)))
end

def dVar (i : Nat) : Den D := fun ρ h => match ρ[i]? with
  | some (.v d) => .ok d h
  | _ => .bad
def dC (d : D) : Den D := fun _ h => .ok d h
section
variable {X : Cx} {T : Tb} {Z : Addr → Prop} {W : WX}
theorem se_var {i : Nat} {x : Str} {pos : Pos} (hN : X.N[i]? = some x) (hv : Vis X.env.scope x) (hd : (x == ("__debug__" : Str)) = false := by decide) (hcd : (x == ("__classdict__" : Str)) = false := by decide) : SE X T Z W (.Name x pos) (dVar i) :=
  pe_imp (pe_var hN hv hd hcd) fun σ H Q ⟨w, ρ, h, S, R, p⟩ => by
    unfold dVar at p
    cases e : ρ[i]? with
    | none => rw [e] at p; exact p.elim
    | some s =>
      rw [e] at p
      cases s with
      | no => exact p.elim
      | x c fs => exact p.elim
      | own d => exact p.elim
      | v d =>
        obtain ⟨x, h1, h2⟩ := S.val i d e
        exact ⟨x, h1, p.now R x h2⟩
theorem se_int {i j pos} : SE X T Z W (.Constant (.int i) j pos) (dC (.int i)) := pe_imp pe_int fun σ H Q ⟨w, ρ, h, S, R, p⟩ => p.now R _ (.int i)
theorem se_bl {b j pos} : SE X T Z W (.Constant (.bool b) j pos) (dC (.bl b)) := pe_imp pe_bl fun σ H Q ⟨w, ρ, h, S, R, p⟩ => p.now R _ (.bl b)
theorem se_non {j pos} : SE X T Z W (.Constant .none j pos) (dC .non) := pe_imp pe_non fun σ H Q ⟨w, ρ, h, S, R, p⟩ => p.now R _ .non
theorem se_str {x j pos} : SE X T Z W (.Constant (.str x) j pos) (dC (.str x)) := pe_imp pe_str fun σ H Q ⟨w, ρ, h, S, R, p⟩ => p.now R _ (.str x)
/-- a name of the module that holds what is written -/
structure GloIs (G : Gx) (x : Str) (d : D) : Prop where
  is : ∃ u v, G.mg x = some u ∧ RelV v u ∧ ∀ w H, Rep G w H v d
theorem se_glo {x : Str} {d : D} {pos : Pos} (g : GloIs (gx X T) x d) (hg : Gl X x) (hd : (x == ("__debug__" : Str)) = false := by decide) : SE X T Z W (.Name x pos) (dC d) := by
  obtain ⟨u, v, hm, r, hr⟩ := g.is
  exact pe_imp (pe_glob hg hm r hd) fun σ H Q ⟨w, ρ, h, S, R, p⟩ => p.now R _ (hr w H)
end

def dBin (o : D → D → Option D) (f g : Den D) : Den D := fun ρ h => (f ρ h).bind fun d h1 => (g ρ h1).bind fun e h2 => optR (o d e) h2
def dUn (o : D → Option D) (f : Den D) : Den D := fun ρ h => (f ρ h).bind fun d h1 => optR (o d) h1
/-- an operation on values does what the function says -/
def OpOk (G : Gx) (r : R2) (o : D → D → Option D) : Prop := ∀ (w : Wd) (H : Hp) (h : Hl) (x y : V) (d e : D) (Q : VK) (EX : Value → Option Addr → Hp → Prop),
  HRel G w H h → Rep G w H x d → Rep G w H y e → Post G w H (optR (o d e) h) (QD G Q) EX → r x y H Q
theorem bin_go {G : Gx} {Z : Addr → Prop} {W : WX} {r : R2} {o : D → D → Option D} {f g : Den D} (k : OpOk G r o) {σ : L2.St} {H : Hp} {Q : VK} (q : tE G Z W (dBin o f g) σ H Q) : tOp r (tE G Z W f) (tE G Z W g) σ H Q := by
  obtain ⟨w, ρ, h, S, R, p⟩ := q
  exact step_E S R p fun w1 H1 h1 d x e1 S1 R1 r1 p1 => step_E S1 R1 p1 fun w2 H2 h2 e y e2 S2 R2 r2 p2 => k w2 H2 h2 x y d e Q _ R2 (r1.le e2) r2 p2
section
variable {X : Cx} {T : Tb} {Z : Addr → Prop} {W : WX} {a b : Expr} {f g : Den D} {pos : Pos} {o : D → D → Option D} {r : R2}
theorem se_bin {op : Operator} (ho : OpR X (binaryOp op) r) (k : OpOk (gx X T) r o) (ha : SE X T Z W a f) (hb : SE X T Z W b g) : SE X T Z W (.BinOp a op b pos) (dBin o f g) :=
  pe_imp (pe_op ho ha hb) fun σ H Q q => bin_go k q
theorem se_cmp {op : CmpOp} (ho : OpR X (compareOp op) r) (k : OpOk (gx X T) r o) (ha : SE X T Z W a f) (hb : SE X T Z W b g) (hm : behindInMarks op b = false) : SE X T Z W (.Compare a [op] [b] pos) (dBin o f g) :=
  pe_imp (pe_cmpR ho ha hb hm) fun σ H Q q => bin_go k q
theorem se_ix0 (ho : IxR X r) (k : OpOk (gx X T) r o) (ha : SE X T Z W a f) (hb : SE X T Z W b g) (hs : PlainIx b) : SE X T Z W (.Subscript a b pos) (dBin o f g) :=
  pe_imp (pe_ix ho ha hb hs) fun σ H Q q => bin_go k q
end

mutual
def py : D → Option PyData
  | .non => some .none
  | .bl b => some (.bool b)
  | .int i => some (.int i)
  | .str s => some (.str s)
  | .tup ds => (pys ds).map .tuple
  | .kup ds => (pys ds).map .tuple
  | .lst ds => (pys ds).map .list
  | _ => none
def pys : List D → Option (List PyData)
  | [] => some []
  | d :: ds => match py d, pys ds with
    | some x, some xs => some (x :: xs)
    | _, _ => none
end
section
variable {G : Gx} {w : Wd} {H : Hp}
mutual
theorem Rep.dp : ∀ {v : V} {d : D} {p : PyData}, Rep G w H v d → py d = some p → Dp G.K H v p
  | _, _, _, .non, e => by simp only [py, Option.some.injEq] at e; subst e; exact .non
  | _, _, _, .bl b, e => by simp only [py, Option.some.injEq] at e; subst e; exact .bl b
  | _, _, _, .int i, e => by simp only [py, Option.some.injEq] at e; subst e; exact .int i
  | _, _, _, .str s, e => by simp only [py, Option.some.injEq] at e; subst e; exact .str s
  | _, _, _, .tup (ds := ds) h r, e => by
    simp only [py] at e
    cases q : pys ds with
    | none => rw [q] at e; cases e
    | some ps => rw [q] at e; cases e; exact .tup (.of h) (Reps.dp r q)
  | _, _, _, .kup (ds := ds) h r, e => by
    simp only [py] at e
    cases q : pys ds with
    | none => rw [q] at e; cases e
    | some ps => rw [q] at e; cases e; exact .tup (h _) (Reps.dp r q)
  | _, _, _, .lst (ds := ds) f h r, e => by
    simp only [py] at e
    cases q : pys ds with
    | none => rw [q] at e; cases e
    | some ps => rw [q] at e; cases e; exact .lst (.of h) (Reps.dp r q)
  | _, _, _, .dK _ _ _, e => by simp only [py] at e; cases e
  | _, _, _, .dT _ _ _, e => by simp only [py] at e; cases e
  | _, _, _, .ins _ _ _ _, e => by simp only [py] at e; cases e
  | _, _, _, .ref _, e => by simp only [py] at e; cases e
  | _, _, _, .cls _, e => by simp only [py] at e; cases e
  | _, _, _, .ty _, e => by simp only [py] at e; cases e
  | _, _, _, .scr _ _, e => by simp only [py] at e; cases e
theorem Reps.dp : ∀ {v : List V} {d : List D} {p : List PyData}, Reps G w H v d → pys d = some p → DpAll G.K H v p
  | _, _, _, .nil, e => by simp only [pys, Option.some.injEq] at e; subst e; exact .nil
  | _, _, _, .cons (d := d) (ds := ds) a b, e => by
    simp only [pys] at e
    cases q : py d with
    | none => rw [q] at e; cases e
    | some x =>
      cases q2 : pys ds with
      | none => rw [q, q2] at e; cases e
      | some xs => rw [q, q2] at e; cases e; exact .cons (Rep.dp a q) (Reps.dp b q2)
end
end

def b2n (b : Bool) : Int := if b then 1 else 0
def addD : D → D → Option D
  | .int i, .int j => some (.int (i + j))
  | .int i, .bl b => some (.int (i + b2n b))
  | .str x, .str y => if x.length + y.length ≤ 16777216 then some (.str (x ++ y)) else none
  | .lst xs, .lst ys => if xs.length + ys.length ≤ 16777216 then some (.lst (xs ++ ys)) else none
  | .tup xs, .tup ys => if xs.length + ys.length ≤ 16777216 then some (.tup (xs ++ ys)) else none
  | _, _ => none
theorem b2i_eq (b : Bool) : b2i b = b2n b := by cases b <;> rfl
theorem add_str_len (x y : Str) : (x ++ y).length = x.length + y.length := by
  show (x.cps ++ y.cps).size = _
  rw [Array.size_append]; rfl
abbrev rAddAll (K : PySem.W.Frag) : R2 := fun x y H Q => (rI0 (fun i j => .int (i + j)) x y H Q ∨ (∃ i k, x = .int i ∧ y = .bl k ∧ Q (.int (i + b2i k)) H)) ∨
  ((∃ i j, x = .str i ∧ y = .str j ∧ i.length + j.length ≤ sizeLine ∧ Q (.str (i ++ j)) H) ∨ (rCat x y H Q ∨ rCatA K x y H Q))
theorem op_addAll {X : Cx} : OpR X (binaryOp .Add) (rAddAll X.K) := (op_add.or op_add_ib).or (op_add_str.or (op_cat.or op_catA))
theorem ok_add {G : Gx} : OpOk G (rAddAll G.K) addD := by
  intro w H h x y d e Q EX R rx ry p
  obtain ⟨z, hz, p⟩ := post_opt' p
  have q := p.now R
  cases rx <;> cases ry <;> simp only [addD, Option.some.injEq, reduceCtorEq] at hz
  · subst hz; exact .inl (.inr ⟨_, _, rfl, rfl, by rw [b2i_eq]; exact q _ (.int _)⟩)
  · subst hz; exact .inl (.inl ⟨_, _, rfl, rfl, q _ (.int _)⟩)
  · split at hz
    · rename_i hl
      simp only [Option.some.injEq] at hz
      subst hz
      exact .inr (.inl ⟨_, _, rfl, rfl, by rw [szl]; exact hl, q _ (.str _)⟩)
    · cases hz
  · rename_i a xs ds h1 r1 b ys es h2 r2
    split at hz
    · rename_i hl
      simp only [Option.some.injEq] at hz
      subst hz
      have l1 := r1.length
      have l2 := r2.length
      refine .inr (.inr (.inr ⟨a, b, xs, ys, rfl, rfl, .of h1, .of h2, by rw [szl]; omega, fun e => ?_, fun e e2 => ?_, fun _ _ => post_tup p R (r1.append r2)⟩))
      · subst e
        have z : ds = [] := List.eq_nil_of_length_eq_zero (by rw [← l1]; rfl)
        subst z
        exact q _ (.tup h2 r2)
      · subst e2
        have z : es = [] := List.eq_nil_of_length_eq_zero (by rw [← l2]; rfl)
        subst z
        rw [List.append_nil] at q
        exact q _ (.tup h1 r1)
    · cases hz
  · rename_i a xs ds f1 h1 r1 b ys es f2 h2 r2
    split at hz
    · rename_i hl
      simp only [Option.some.injEq] at hz
      subst hz
      have l1 := r1.length
      have l2 := r2.length
      exact .inr (.inr (.inl ⟨a, b, xs, ys, rfl, rfl, h1, h2, by rw [szl]; omega, post_lst p R (r1.append r2)⟩))
    · cases hz
def subD : D → D → Option D
  | .int i, .int j => some (.int (i - j))
  | .int i, .bl b => some (.int (i - b2n b))
  | _, _ => none
theorem ok_sub {G : Gx} : OpOk G (rI0 fun i j => .int (i - j)) (fun d e => match d, e with | .int i, .int j => some (.int (i - j)) | _, _ => none) := by
  intro w H h x y d e Q EX R rx ry p
  obtain ⟨z, hz, p⟩ := post_opt' p
  have q := p.now R
  cases rx <;> cases ry <;> simp only [Option.some.injEq, reduceCtorEq] at hz
  subst hz; exact ⟨_, _, rfl, rfl, q _ (.int _)⟩
def mulD : D → D → Option D
  | .int i, .int j => if (-18446744073709551616 < i ∧ i < 18446744073709551616) ∨ (-18446744073709551616 < j ∧ j < 18446744073709551616) then some (.int (i * j)) else none
  | .lst xs, .int k => if 0 ≤ k ∧ k ≤ 1000 ∧ xs.length ≤ 1000 then some (.lst (List.replicate k.toNat xs).flatten) else none
  | _, _ => none
theorem Reps.rep {G : Gx} {w : Wd} {H : Hp} {xs : List V} {ds : List D} (r : Reps G w H xs ds) : ∀ k : Nat, Reps G w H (List.replicate k xs).flatten (List.replicate k ds).flatten
  | 0 => .nil
  | k + 1 => by
    rw [List.replicate_succ, List.replicate_succ, List.flatten_cons, List.flatten_cons]
    exact r.append (Reps.rep r k)
abbrev rMulAll : R2 := fun x y H Q => rI CMul (fun i j => .int (i * j)) x y H Q ∨ rRep x y H Q
theorem op_mulAll {X : Cx} : OpR X (binaryOp .Mult) rMulAll := op_mul.or op_rep
theorem ok_mul {G : Gx} : OpOk G rMulAll mulD := by
  intro w H h x y d e Q EX R rx ry p
  obtain ⟨z, hz, p⟩ := post_opt' p
  have q := p.now R
  cases rx <;> cases ry <;> simp only [mulD, Option.some.injEq, reduceCtorEq] at hz
  · split at hz
    · rename_i hc
      simp only [Option.some.injEq] at hz
      subst hz
      refine .inl ⟨_, _, rfl, rfl, ?_, q _ (.int _)⟩
      rcases hc with hc | hc
      · exact .inl ⟨by have := hc.1; omega, by have := hc.2; omega⟩
      · exact .inr ⟨by have := hc.1; omega, by have := hc.2; omega⟩
    · cases hz
  · rename_i a xs ds f1 h1 r1 k
    split at hz
    · rename_i hc
      simp only [Option.some.injEq] at hz
      subst hz
      have l1 := r1.length
      refine .inr ⟨a, k, xs, rfl, rfl, h1, by omega, by omega, ?_, post_lst p R (r1.rep _)⟩
      rw [szl]
      calc xs.length * k.toNat ≤ 1000 * 1000 := Nat.mul_le_mul (by omega) (by omega)
        _ ≤ 16777216 := by decide
    · cases hz
def modD : D → D → Option D
  | .int i, .int j => if 0 < j then some (.int (i % j)) else none
  | _, _ => none
theorem ok_mod {G : Gx} : OpOk G (rI (fun _ j => 0 < j) fun i j => .int (i % j)) modD := by
  intro w H h x y d e Q EX R rx ry p
  obtain ⟨z, hz, p⟩ := post_opt' p
  have q := p.now R
  cases rx <;> cases ry <;> simp only [modD, reduceCtorEq] at hz
  split at hz
  · rename_i hc
    simp only [Option.some.injEq] at hz
    subst hz
    exact ⟨_, _, rfl, rfl, hc, q _ (.int _)⟩
  · cases hz
def fdivD : D → D → Option D
  | .int i, .int j => if 0 < j ∧ j < 1073741824 then some (.int (i / j)) else none
  | _, _ => none
theorem ok_fdiv {G : Gx} : OpOk G (rI CDiv fun i j => .int (i / j)) fdivD := by
  intro w H h x y d e Q EX R rx ry p
  obtain ⟨z, hz, p⟩ := post_opt' p
  have q := p.now R
  cases rx <;> cases ry <;> simp only [fdivD, reduceCtorEq] at hz
  split at hz
  · rename_i hc
    simp only [Option.some.injEq] at hz
    subst hz
    exact ⟨_, _, rfl, rfl, hc, q _ (.int _)⟩
  · cases hz
def powD : D → D → Option D
  | .int i, .int j => if 0 ≤ j ∧ j ≤ 1000000 ∧ i.natAbs < 18446744073709551616 then some (.int (i ^ j.toNat)) else none
  | _, _ => none
theorem ok_pow {G : Gx} : OpOk G (rI CPow fun i j => .int (i ^ j.toNat)) powD := by
  intro w H h x y d e Q EX R rx ry p
  obtain ⟨z, hz, p⟩ := post_opt' p
  have q := p.now R
  cases rx <;> cases ry <;> simp only [powD, reduceCtorEq] at hz
  split at hz
  · rename_i hc
    simp only [Option.some.injEq] at hz
    subst hz
    exact ⟨_, _, rfl, rfl, hc, q _ (.int _)⟩
  · cases hz

def eqDeep (d e : D) : Option Bool := match py d, py e with
  | some p, some q => if SeqAt.shaped p && SeqAt.shaped q then some (PyData.eqv p q) else none
  | _, _ => none
def eqO : D → D → Option Bool
  | .str a, .str b => some (decide (a = b))
  | .int a, .int b => some (decide (a = b))
  | .bl a, .bl b => some (decide (a = b))
  | .non, .non => some true
  | .non, .str _ => some false
  | .str _, .non => some false
  | d, e => eqDeep d e
def eqD (d e : D) : Option D := (eqO d e).map .bl
def neD (d e : D) : Option D := (eqO d e).map fun b => .bl (!b)
abbrev rEqAll (K : PySem.W.Frag) : R2 := fun x y H Q => rEq x y H Q ∨ rEqD K x y H Q
abbrev rNeAll (K : PySem.W.Frag) : R2 := fun x y H Q => rNe x y H Q ∨ rNeD K x y H Q
theorem eq_sides {G : Gx} {w : Wd} {H : Hp} {x y : V} {d e : D} {b : Bool} (rx : Rep G w H x d) (ry : Rep G w H y e) (h : eqO d e = some b) :
    (scal x y = true ∧ b = decide (x = y)) ∨ (∃ p q, Dp G.K H x p ∧ Dp G.K H y q ∧ SeqAt.shaped p = true ∧ SeqAt.shaped q = true ∧ b = PyData.eqv p q) := by
  have deep : eqDeep d e = some b → (∃ p q, Dp G.K H x p ∧ Dp G.K H y q ∧ SeqAt.shaped p = true ∧ SeqAt.shaped q = true ∧ b = PyData.eqv p q) := fun h => by
    unfold eqDeep at h
    cases e1 : py d with
    | none => rw [e1] at h; cases h
    | some p =>
      cases e2 : py e with
      | none => rw [e1, e2] at h; cases h
      | some q =>
        rw [e1, e2] at h
        simp only at h
        split at h
        · rename_i hs
          rw [Bool.and_eq_true] at hs
          cases h
          exact ⟨p, q, rx.dp e1, ry.dp e2, hs.1, hs.2, rfl⟩
        · cases h
  unfold eqO at h
  split at h
  · cases rx; cases ry; cases h; exact .inl ⟨rfl, by simp⟩
  · cases rx; cases ry; cases h; exact .inl ⟨rfl, by simp⟩
  · cases rx; cases ry; cases h; exact .inl ⟨rfl, by simp⟩
  · cases rx; cases ry; cases h; exact .inl ⟨rfl, by simp⟩
  · cases rx; cases ry; cases h; exact .inl ⟨rfl, by simp⟩
  · cases rx; cases ry; cases h; exact .inl ⟨rfl, by simp⟩
  · exact .inr (deep h)
theorem ok_eq {G : Gx} : OpOk G (rEqAll G.K) eqD := by
  intro w H h x y d e Q EX R rx ry p
  obtain ⟨z, hz, p⟩ := post_opt' p
  have q := p.now R
  unfold eqD at hz
  cases e1 : eqO d e with
  | none => rw [e1] at hz; cases hz
  | some b =>
    rw [e1] at hz
    cases hz
    have q2 := q _ (.bl b)
    rcases eq_sides rx ry e1 with ⟨s, eb⟩ | ⟨p1, p2, d1, d2, s1, s2, eb⟩
    · subst eb; exact .inl ⟨s, q2⟩
    · subst eb; exact .inr ⟨p1, p2, d1, d2, s1, s2, q2⟩
theorem ok_ne {G : Gx} : OpOk G (rNeAll G.K) neD := by
  intro w H h x y d e Q EX R rx ry p
  obtain ⟨z, hz, p⟩ := post_opt' p
  have q := p.now R
  unfold neD at hz
  cases e1 : eqO d e with
  | none => rw [e1] at hz; cases hz
  | some b =>
    rw [e1] at hz
    cases hz
    have q2 := q _ (.bl (!b))
    rcases eq_sides rx ry e1 with ⟨s, eb⟩ | ⟨p1, p2, d1, d2, s1, s2, eb⟩
    · subst eb; exact .inl ⟨s, q2⟩
    · subst eb; exact .inr ⟨p1, p2, d1, d2, s1, s2, q2⟩
theorem op_eqAll {X : Cx} (hu : X.A.units + 64 < cLine) : OpR X (compareOp .Eq) (rEqAll X.K) := op_eq.or (op_eqD hu)
theorem op_neAll {X : Cx} (hu : X.A.units + 64 < cLine) : OpR X (compareOp .NotEq) (rNeAll X.K) := op_ne.or (op_neD hu)
/-- < of ints, of texts -/
def ltD : D → D → Option D
  | .int i, .int j => some (.bl (decide (i < j)))
  | .str i, .str j => some (.bl (decide (i.cps.toList < j.cps.toList)))
  | _, _ => none
def gtD : D → D → Option D
  | .int i, .int j => some (.bl (decide (j < i)))
  | .str i, .str j => some (.bl (decide (j.cps.toList < i.cps.toList)))
  | _, _ => none
def leD : D → D → Option D
  | .int i, .int j => some (.bl (decide (i ≤ j)))
  | _, _ => none
def geD : D → D → Option D
  | .int i, .int j => some (.bl (decide (j ≤ i)))
  | _, _ => none
abbrev rLtAll : R2 := fun x y H Q => rI0 (fun i j => .bl (decide (i < j))) x y H Q ∨ ∃ i j, x = .str i ∧ y = .str j ∧ Q (.bl (decide (i.cps.toList < j.cps.toList))) H
abbrev rGtAll : R2 := fun x y H Q => rI0 (fun i j => .bl (decide (j < i))) x y H Q ∨ ∃ i j, x = .str i ∧ y = .str j ∧ Q (.bl (decide (j.cps.toList < i.cps.toList))) H
theorem op_ltAll {X : Cx} : OpR X (compareOp .Lt) rLtAll := op_lt.or op_lt_str
theorem op_gtAll {X : Cx} : OpR X (compareOp .Gt) rGtAll := op_gt.or op_gt_str
theorem ok_lt {G : Gx} : OpOk G rLtAll ltD := by
  intro w H h x y d e Q EX R rx ry p
  obtain ⟨z, hz, p⟩ := post_opt' p
  have q := p.now R
  cases rx <;> cases ry <;> simp only [ltD, Option.some.injEq, reduceCtorEq] at hz
  · subst hz; exact .inl ⟨_, _, rfl, rfl, q _ (.bl _)⟩
  · subst hz; exact .inr ⟨_, _, rfl, rfl, q _ (.bl _)⟩
theorem ok_gt {G : Gx} : OpOk G rGtAll gtD := by
  intro w H h x y d e Q EX R rx ry p
  obtain ⟨z, hz, p⟩ := post_opt' p
  have q := p.now R
  cases rx <;> cases ry <;> simp only [gtD, Option.some.injEq, reduceCtorEq] at hz
  · subst hz; exact .inl ⟨_, _, rfl, rfl, q _ (.bl _)⟩
  · subst hz; exact .inr ⟨_, _, rfl, rfl, q _ (.bl _)⟩
theorem ok_le {G : Gx} : OpOk G (rI0 fun i j => .bl (decide (i ≤ j))) leD := by
  intro w H h x y d e Q EX R rx ry p
  obtain ⟨z, hz, p⟩ := post_opt' p
  have q := p.now R
  cases rx <;> cases ry <;> simp only [leD, Option.some.injEq, reduceCtorEq] at hz
  subst hz; exact ⟨_, _, rfl, rfl, q _ (.bl _)⟩
theorem ok_ge {G : Gx} : OpOk G (rI0 fun i j => .bl (decide (j ≤ i))) geD := by
  intro w H h x y d e Q EX R rx ry p
  obtain ⟨z, hz, p⟩ := post_opt' p
  have q := p.now R
  cases rx <;> cases ry <;> simp only [geD, Option.some.injEq, reduceCtorEq] at hz
  subst hz; exact ⟨_, _, rfl, rfl, q _ (.bl _)⟩
/-- is None, is not None -/
def isND : D → D → Option D
  | d, .non => some (.bl (match d with | .non => true | _ => false))
  | _, _ => none
def notND : D → D → Option D
  | d, .non => some (.bl (match d with | .non => false | _ => true))
  | _, _ => none
theorem ok_isN {G : Gx} : OpOk G (fun x y H Q => y = .non ∧ Q (.bl (decide (x = .non))) H) isND := by
  intro w H h x y d e Q EX R rx ry p
  obtain ⟨z, hz, p⟩ := post_opt' p
  have q := p.now R
  cases ry <;> simp only [isND, Option.some.injEq, reduceCtorEq] at hz
  subst hz
  refine ⟨rfl, ?_⟩
  have q2 := q _ (.bl _)
  cases rx <;> exact q2
theorem ok_notN {G : Gx} : OpOk G (fun x y H Q => y = .non ∧ Q (.bl (!decide (x = .non))) H) notND := by
  intro w H h x y d e Q EX R rx ry p
  obtain ⟨z, hz, p⟩ := post_opt' p
  have q := p.now R
  cases ry <;> simp only [notND, Option.some.injEq, reduceCtorEq] at hz
  subst hz
  refine ⟨rfl, ?_⟩
  have q2 := q _ (.bl _)
  cases rx <;> exact q2

def flatD : D → Bool
  | .non => true | .bl _ => true | .int _ => true | .str _ => true
  | _ => false
def eqF : D → D → Bool
  | .non, .non => true
  | .bl a, .bl b => a == b
  | .bl a, .int b => (if a then 1 else 0) == b
  | .int a, .bl b => a == (if b then 1 else 0)
  | .int a, .int b => a == b
  | .str a, .str b => a == b
  | _, _ => false
def hasSub (z x : Str) : Bool := !(Builtin.Str.occurrences z x 0 z.length 1).isEmpty
def inSeq (x : D) (ds : List D) : Option Bool := if flatD x && ds.all flatD then some (ds.any fun y => eqF y x) else none
def inDeep (x : D) (ds : List D) : Option Bool := match py x, pys ds with
  | some p, some ps => if SeqAt.shaped p && SeqAt.shaped (.list ps) then some (ps.any fun z => PyData.eqv z p) else none
  | _, _ => none
def inO : D → D → Option Bool
  | .str x, .str z => some (hasSub z x)
  | x, .tup ds => inSeq x ds
  | x, .kup ds => inSeq x ds
  | x, .lst ds => match inSeq x ds with
    | some b => some b
    | none => inDeep x ds
  | _, _ => none
def inD (x y : D) : Option D := (inO x y).map .bl
def ninD (x y : D) : Option D := (inO x y).map fun b => .bl (!b)
section
variable {G : Gx} {w : Wd} {H : Hp}
theorem Rep.flat {v : V} {d : D} (r : Rep G w H v d) (h : flatD d = true) : flatV v = true := by
  cases r <;> first | rfl | cases h
theorem Reps.flat : ∀ {v : List V} {d : List D}, Reps G w H v d → d.all flatD = true → v.all flatV = true
  | _, _, .nil, _ => rfl
  | _, _, .cons a b, h => by
    rw [List.all_cons, Bool.and_eq_true] at h
    rw [List.all_cons, a.flat h.1, Reps.flat b h.2]; rfl
theorem Rep.eqF {v u : V} {d e : D} (r : Rep G w H v d) (r2 : Rep G w H u e) (h : flatD d = true) (h2 : flatD e = true) : eqV v u = Pf.eqF d e := by
  cases r <;> first | (simp only [flatD, reduceCtorEq] at h; done) | (cases r2 <;> first | rfl | (simp only [flatD, reduceCtorEq] at h2; done))
theorem Reps.inV {x : V} {d : D} (rx : Rep G w H x d) (hx : flatD d = true) : ∀ {v : List V} {ds : List D}, Reps G w H v ds → ds.all flatD = true → L2.inV x v = ds.any fun y => Pf.eqF y d
  | _, _, .nil, _ => rfl
  | _, _, .cons a b, h => by
    rw [List.all_cons, Bool.and_eq_true] at h
    show (eqV _ x || _) = _
    rw [List.any_cons, a.eqF rx h.1 hx]
    exact congrArg _ (Reps.inV rx hx b h.2)
end
abbrev rInAll (K : PySem.W.Frag) (n : Bool) : R2 := fun x y H Q => ((∃ i j, x = .str i ∧ y = .str j ∧ Q (.bl (if n then !hasSub j i else hasSub j i)) H) ∨ rIn K n x y H Q) ∨
  ∃ d ds, Dp K H x d ∧ Dp K H y (.list ds) ∧ SeqAt.shaped d = true ∧ SeqAt.shaped (.list ds) = true ∧ Q (.bl (if n then !ds.any (fun z => PyData.eqv z d) else ds.any fun z => PyData.eqv z d)) H
theorem in_sides {G : Gx} {w : Wd} {H : Hp} {x y : V} {d e : D} {b : Bool} (rx : Rep G w H x d) (ry : Rep G w H y e) (h : inO d e = some b) :
    ((∃ i j, x = .str i ∧ y = .str j ∧ b = hasSub j i) ∨ (∃ p xs, y = .ref p ∧ (SqL G.K H p xs ∨ SqT G.K H p xs) ∧ flatV x = true ∧ xs.all flatV = true ∧ b = L2.inV x xs)) ∨
    ∃ p ps, Dp G.K H x p ∧ Dp G.K H y (.list ps) ∧ SeqAt.shaped p = true ∧ SeqAt.shaped (.list ps) = true ∧ b = ps.any fun z => PyData.eqv z p := by
  have seq : ∀ {p : Addr} {xs : List V} {ds : List D}, y = .ref p → (SqL G.K H p xs ∨ SqT G.K H p xs) → Reps G w H xs ds → inSeq d ds = some b →
      ∃ p xs, y = .ref p ∧ (SqL G.K H p xs ∨ SqT G.K H p xs) ∧ flatV x = true ∧ xs.all flatV = true ∧ b = L2.inV x xs := fun {p xs ds} ey hs r h => by
    unfold inSeq at h
    split at h
    · rename_i hf
      rw [Bool.and_eq_true] at hf
      cases h
      exact ⟨p, xs, ey, hs, rx.flat hf.1, r.flat hf.2, (Reps.inV rx hf.1 r hf.2).symm⟩
    · cases h
  unfold inO at h
  split at h
  · cases rx; cases ry; cases h; exact .inl (.inl ⟨_, _, rfl, rfl, rfl⟩)
  · cases ry with
    | tup hs r => exact .inl (.inr (seq rfl (.inr (.of hs)) r h))
  · cases ry with
    | kup hs r => exact .inl (.inr (seq rfl (.inr (hs _)) r h))
  · cases ry with
    | lst hf hs r =>
      rename_i ds _ _
      cases hb : inSeq d ds with
      | some b' =>
        rw [hb] at h
        cases h
        exact .inl (.inr (seq rfl (.inl (.of hs)) r hb))
      | none =>
        rw [hb] at h
        simp only at h
        unfold inDeep at h
        cases e1 : py d with
        | none => rw [e1] at h; cases h
        | some p =>
          cases e2 : pys ds with
          | none => rw [e1, e2] at h; cases h
          | some ps =>
            rw [e1, e2] at h
            simp only at h
            split at h
            · rename_i hs2
              rw [Bool.and_eq_true] at hs2
              cases h
              exact .inr ⟨p, ps, rx.dp e1, .lst (.of hs) (r.dp e2), hs2.1, hs2.2, rfl⟩
            · cases h
  · cases h
theorem ok_in {G : Gx} : OpOk G (rInAll G.K false) inD := by
  intro w H h x y d e Q EX R rx ry p
  obtain ⟨z, hz, p⟩ := post_opt' p
  have q := p.now R
  unfold inD at hz
  cases e1 : inO d e with
  | none => rw [e1] at hz; cases hz
  | some b =>
    rw [e1] at hz
    cases hz
    have q2 := q _ (.bl b)
    rcases in_sides rx ry e1 with (⟨i, j, ex, ey, eb⟩ | ⟨p1, xs, ey, hs, f1, f2, eb⟩) | ⟨p1, ps, d1, d2, s1, s2, eb⟩
    · subst eb; exact .inl (.inl ⟨i, j, ex, ey, q2⟩)
    · subst eb; exact .inl (.inr ⟨p1, xs, ey, hs, f1, f2, q2⟩)
    · subst eb; exact .inr ⟨p1, ps, d1, d2, s1, s2, q2⟩
theorem ok_nin {G : Gx} : OpOk G (rInAll G.K true) ninD := by
  intro w H h x y d e Q EX R rx ry p
  obtain ⟨z, hz, p⟩ := post_opt' p
  have q := p.now R
  unfold ninD at hz
  cases e1 : inO d e with
  | none => rw [e1] at hz; cases hz
  | some b =>
    rw [e1] at hz
    cases hz
    have q2 := q _ (.bl (!b))
    rcases in_sides rx ry e1 with (⟨i, j, ex, ey, eb⟩ | ⟨p1, xs, ey, hs, f1, f2, eb⟩) | ⟨p1, ps, d1, d2, s1, s2, eb⟩
    · subst eb; exact .inl (.inl ⟨i, j, ex, ey, q2⟩)
    · subst eb; exact .inl (.inr ⟨p1, xs, ey, hs, f1, f2, q2⟩)
    · subst eb; exact .inr ⟨p1, ps, d1, d2, s1, s2, q2⟩
end Pf
end
section
set_option maxRecDepth 100000
namespace Pf
open PySem PySem.Spec PyProof.Rows L2 LamX

def dB (f : Den D) : Den Bool := fun ρ h => (f ρ h).bind fun d h1 => match d with
  | .bl b => .ok b h1
  | _ => .bad
def dAnd (f g : Den Bool) : Den Bool := fun ρ h => (f ρ h).bind fun b h1 => if b then g ρ h1 else .ok false h1
def dOr (f g : Den Bool) : Den Bool := fun ρ h => (f ρ h).bind fun b h1 => if b then .ok true h1 else g ρ h1
def dNot (f : Den Bool) : Den Bool := fun ρ h => (f ρ h).bind fun b h1 => .ok (!b) h1
def dAndV (f g : Den D) : Den D := fun ρ h => (f ρ h).bind fun d h1 => match d with
  | .bl b => if b then g ρ h1 else .ok (.bl false) h1
  | _ => .bad
def dOrV (f g : Den D) : Den D := fun ρ h => (f ρ h).bind fun d h1 => match d with
  | .bl b => if b then .ok (.bl true) h1 else g ρ h1
  | _ => .bad
def dNotV (f : Den D) : Den D := fun ρ h => (f ρ h).bind fun d h1 => match d with
  | .bl b => .ok (.bl (!b)) h1
  | _ => .bad
def dIf (c : Den Bool) (f g : Den D) : Den D := fun ρ h => (c ρ h).bind fun b h1 => if b then f ρ h1 else g ρ h1
theorem post_ite {α : Type} {G : Gx} {w : Wd} {H : Hp} {b : Bool} {r r' : Res α} {Q : Wd → Hp → Hl → α → Prop} {EX : Value → Option Addr → Hp → Prop} (p : Post G w H (if b then r else r') Q EX) :
    (b = true → Post G w H r Q EX) ∧ (b = false → Post G w H r' Q EX) := by
  cases b
  · exact ⟨fun z => Bool.noConfusion z, fun _ => p⟩
  · exact ⟨fun _ => p, fun z => Bool.noConfusion z⟩
section
variable {G : Gx} {Z : Addr → Prop} {W : WX} {f g : Den D} {c d : Den Bool} {σ : L2.St} {H : Hp}
theorem tTe_dB {Q : Bool → Hp → Prop} (q : tTe G Z W (dB f) σ H Q) : tE G Z W f σ H (fun x H' => ∃ k, x = .bl k ∧ Q k H') := by
  obtain ⟨w, ρ, h, S, R, p⟩ := q
  refine step_E S R p fun w1 H1 h1 d x e1 S1 R1 r1 p1 => ?_
  cases r1 <;> first | exact p1.elim | exact ⟨_, rfl, p1.now R1⟩
theorem tTe_and {Q : Bool → Hp → Prop} (q : tTe G Z W (dAnd c d) σ H Q) : tAnd (tTe G Z W c) (tTe G Z W d) σ H Q := by
  obtain ⟨w, ρ, h, S, R, p⟩ := q
  refine step_T S R p fun w1 H1 h1 b e1 S1 R1 p1 => ?_
  obtain ⟨p2, p3⟩ := post_ite p1
  cases b
  · exact (p3 rfl).now R1
  · exact ⟨w1, ρ, h1, S1, R1, p2 rfl⟩
theorem tTe_or {Q : Bool → Hp → Prop} (q : tTe G Z W (dOr c d) σ H Q) : tOr (tTe G Z W c) (tTe G Z W d) σ H Q := by
  obtain ⟨w, ρ, h, S, R, p⟩ := q
  refine step_T S R p fun w1 H1 h1 b e1 S1 R1 p1 => ?_
  obtain ⟨p2, p3⟩ := post_ite p1
  cases b
  · exact ⟨w1, ρ, h1, S1, R1, p3 rfl⟩
  · exact (p2 rfl).now R1
theorem tTe_not {Q : Bool → Hp → Prop} (q : tTe G Z W (dNot c) σ H Q) : tNot (tTe G Z W c) σ H Q := by
  obtain ⟨w, ρ, h, S, R, p⟩ := q
  exact step_T S R p fun w1 H1 h1 b e1 S1 R1 p1 => p1.now R1
end
section
variable {X : Cx} {T : Tb} {Z : Addr → Prop} {W : WX} {a b e c : Expr} {rest : List Expr} {f g k : Den D} {t u : Den Bool} {pos : Pos} {o o' : D → D → Option D} {r r' : R2}
theorem st_val (he : SE X T Z W e f) (hi : ∀ whole, isTrue e X.env whole = (do let v ← whole; standAt e.pos; holding [v] (truthy v)) := by intro _; rfl) : ST X T Z W e (dB f) :=
  pt_imp (pt_val he hi) fun σ H Q q => tTe_dB q
theorem st_cmp {op : CmpOp} (ho : OpR X (compareOp op) r) (k : OpOk (gx X T) r o) (ha : SE X T Z W a f) (hb : SE X T Z W b g) (hm : behindInMarks op b = false) : ST X T Z W (.Compare a [op] [b] pos) (dB (dBin o f g)) :=
  pt_imp (pt_cmpR ho ha hb hm) fun σ H Q q => bin_go k (tTe_dB q)
theorem sw_and1 (ha : ST X T Z W a t) : SW X T Z W (.BoolOp .And [a] pos) t := pw_and1 ha
theorem sw_or1 (ha : ST X T Z W a t) : SW X T Z W (.BoolOp .Or [a] pos) t := pw_or1 ha
theorem sw_and (ha : ST X T Z W a t) (hb : SW X T Z W (.BoolOp .And (b :: rest) pos) u) : SW X T Z W (.BoolOp .And (a :: b :: rest) pos) (dAnd t u) :=
  pw_imp (pw_and ha hb) fun σ H Q q => tTe_and q
theorem sw_or (ha : ST X T Z W a t) (hb : SW X T Z W (.BoolOp .Or (b :: rest) pos) u) : SW X T Z W (.BoolOp .Or (a :: b :: rest) pos) (dOr t u) :=
  pw_imp (pw_or ha hb) fun σ H Q q => tTe_or q
theorem st_not (ha : ST X T Z W a t) : ST X T Z W (.UnaryOp .Not a pos) (dNot t) := pt_imp (pt_not ha) fun σ H Q q => tTe_not q
theorem st_of (h : SW X T Z W e t) : ST X T Z W e t := h.pt
theorem se_one {op : BoolOp} (h : SE X T Z W a f) : SE X T Z W (.BoolOp op [a] pos) f := pe_one h
theorem se_and (ha : SE X T Z W a f) (hb : SE X T Z W (.BoolOp .And (b :: rest) pos) g) : SE X T Z W (.BoolOp .And (a :: b :: rest) pos) (dAndV f g) :=
  pe_imp (pe_and ha hb) fun σ H Q ⟨w, ρ, h, S, R, p⟩ => step_E S R p fun w1 H1 h1 d x e1 S1 R1 r1 p1 => by
    cases r1 <;> first | exact p1.elim | skip
    rename_i b
    obtain ⟨p2, p3⟩ := post_ite p1
    refine ⟨b, rfl, ?_⟩
    cases b
    · exact (p3 rfl).now R1 _ (.bl _)
    · exact ⟨w1, ρ, h1, S1, R1, p2 rfl⟩
theorem se_or (ha : SE X T Z W a f) (hb : SE X T Z W (.BoolOp .Or (b :: rest) pos) g) : SE X T Z W (.BoolOp .Or (a :: b :: rest) pos) (dOrV f g) :=
  pe_imp (pe_or ha hb) fun σ H Q ⟨w, ρ, h, S, R, p⟩ => step_E S R p fun w1 H1 h1 d x e1 S1 R1 r1 p1 => by
    cases r1 <;> first | exact p1.elim | skip
    rename_i b
    obtain ⟨p2, p3⟩ := post_ite p1
    refine ⟨b, rfl, ?_⟩
    cases b
    · exact ⟨w1, ρ, h1, S1, R1, p3 rfl⟩
    · exact (p2 rfl).now R1 _ (.bl _)
theorem se_not (ha : SE X T Z W a f) : SE X T Z W (.UnaryOp .Not a pos) (dNotV f) :=
  pe_imp (pe_not ha) fun σ H Q ⟨w, ρ, h, S, R, p⟩ => step_E S R p fun w1 H1 h1 d x e1 S1 R1 r1 p1 => by
    cases r1 <;> first | exact p1.elim | exact ⟨_, rfl, p1.now R1 _ (.bl _)⟩
theorem se_if (hc : ST X T Z W c t) (ha : SE X T Z W a f) (hb : SE X T Z W b g) : SE X T Z W (.IfExp c a b pos) (dIf t f g) :=
  pe_imp (pe_ifExp hc ha hb) fun σ H Q ⟨w, ρ, h, S, R, p⟩ => step_T S R p fun w1 H1 h1 b e1 S1 R1 p1 => by
    obtain ⟨p2, p3⟩ := post_ite p1
    cases b
    · exact ⟨w1, ρ, h1, S1, R1, p3 rfl⟩
    · exact ⟨w1, ρ, h1, S1, R1, p2 rfl⟩
/-- a op b op' c -/
def dChain (o o' : D → D → Option D) (f g k : Den D) : Den D := fun ρ h => (f ρ h).bind fun d h1 => (g ρ h1).bind fun e h2 => match o d e with
  | some (.bl b) => if b then (k ρ h2).bind fun z h3 => optR (o' e z) h3 else .ok (.bl false) h2
  | _ => .bad
theorem chain_go {G : Gx} (k1 : OpOk G r o) (k2 : OpOk G r' o') {σ : L2.St} {H : Hp} {Q : VK} (q : tE G Z W (dChain o o' f g k) σ H Q) : tChain r r' (tE G Z W f) (tE G Z W g) (tE G Z W k) σ H Q := by
  obtain ⟨w, ρ, h, S, R, p⟩ := q
  refine step_E S R p fun w1 H1 h1 d x e1 S1 R1 r1 p1 => step_E S1 R1 p1 fun w2 H2 h2 e y e2 S2 R2 r2 p2 => ?_
  refine k1 w2 H2 h2 x y d e _ (fun c d H' => W c d σ H') R2 (r1.le e2) r2 ?_
  revert p2
  cases o d e with
  | none => exact fun p2 => p2.elim
  | some z =>
    cases z <;> first | (intro p2; exact p2.elim) | skip
    rename_i b
    intro p2 w3 H3 e3 R3 v rv
    cases rv
    obtain ⟨p3, p4⟩ := post_ite p2
    refine ⟨b, rfl, ?_⟩
    cases b
    · exact ((p4 rfl).le e3).now R3 _ (.bl _)
    · exact step_E (S2.le e3) R3 ((p3 rfl).le e3) fun w4 H4 h4 z v e4 S4 R4 r4 p5 => k2 w4 H4 h4 y v e z _ _ R4 (r2.le (e3.trans e4)) r4 p5
theorem se_chain {op op' : CmpOp} (ho : OpR X (compareOp op) r) (ho' : OpR X (compareOp op') r') (k1 : OpOk (gx X T) r o) (k2 : OpOk (gx X T) r' o') (ha : SE X T Z W a f) (hb : SE X T Z W b g) (hc : SE X T Z W c k)
    (hm : lastMarks [op, op'] [b, c] = false := by with_unfolding_all rfl) : SE X T Z W (.Compare a [op, op'] [b, c] pos) (dChain o o' f g k) :=
  pe_imp (pe_chain ho ho' ha hb hc hm) fun σ H Q q => chain_go k1 k2 q
theorem st_chain {op op' : CmpOp} (ho : OpR X (compareOp op) r) (ho' : OpR X (compareOp op') r') (k1 : OpOk (gx X T) r o) (k2 : OpOk (gx X T) r' o') (ha : SE X T Z W a f) (hb : SE X T Z W b g) (hc : SE X T Z W c k)
    (hm : lastMarks [op, op'] [b, c] = false := by with_unfolding_all rfl) : ST X T Z W (.Compare a [op, op'] [b, c] pos) (dB (dChain o o' f g k)) :=
  pt_imp (pt_chain ho ho' ha hb hc hm) fun σ H Q q => chain_go k1 k2 (tTe_dB q)
/-- -a -/
def negD : D → Option D
  | .int i => some (.int (-i))
  | _ => none
theorem se_neg (ha : SE X T Z W a f) : SE X T Z W (.UnaryOp .USub a pos) (dUn negD f) :=
  pe_imp (pe_un un_neg ha) fun σ H Q ⟨w, ρ, h, S, R, p⟩ => step_E S R p fun w1 H1 h1 d x e1 S1 R1 r1 p1 => by
    cases r1 <;> first | exact p1.elim | exact ⟨_, rfl, p1.now R1 _ (.int _)⟩
end

def ixD : D → D → Option D
  | .lst ds, .int i => atI ds i
  | .tup ds, .int i => atI ds i
  | .kup ds, .int i => atI ds i
  | .scr ns, .int i => (atI ns i).map .int
  | .str z, .int i => if z.length ≤ 16777216 then (atI z.cps.toList i).map fun c => .str ⟨#[c]⟩ else none
  | _, _ => none
theorem Reps.at {G : Gx} {w : Wd} {H : Hp} {xs : List V} {ds : List D} {i : Int} {d : D} (r : Reps G w H xs ds) (h : atI ds i = some d) : ∃ v, atI xs i = some v ∧ Rep G w H v d := by
  unfold atI at h ⊢
  rw [r.length]
  cases e : ixN ds.length i with
  | none => rw [e] at h; cases h
  | some j =>
    rw [e] at h
    obtain ⟨u, h1, h2⟩ := r.get h
    exact ⟨u, h1, h2⟩
theorem atI_map {α β : Type} (f : α → β) (xs : List α) (i : Int) : atI (xs.map f) i = (atI xs i).map f := by
  unfold atI
  rw [List.length_map]
  cases ixN xs.length i with
  | none => rfl
  | some j => simp
theorem ok_ix {G : Gx} : OpOk G (rIx G.K) ixD := by
  intro w H h x y d e Q EX R rx ry p
  obtain ⟨z, hz, p⟩ := post_opt' p
  have q := p.now R
  cases rx <;> cases ry <;> simp only [ixD, reduceCtorEq] at hz
  · split at hz
    · rename_i hl
      cases e1 : atI (Array.toList _) _ with
      | none => rw [e1] at hz; cases hz
      | some c =>
        rw [e1] at hz
        cases hz
        exact .inr (.inr ⟨_, _, c, rfl, rfl, by rw [szl]; exact hl, e1, q _ (.str _)⟩)
    · cases hz
  · rename_i a xs ds h1 r1 i
    obtain ⟨v, h3, h4⟩ := r1.at hz
    exact .inr (.inl ⟨a, xs, i, v, rfl, rfl, .of h1, h3, q _ h4⟩)
  · rename_i a xs ds h1 r1 i
    obtain ⟨v, h3, h4⟩ := r1.at hz
    exact .inr (.inl ⟨a, xs, i, v, rfl, rfl, h1 _, h3, q _ h4⟩)
  · rename_i a xs ds h0 h1 r1 i
    obtain ⟨v, h3, h4⟩ := r1.at hz
    exact .inl ⟨a, xs, i, v, rfl, rfl, .of h1, h3, q _ h4⟩
  · rename_i a o ns h0 h1 i
    cases e1 : atI ns i with
    | none => rw [e1] at hz; cases hz
    | some c =>
      rw [e1] at hz
      cases hz
      exact .inl ⟨a, _, i, .int c, rfl, rfl, .inl (.inr ⟨o, h1⟩), by rw [atI_map, e1]; rfl, q _ (.int _)⟩
section
variable {X : Cx} {T : Tb} {Z : Addr → Prop} {W : WX} {a b : Expr} {f g : Den D} {pos : Pos}
theorem se_ix (ha : SE X T Z W a f) (hb : SE X T Z W b g) (hs : PlainIx b) : SE X T Z W (.Subscript a b pos) (dBin ixD f g) := se_ix0 ix_seq ok_ix ha hb hs
end

def partD : D → Option Int
  | .int i => some i
  | _ => none
def dPart (f : Den D) : Den (Option Int) := fun ρ h => (f ρ h).bind fun d h1 => match d with
  | .int i => .ok (some i) h1
  | _ => .bad
def dNoPart : Den (Option Int) := fun _ h => .ok none h
def tPo (G : Gx) (Z : Addr → Prop) (W : WX) (f : Den (Option Int)) : TO := fun σ H Q => ∃ w ρ h, SRel G Z w H ρ σ ∧ HRel G w H h ∧ Post G w H (f ρ h) (fun _ H' _ b => Q b H') (fun c d H' => W c d σ H')
theorem step_O {β : Type} {G : Gx} {Z : Addr → Prop} {W : WX} {w : Wd} {ρ : Rho} {h : Hl} {σ : L2.St} {H : Hp} {Q : Wd → Hp → Hl → β → Prop} {f : Den (Option Int)} {g : Option Int → Hl → Res β} {K : Option Int → Hp → Prop}
    (S : SRel G Z w H ρ σ) (R : HRel G w H h) (p : Post G w H ((f ρ h).bind g) Q (fun c d H' => W c d σ H'))
    (k : ∀ w1 H1 h1 b, Le w H w1 H1 → SRel G Z w1 H1 ρ σ → HRel G w1 H1 h1 → Post G w1 H1 (g b h1) Q (fun c d H' => W c d σ H') → K b H1) : tPo G Z W f σ H K :=
  ⟨w, ρ, h, S, R, p.bind.imp fun w1 H1 h1 d e R1 p1 => k w1 H1 h1 d e (S.le e) R1 p1⟩
abbrev SO (X : Cx) (T : Tb) (Z : Addr → Prop) (W : WX) (e : Option Expr) (f : Den (Option Int)) : Prop := PO X e (tPo (gx X T) Z W f)
theorem po_imp {X : Cx} {e : Option Expr} {t t' : TO} (h : PO X e t) (k : ∀ σ H Q, t' σ H Q → t σ H Q) : PO X e t' := ⟨fun pins s σ H Q I q => h.run pins s σ H Q I (k σ H Q q)⟩
def cutD (ds : List D) (lo hi : Option Int) : List D := (ds.drop (HT.sIx ds.length 0 lo)).take (HT.sIx ds.length ds.length hi - HT.sIx ds.length 0 lo)
def isWhole (n : Nat) (lo hi : Option Int) : Bool := decide (HT.sIx n 0 lo = 0 ∧ HT.sIx n n hi = n)
def sliceD (lo hi : Option Int) : D → Option D
  | .str z => if z.length ≤ 16777216 then some (.str (cutS z lo hi)) else none
  | .lst ds => some (.lst (cutD ds lo hi))
  | .scr ns => some (.lst (cutD (ns.map .int) lo hi))
  | .tup ds => if isWhole ds.length lo hi then some (.tup ds) else some (.tup (cutD ds lo hi))
  | .kup ds => if isWhole ds.length lo hi then some (.kup ds) else some (.tup (cutD ds lo hi))
  | _ => none
def dSlice (f : Den D) (lo hi : Den (Option Int)) : Den D := fun ρ h => (f ρ h).bind fun d h1 => (lo ρ h1).bind fun l h2 => (hi ρ h2).bind fun u h3 => optR (sliceD l u d) h3
theorem Reps.cut {G : Gx} {w : Wd} {H : Hp} {xs : List V} {ds : List D} (r : Reps G w H xs ds) (lo hi : Option Int) : Reps G w H (cutV xs lo hi) (cutD ds lo hi) := by
  unfold cutV cutD
  rw [r.length]
  exact (r.drop _).take _
theorem Reps.ints {G : Gx} {w : Wd} {H : Hp} : ∀ ns : List Int, Reps G w H (ns.map V.int) (ns.map D.int)
  | [] => .nil
  | n :: ns => .cons (.int n) (Reps.ints ns)
abbrev rSlAll (K : PySem.W.Frag) : V → Option Int → Option Int → Hp → VK → Prop := fun x lo hi H Q => (rSlL K x lo hi H Q ∨ rSlA K x lo hi H Q) ∨ rSlS x lo hi H Q
theorem sl_all {X : Cx} : SlR X (rSlAll X.K) := (sl_list.or sl_tupA).or sl_str
theorem slice_go {G : Gx} {w : Wd} {H : Hp} {h : Hl} {x : V} {d : D} {lo hi : Option Int} {Q : VK} {EX : Value → Option Addr → Hp → Prop} (R : HRel G w H h) (rx : Rep G w H x d) (p : Post G w H (optR (sliceD lo hi d) h) (QD G Q) EX) : rSlAll G.K x lo hi H Q := by
  obtain ⟨z, hz, p⟩ := post_opt' p
  have q := p.now R
  have tup : ∀ {a : Addr} {xs : List V} {ds : List D} {z' : D}, x = .ref a → SqT G.K H a xs → Reps G w H xs ds → Rep G w H (.ref a) z' → (if isWhole ds.length lo hi then some z' else some (.tup (cutD ds lo hi))) = some z → rSlAll G.K x lo hi H Q := by
    intro a xs ds z' ex h1 r1 rz hz
    refine .inl (.inr ⟨a, xs, ex, h1, fun hw => ?_, fun hw => ?_⟩)
    · have e : isWhole ds.length lo hi = true := decide_eq_true (by rw [← r1.length]; exact hw)
      rw [if_pos e] at hz
      cases hz
      exact q _ rz
    · have e : isWhole ds.length lo hi = false := decide_eq_false (by rw [← r1.length]; exact hw)
      rw [if_neg (by rw [e]; exact Bool.false_ne_true)] at hz
      cases hz
      exact post_tup p R (r1.cut lo hi)
  cases rx <;> simp only [sliceD, reduceCtorEq] at hz
  · split at hz
    · rename_i hl
      cases hz
      exact .inr ⟨_, rfl, by rw [szl]; exact hl, q _ (.str _)⟩
    · cases hz
  · rename_i a xs ds h1 r1
    exact tup rfl (.of h1) r1 (.tup h1 r1) hz
  · rename_i a xs ds h1 r1
    exact tup rfl (h1 _) r1 (.kup h1 r1) hz
  · rename_i a xs ds h0 h1 r1
    cases hz
    exact .inl (.inl ⟨a, xs, rfl, .of h1, post_lst p R (r1.cut lo hi)⟩)
  · rename_i a o ns h0 h1
    cases hz
    exact .inl (.inl ⟨a, _, rfl, .inl (.inr ⟨o, h1⟩), post_lst p R ((Reps.ints ns).cut lo hi)⟩)
section
variable {X : Cx} {T : Tb} {Z : Addr → Prop} {W : WX} {e : Expr} {lo hi : Option Expr} {f : Den D} {l u : Den (Option Int)} {pos p2 : Pos}
theorem so_none : SO X T Z W none dNoPart := po_imp po_none fun σ H Q ⟨w, ρ, h, S, R, p⟩ => p.now R
theorem so_some (h : SE X T Z W e f) : SO X T Z W (some e) (dPart f) := po_imp (po_some h) fun σ H Q ⟨w, ρ, h, S, R, p⟩ => step_E S R p fun w1 H1 h1 d x e1 S1 R1 r1 p1 => by
  cases r1 <;> first | exact p1.elim | exact ⟨_, rfl, p1.now R1⟩
theorem se_slice (he : SE X T Z W e f) (hl : SO X T Z W lo l) (hu : SO X T Z W hi u) : SE X T Z W (.Subscript e (.Slice lo hi none p2) pos) (dSlice f l u) :=
  pe_imp (pe_slice sl_all he hl hu) fun σ H Q ⟨w, ρ, h, S, R, p⟩ => step_E S R p fun w1 H1 h1 d x e1 S1 R1 r1 p1 => step_O S1 R1 p1 fun w2 H2 h2 l e2 S2 R2 p2 => step_O S2 R2 p2 fun w3 H3 h3 u e3 S3 R3 p3 =>
    slice_go (G := gx X T) R3 ((r1.le e2).le e3) p3
end

def dNil : Den (List D) := fun _ h => .ok [] h
def dCons (f : Den D) (g : Den (List D)) : Den (List D) := fun ρ h => (f ρ h).bind fun d h1 => (g ρ h1).bind fun ds h2 => .ok (d :: ds) h2
def itemsD : D → Option (List D)
  | .lst ds => some ds
  | .tup ds => some ds
  | .kup ds => some ds
  | _ => none
def dStar (f : Den D) (g : Den (List D)) : Den (List D) := fun ρ h => (f ρ h).bind fun d h1 => (optR (itemsD d) h1).bind fun xs h1 => (g ρ h1).bind fun ds h2 => .ok (xs ++ ds) h2
def dTup (g : Den (List D)) : Den D := fun ρ h => (g ρ h).bind fun ds h1 => if ds.length ≤ 16777216 then .ok (.tup ds) h1 else .bad
def dLst (g : Den (List D)) : Den D := fun ρ h => (g ρ h).bind fun ds h1 => if ds.length ≤ 16777216 then .ok (.lst ds) h1 else .bad
theorem Rep.items {G : Gx} {w : Wd} {H : Hp} {v : V} {d : D} {ds : List D} (r : Rep G w H v d) (h : itemsD d = some ds) : ∃ p xs, v = .ref p ∧ (SqT G.K H p xs ∨ SqL G.K H p xs) ∧ Reps G w H xs ds := by
  cases r <;> simp only [itemsD, Option.some.injEq, reduceCtorEq] at h
  · rename_i a xs ds h1 r1; subst h; exact ⟨a, xs, rfl, .inl (.of h1), r1⟩
  · rename_i a xs ds h1 r1; subst h; exact ⟨a, xs, rfl, .inl (h1 _), r1⟩
  · rename_i a xs ds h0 h1 r1; subst h; exact ⟨a, xs, rfl, .inr (.of h1), r1⟩
section
variable {X : Cx} {T : Tb} {Z : Addr → Prop} {W : WX} {e : Expr} {es : List Expr} {f : Den D} {g : Den (List D)} {pos p2 : Pos}
theorem sa_nil : SA X T Z W [] dNil := pa_imp pa_nil fun σ H Q ⟨w, ρ, h, S, R, p⟩ => p.now R _ .nil
theorem sa_cons (ha : SE X T Z W e f) (hr : SA X T Z W es g) (hs : starEach (e :: es) X.env = (false, eval e X.env) :: starEach es X.env := by rfl) : SA X T Z W (e :: es) (dCons f g) :=
  pa_imp (pa_cons ha hr hs) fun σ H Q ⟨w, ρ, h, S, R, p⟩ => step_E S R p fun w1 H1 h1 d x e1 S1 R1 r1 p1 => step_A S1 R1 p1 fun w2 H2 h2 ds xs e2 S2 R2 r2 p2 => p2.now R2 _ (.cons (r1.le e2) r2)
theorem sa_star (ha : SE X T Z W e f) (hr : SA X T Z W es g) (hs : starEach (.Starred e p2 :: es) X.env = (true, eval e X.env) :: starEach es X.env := by rfl) : SA X T Z W (.Starred e p2 :: es) (dStar f g) :=
  pa_imp (StX.pa_star ha hr hs) fun σ H Q ⟨w, ρ, h, S, R, p⟩ => step_E S R p fun w1 H1 h1 d x e1 S1 R1 r1 p1 => by
    cases e : itemsD d with
    | none => rw [e] at p1; exact p1.elim
    | some ds =>
      rw [e] at p1
      obtain ⟨q, xs, ev, hs, rs⟩ := r1.items e
      exact ⟨q, xs, ev, hs, step_A S1 R1 p1 fun w2 H2 h2 es ys e2 S2 R2 r2 p2 => p2.now R2 _ ((rs.le e2).append r2)⟩
theorem se_tup {x1} (h : SA X T Z W es g) : SE X T Z W (.Tuple es x1 pos) (dTup g) :=
  pe_imp (pe_tup h) fun σ H Q ⟨w, ρ, h, S, R, p⟩ => step_A S R p fun w1 H1 h1 ds xs e1 S1 R1 r1 p1 => by
    by_cases hl : ds.length ≤ 16777216
    · rw [if_pos hl] at p1
      exact ⟨by rw [szl, r1.length]; exact hl, post_tup p1 R1 r1⟩
    · rw [if_neg hl] at p1; exact p1.elim
theorem se_lst (h : SA X T Z W es g) : SE X T Z W (.List es pos) (dLst g) :=
  pe_imp (pe_lst h) fun σ H Q ⟨w, ρ, h, S, R, p⟩ => step_A S R p fun w1 H1 h1 ds xs e1 S1 R1 r1 p1 => by
    by_cases hl : ds.length ≤ 16777216
    · rw [if_pos hl] at p1
      exact ⟨by rw [szl, r1.length]; exact hl, post_lst p1 R1 r1⟩
    · rw [if_neg hl] at p1; exact p1.elim
end

def fldD (cs : List Str) (f : Str) : D → Option D
  | .ins c fs => if cs.contains c then fs.lookup f else none
  | _ => none
/-- the classes that have a plain attribute of this name -/
def FldOk (K : PySem.W.Frag) (mg : Str → Option Value) (cs : List Str) (f : Str) : Prop := ∀ c ∈ cs, ∀ C, mg c = some (.ref C) → Cls K C ∧ NoAttr K C f
theorem RepF.look {G : Gx} {w : Wd} {H : Hp} {f : Str} : ∀ {v : List (Str × V)} {d : List (Str × D)} {x : D}, RepF G w H v d → d.lookup f = some x → ∃ u, v.lookup f = some u ∧ Rep G w H u x
  | _, _, _, .nil, e => by cases e
  | _, _, x, .cons (k := k) a b, e => by
    by_cases hk : f = k
    · subst hk
      simp at e
      subst e
      exact ⟨_, by simp, a⟩
    · have hk' : (f == k) = false := beq_eq_false_iff_ne.mpr hk
      simp only [List.lookup, hk'] at e ⊢
      exact RepF.look b e
section
variable {X : Cx} {T : Tb} {Z : Addr → Prop} {W : WX} {e : Expr} {f : Den D} {pos : Pos} {cs : List Str} {n : Str}
theorem se_fld (fo : FldOk X.K X.mg cs n) (he : SE X T Z W e f) (hb : attributeBase e n X.env (eval e X.env) = eval e X.env := by rfl) : SE X T Z W (.Attribute e n pos) (dUn (fldD cs n) f) :=
  pe_imp (pe_fld he hb) fun σ H Q ⟨w, ρ, h, S, R, p⟩ => step_E S R p fun w1 H1 h1 d x e1 S1 R1 r1 p1 => by
    obtain ⟨z, hz, p1⟩ := post_opt' p1
    have q := p1.now R1
    cases r1 <;> simp only [fldD, reduceCtorEq] at hz
    rename_i a C dx fs c ds h0 h1 h2 r1
    split at hz
    · rename_i hc
      obtain ⟨c1, c2⟩ := fo c (by simpa using hc) C h1
      obtain ⟨u, l, r⟩ := r1.look hz
      exact ⟨a, C, dx, fs, u, rfl, h2, c1, c2, l, q _ r⟩
    · cases hz
end

def lookD : D → D → Option (Option D)
  | .dct false kvs, y => match dkD y with
    | some (.k a) => some (getA kvs (.k a))
    | _ => none
  | .dct true kvs, y => match dkD y with
    | some (.t a) => some (getA kvs (.t a))
    | _ => none
  | _, _ => none
theorem dkD_k {G : Gx} {w : Wd} {H : Hp} {v : V} {d : D} {a : Key} (r : Rep G w H v d) (h : dkD d = some (.k a)) : v = kV a := by
  cases r <;> simp only [dkD, Option.map_eq_some_iff, reduceCtorEq, DK.k.injEq, exists_eq_right, and_false, exists_false] at h
  all_goals first
    | (simp only [Pf.keyD, reduceCtorEq] at h; done)
    | (simp only [Pf.keyD, Option.some.injEq] at h; subst h; rfl)
theorem dkD_t {G : Gx} {w : Wd} {H : Hp} {v : V} {d : D} {a : List Key} (r : Rep G w H v d) (h : dkD d = some (.t a)) : ∃ b, v = .ref b ∧ H b = some (.tup (a.map kV)) := by
  cases r <;> simp only [dkD, Option.map_eq_some_iff, reduceCtorEq, DK.t.injEq, exists_eq_right, and_false, exists_false] at h
  rename_i b xs ds h1 r1
  exact ⟨b, rfl, by rw [← r1.keysD h]; exact h1⟩
theorem dget_of {G : Gx} {w : Wd} {H : Hp} {x y : V} {d e : D} {o : Option D} (rx : Rep G w H x d) (ry : Rep G w H y e) (h : lookD d e = some o) :
    ∃ a ov, x = .ref a ∧ DGet H a y ov ∧ ((o = none ∧ ov = none) ∨ ∃ z v, o = some z ∧ ov = some v ∧ Rep G w H v z) := by
  cases rx <;> simp only [lookD, reduceCtorEq] at h
  · rename_i a o0 kvs ds h0 h1 r1
    split at h
    · rename_i k hk
      cases h
      have ey := dkD_k ry hk
      rcases r1.look k with ⟨l1, l2⟩ | ⟨v, z, l1, l2, rv⟩
      · exact ⟨a, none, rfl, .inl ⟨kvs, k, .inr ⟨_, h1⟩, ey, l1.symm⟩, .inl ⟨l2, rfl⟩⟩
      · exact ⟨a, some v, rfl, .inl ⟨kvs, k, .inr ⟨_, h1⟩, ey, l1.symm⟩, .inr ⟨z, v, l2, rfl, rv⟩⟩
    · cases h
  · rename_i a o0 kvs ds h0 h1 r1
    split at h
    · rename_i k hk
      cases h
      obtain ⟨b, ey, hb⟩ := dkD_t ry hk
      rcases r1.look k with ⟨l1, l2⟩ | ⟨v, z, l1, l2, rv⟩
      · exact ⟨a, none, rfl, .inr ⟨kvs, k, b, .inr ⟨_, h1⟩, ey, hb, l1.symm⟩, .inl ⟨l2, rfl⟩⟩
      · exact ⟨a, some v, rfl, .inr ⟨kvs, k, b, .inr ⟨_, h1⟩, ey, hb, l1.symm⟩, .inr ⟨z, v, l2, rfl, rv⟩⟩
    · cases h
def getD (d e : D) : Option D := (lookD d e).bind id
def hasD (y d : D) : Option D := (lookD d y).map fun o => .bl o.isSome
def nhasD (y d : D) : Option D := (lookD d y).map fun o => .bl (!o.isSome)
/-- d.get(k), d.get(k, x) -/
def dGet1 (f g : Den D) : Den D := fun ρ h => (f ρ h).bind fun d h1 => (g ρ h1).bind fun e h2 => optR ((lookD d e).map fun o => o.getD .non) h2
def dGet2 (f g k : Den D) : Den D := fun ρ h => (f ρ h).bind fun d h1 => (g ρ h1).bind fun e h2 => (k ρ h2).bind fun z h3 => optR ((lookD d e).map fun o => o.getD z) h3
def isDct : D → Bool
  | .dct _ _ => true
  | _ => false
theorem lookD_dct {d e : D} {o : Option D} (h : lookD d e = some o) : isDct d = true := by
  cases d <;> first | rfl | (simp only [lookD, reduceCtorEq] at h)
theorem Rep.isD {G : Gx} {w : Wd} {H : Hp} {v : V} {d : D} (r : Rep G w H v d) (h : isDct d = true) : ∃ a, v = .ref a ∧ IsD H a := by
  cases r <;> first | (simp only [isDct, reduceCtorEq] at h; done) | skip
  · rename_i a o0 kvs ds h0 h1 r1; exact ⟨a, rfl, .inl ⟨kvs, .inr ⟨_, h1⟩⟩⟩
  · rename_i a o0 kvs ds h0 h1 r1; exact ⟨a, rfl, .inr ⟨kvs, .inr ⟨_, h1⟩⟩⟩
section
variable {X : Cx} {T : Tb} {Z : Addr → Prop} {W : WX} {o i e e2 : Expr} {f g k : Den D} {pos apos cpos : Pos}
theorem se_dget (hu : X.A.units + 1 < cLine) (ho : SE X T Z W o f) (hi : SE X T Z W i g) (hs : NoSl i) : SE X T Z W (.Subscript o i pos) (dBin getD f g) :=
  pe_imp (pe_dget hu ho hi hs) fun σ H Q ⟨w, ρ, h, S, R, p⟩ => step_E S R p fun w1 H1 h1 d x e1 S1 R1 r1 p1 => step_E S1 R1 p1 fun w2 H2 h2 e y e2 S2 R2 r2 p2 => by
    obtain ⟨z, hz, p2⟩ := post_opt' p2
    have q := p2.now R2
    unfold getD at hz
    cases e3 : lookD d e with
    | none => rw [e3] at hz; cases hz
    | some oo =>
      rw [e3] at hz
      obtain ⟨a, ov, ex, g, ho⟩ := dget_of (r1.le e2) r2 e3
      rcases ho with ⟨z1, z2⟩ | ⟨z', v, z1, z2, rv⟩
      · subst z1; cases hz
      · subst z1
        simp only [Option.bind_some, id_eq, Option.some.injEq] at hz
        subst hz z2
        exact ⟨a, v, ex, g, q _ rv⟩
theorem has_go (G : Gx) {σ : L2.St} {H : Hp} {Q : VK} (q : tE G Z W (dBin hasD g f) σ H Q) : tDIn (tE G Z W g) (tE G Z W f) σ H Q := by
  obtain ⟨w, ρ, h, S, R, p⟩ := q
  refine step_E S R p fun w1 H1 h1 d x e1 S1 R1 r1 p1 => step_E S1 R1 p1 fun w2 H2 h2 e y e2 S2 R2 r2 p2 => ?_
  obtain ⟨z, hz, p2⟩ := post_opt' p2
  have q := p2.now R2
  unfold hasD at hz
  cases e3 : lookD e d with
  | none => rw [e3] at hz; cases hz
  | some oo =>
    rw [e3] at hz
    cases hz
    obtain ⟨a, ov, ex, g, ho⟩ := dget_of r2 (r1.le e2) e3
    refine ⟨a, ov, ex, g, ?_⟩
    have q2 := q _ (.bl _)
    rcases ho with ⟨z1, z2⟩ | ⟨z', v, z1, z2, rv⟩ <;> (subst z1 z2; exact q2)
theorem nhas_go (G : Gx) {σ : L2.St} {H : Hp} {Q : VK} (q : tE G Z W (dBin nhasD g f) σ H Q) : tDNotIn (tE G Z W g) (tE G Z W f) σ H Q := by
  obtain ⟨w, ρ, h, S, R, p⟩ := q
  refine step_E S R p fun w1 H1 h1 d x e1 S1 R1 r1 p1 => step_E S1 R1 p1 fun w2 H2 h2 e y e2 S2 R2 r2 p2 => ?_
  obtain ⟨z, hz, p2⟩ := post_opt' p2
  have q := p2.now R2
  unfold nhasD at hz
  cases e3 : lookD e d with
  | none => rw [e3] at hz; cases hz
  | some oo =>
    rw [e3] at hz
    cases hz
    obtain ⟨a, ov, ex, g, ho⟩ := dget_of r2 (r1.le e2) e3
    refine ⟨a, ov, ex, g, ?_⟩
    have q2 := q _ (.bl _)
    rcases ho with ⟨z1, z2⟩ | ⟨z', v, z1, z2, rv⟩ <;> (subst z1 z2; exact q2)
theorem se_has (hu : X.A.units + 1 < cLine) (hi : SE X T Z W i g) (ho : SE X T Z W o f) (hm : behindInMarks .In o = false) : SE X T Z W (.Compare i [.In] [o] pos) (dBin hasD g f) :=
  pe_imp (pe_cmp (pc_din hu hi ho) hm) fun σ H Q q => has_go _ q
theorem se_nhas (hu : X.A.units + 1 < cLine) (hi : SE X T Z W i g) (ho : SE X T Z W o f) (hm : behindInMarks .NotIn o = false) : SE X T Z W (.Compare i [.NotIn] [o] pos) (dBin nhasD g f) :=
  pe_imp (pe_cmp (pc_dnotin hu hi ho) hm) fun σ H Q q => nhas_go _ q
theorem st_has (hu : X.A.units + 1 < cLine) (hi : SE X T Z W i g) (ho : SE X T Z W o f) (hm : behindInMarks .In o = false) : ST X T Z W (.Compare i [.In] [o] pos) (dB (dBin hasD g f)) :=
  pt_imp (pt_cmp (pc_din hu hi ho) hm) fun σ H Q q => has_go _ (tTe_dB q)
theorem st_nhas (hu : X.A.units + 1 < cLine) (hi : SE X T Z W i g) (ho : SE X T Z W o f) (hm : behindInMarks .NotIn o = false) : ST X T Z W (.Compare i [.NotIn] [o] pos) (dB (dBin nhasD g f)) :=
  pt_imp (pt_cmp (pc_dnotin hu hi ho) hm) fun σ H Q q => nhas_go _ (tTe_dB q)
end
end Pf
end
section
set_option maxRecDepth 100000
namespace Pf
open PySem PySem.Spec PyProof.Rows L2 LamX

section
variable {G : Gx} {Z : Addr → Prop} {w : Wd} {H : Hp} {ρ : Rho} {σ : L2.St}
theorem SRel.setv (S : SRel G Z w H ρ σ) {i : Nat} {x : V} {d : D} (r : Rep G w H x d) : SRel G Z w H (ρ.set i (.v d)) (σ.set i (some x)) where
  len := by rw [List.length_set, List.length_set]; exact S.len
  val := fun j e h => by
    rw [List.getElem?_set] at h ⊢
    by_cases hj : i = j
    · subst hj
      rw [if_pos rfl] at h ⊢
      by_cases hl : i < ρ.length
      · rw [if_pos hl] at h
        rw [if_pos (by rw [← S.len]; exact hl)]
        cases h
        exact ⟨x, rfl, r⟩
      · rw [if_neg hl] at h; cases h
    · rw [if_neg hj] at h ⊢
      exact S.val j e h
  own := fun j e h => by
    rw [List.getElem?_set] at h ⊢
    by_cases hj : i = j
    · subst hj
      rw [if_pos rfl] at h
      split at h <;> cases h
    · rw [if_neg hj] at h ⊢
      exact S.own j e h
  exn := fun j c fs h => by
    rw [List.getElem?_set] at h ⊢
    by_cases hj : i = j
    · subst hj; rw [if_pos rfl] at h; split at h <;> cases h
    · rw [if_neg hj] at h ⊢; exact S.exn j c fs h
  sep := fun j k e e' a h1 h2 h3 h4 => by
    rw [List.getElem?_set] at h1 h2 h3 h4
    by_cases hj : i = j
    · subst hj
      rw [if_pos rfl] at h1
      split at h1 <;> cases h1
    · by_cases hk : i = k
      · subst hk
        rw [if_pos rfl] at h2
        split at h2 <;> cases h2
      · rw [if_neg hj] at h1 h3
        rw [if_neg hk] at h2 h4
        exact S.sep j k e e' a h1 h2 h3 h4
/-- an own object is put into a slot -/
theorem SRel.seto (S : SRel G Z w H ρ σ) {i : Nat} {p : Addr} {d : D} (hL : w.L p) (hZ : ¬ Z p) (ho : OwnRep G w H p d) (hn : ∀ j e, ρ[j]? = some (.own e) → j ≠ i → σ[j]? ≠ some (some (.ref p))) :
    SRel G Z w H (ρ.set i (.own d)) (σ.set i (some (.ref p))) where
  len := by rw [List.length_set, List.length_set]; exact S.len
  val := fun j e h => by
    rw [List.getElem?_set] at h ⊢
    by_cases hj : i = j
    · subst hj
      rw [if_pos rfl] at h
      split at h <;> cases h
    · rw [if_neg hj] at h ⊢
      exact S.val j e h
  own := fun j e h => by
    rw [List.getElem?_set] at h ⊢
    by_cases hj : i = j
    · subst hj
      rw [if_pos rfl] at h ⊢
      by_cases hl : i < ρ.length
      · rw [if_pos hl] at h
        rw [if_pos (by rw [← S.len]; exact hl)]
        cases h
        exact ⟨p, rfl, hL, hZ, ho⟩
      · rw [if_neg hl] at h; cases h
    · rw [if_neg hj] at h ⊢
      exact S.own j e h
  exn := fun j c fs h => by
    rw [List.getElem?_set] at h ⊢
    by_cases hj : i = j
    · subst hj; rw [if_pos rfl] at h; split at h <;> cases h
    · rw [if_neg hj] at h ⊢; exact S.exn j c fs h
  sep := fun j k e e' a h1 h2 h3 h4 => by
    rw [List.getElem?_set] at h1 h2 h3 h4
    by_cases hj : i = j
    · by_cases hk : i = k
      · rw [← hj, ← hk]
      · rw [if_neg hk] at h2 h4
        subst hj
        rw [if_pos rfl] at h3
        split at h3
        · cases h3
          exact absurd h4 (hn k e' h2 (Ne.symm hk))
        · cases h3
    · rw [if_neg hj] at h1 h3
      by_cases hk : i = k
      · subst hk
        rw [if_pos rfl] at h4
        split at h4
        · cases h4
          exact absurd h3 (hn j e h1 (Ne.symm hj))
        · cases h4
      · rw [if_neg hk] at h2 h4
        exact S.sep j k e e' a h1 h2 h3 h4
end

/-- what may be written -/
def MutO : HO → Prop
  | .lst _ => True | .dK _ => True | .dT _ => True | .ins _ _ _ => True
  | _ => False
theorem MutO.mut {o : HO} (m : MutO o) : Mut (some o) := by cases o <;> first | trivial | exact m.elim
section
variable {G : Gx} {w w0 : Wd} {H H0 : Hp} {h : Hl} {a : Addr} {o o' : HO}
theorem tabs_mut (t : Tabs G.T.tabs H) (ha : H a = some o) (mu : MutO o) : Tabs G.T.tabs (upd H a o') := fun p hp => by
  obtain ⟨ps, h1, h2, h3⟩ := t p hp
  have k : ∀ b u, H b = some u → ¬ MutO u → b ≠ a := fun b u hb nm z => by subst z; rw [ha] at hb; cases hb; exact nm mu
  refine ⟨ps, by rw [upd_ne (k _ _ h1 (fun z => z))]; exact h1, h2, fun pos cv hc => ?_⟩
  obtain ⟨c, e1, e2⟩ := h3 pos cv hc
  exact ⟨c, e1, by rw [upd_ne (k _ _ e2 (fun z => z))]; exact e2⟩
theorem rd_mut {b : Addr} {u : HO} (nb : b ≠ a) (z : Rd H b u) : Rd (upd H a o') b u := by
  rcases z with z | ⟨q, z⟩
  · exact .inl (by rw [upd_ne nb]; exact z)
  · exact .inr ⟨q, by rw [upd_ne nb]; exact z⟩
theorem soft_mut (nF : ¬ w.F a) (ha : H a = some o) (mu : MutO o) : Soft G w H w (upd H a o') := by
  have k : ∀ b, w.F b → b ≠ a := fun b hb z => nF (z ▸ hb)
  exact ⟨fun _ z => z, fun _ _ z => z, fun b xs z => by rw [upd_ne (fun e => by subst e; rw [ha] at z; cases z; exact mu)]; exact z, fun b xs f z => by rw [upd_ne (k b f)]; exact z,
    fun b ob xs f z => by rw [upd_ne (k b f)]; exact z, fun b ob kvs f z => by rw [upd_ne (k b f)]; exact z, fun b ob kvs f z => by rw [upd_ne (k b f)]; exact z, fun b C dx fs f z => by rw [upd_ne (k b f)]; exact z⟩
theorem ORep.soft {w' : Wd} {H' : Hp} {b : Addr} {q : O} (x : ORep G w H b q) (e : Soft G w H w' H') (k : H' b = H b) : ORep G w' H' b q := by
  cases q with
  | lst ds => obtain ⟨xs, h1, h2⟩ := x; exact ⟨xs, k.trans h1, h2.soft e⟩
  | ins c fs => obtain ⟨C, dx, vs, h0, h1, h2⟩ := x; exact ⟨C, dx, vs, h0, k.trans h1, h2.soft e⟩
theorem OwnRep.soft {w' : Wd} {H' : Hp} {b : Addr} {d : D} (x : OwnRep G w H b d) (e : Soft G w H w' H') (k : H' b = H b) : OwnRep G w' H' b d := by
  cases d with
  | lst ds => obtain ⟨xs, h1, h2⟩ := x; exact ⟨xs, k.trans h1, h2.soft e⟩
  | dct t kvs => cases t <;> (obtain ⟨vs, h1, h2⟩ := x; exact ⟨vs, k.trans h1, h2.soft e⟩)
  | ins c fs => obtain ⟨C, dx, vs, h0, h1, h2⟩ := x; exact ⟨C, dx, vs, h0, k.trans h1, h2.soft e⟩
  | _ => exact x.elim
theorem HRel.mutL (R : HRel G w H h) (hL : w.L a) (ha : H a = some o) (mu : MutO o) (nt : NT o' := by intro _ z; cases z) : HRel G w (upd H a o') h where
  live := fun r b e => by
    obtain ⟨u, h1, h2⟩ := R.live r b e
    have nb : b ≠ a := fun z => (R.mF r b e).2 (z ▸ hL)
    exact ⟨u, h1, h2.soft (soft_mut (fun f => R.FL a f hL) ha mu) (upd_ne nb)⟩
  all := R.all
  inj := R.inj
  mF := R.mF
  FL := R.FL
  there := fun b hb => by
    by_cases hq : b = a
    · rw [hq, upd_same]; exact fun z => by cases z
    · rw [upd_ne hq]; exact R.there b hb
  ntb := fun b ps e => by
    by_cases hq : b = a
    · subst hq; rw [upd_same] at e; cases e; exact absurd rfl (nt ps)
    · rw [upd_ne hq] at e; exact R.ntb b ps e
  tabs := tabs_mut R.tabs ha mu
theorem Le.mutL (e : Le w0 H0 w H) (R : HRel G w H h) (hL : w.L a) (n0 : ¬ w0.L a) (ha : H a = some o) (mu : MutO o) : Le w0 H0 w (upd H a o') where
  F := e.F
  L := e.L
  m := e.m
  hF := fun b u f z => by
    have nb : b ≠ a := fun q => R.FL a (q ▸ e.F b f) hL
    rw [upd_ne nb]; exact e.hF b u f z
  hL := fun b u f z => by
    have nb : b ≠ a := fun q => n0 (q ▸ f)
    rw [upd_ne nb]; exact e.hL b u f z
  tup := fun b xs z => by
    have z' := e.tup b xs z
    have nb : b ≠ a := fun q => by subst q; rw [ha] at z'; cases z'; exact mu
    rw [upd_ne nb]; exact z'
  frz := fun b ob u z => by
    have z' := e.frz b ob u z
    have nb : b ≠ a := fun q => by subst q; rw [ha] at z'; cases z'; exact mu
    rw [upd_ne nb]; exact z'
/-- slot i forgotten while the object at a, which it held, is written -/
theorem SRel.mutN {Z : Addr → Prop} {ρ : Rho} {σ : L2.St} {i : Nat} {d : D} (S : SRel G Z w H ρ σ) (R : HRel G w H h) (hi : ρ[i]? = some (.own d)) (hs : σ[i]? = some (some (.ref a))) (hL : w.L a) (ha : H a = some o) (mu : MutO o) : SRel G Z w (upd H a o') (ρ.set i .no) σ :=
  have sf : Soft G w H w (upd H a o') := soft_mut (fun f => R.FL a f hL) ha mu
  { len := by rw [List.length_set]; exact S.len
    val := fun j q hq => by
      rw [List.getElem?_set] at hq
      by_cases hj : i = j
      · subst hj; rw [if_pos rfl] at hq; split at hq <;> cases hq
      · rw [if_neg hj] at hq
        obtain ⟨x, h1, h2⟩ := S.val j q hq
        exact ⟨x, h1, h2.soft sf⟩
    own := fun j q hq => by
      rw [List.getElem?_set] at hq
      by_cases hj : i = j
      · subst hj; rw [if_pos rfl] at hq; split at hq <;> cases hq
      · rw [if_neg hj] at hq
        obtain ⟨b, h1, h2, h3, h4⟩ := S.own j q hq
        have nb : b ≠ a := fun z => by subst z; exact hj (S.sep i j d q b hi hq hs h1)
        exact ⟨b, h1, h2, h3, h4.soft sf (upd_ne nb)⟩
    exn := fun j c fs hq => by
      rw [List.getElem?_set] at hq
      by_cases hj : i = j
      · subst hj; rw [if_pos rfl] at hq; split at hq <;> cases hq
      · rw [if_neg hj] at hq
        obtain ⟨b, C, dx, vs, h1, h2, h3, h4, h5, h6⟩ := S.exn j c fs hq
        have nd : dx ≠ a := fun z => R.FL dx h3 (z ▸ hL)
        exact ⟨b, C, dx, vs, h1, h2, h3, by rw [upd_ne nd]; exact h4, h5, h6.soft sf⟩
    sep := fun j k q q' b hj hk h3 h4 => by
      rw [List.getElem?_set] at hj hk
      by_cases h5 : i = j
      · subst h5; rw [if_pos rfl] at hj; split at hj <;> cases hj
      · by_cases h6 : i = k
        · subst h6; rw [if_pos rfl] at hk; split at hk <;> cases hk
        · rw [if_neg h5] at hj; rw [if_neg h6] at hk; exact S.sep j k q q' b hj hk h3 h4 }
theorem set_same {σ : L2.St} {i : Nat} {v : Option V} (hs : σ[i]? = some v) : σ.set i v = σ := by
  apply List.ext_getElem?
  intro j
  rw [List.getElem?_set]
  by_cases hj : i = j
  · subst hj
    rw [if_pos rfl, hs, if_pos (List.getElem?_eq_some_iff.mp hs).1]
  · rw [if_neg hj]
theorem SRel.mutO {Z : Addr → Prop} {ρ : Rho} {σ : L2.St} {i : Nat} {d d' : D} (S : SRel G Z w H ρ σ) (R : HRel G w H h) (hi : ρ[i]? = some (.own d)) (hs : σ[i]? = some (some (.ref a))) (hL : w.L a) (nZ : ¬ Z a) (ha : H a = some o) (mu : MutO o)
    (ho : OwnRep G w (upd H a o') a d') : SRel G Z w (upd H a o') (ρ.set i (.own d')) σ := by
  have S2 := (S.mutN (o' := o') R hi hs hL ha mu).seto (i := i) (p := a) (d := d') hL nZ ho (fun j q hq hj hz => by
    rw [List.getElem?_set, if_neg (Ne.symm hj)] at hq
    exact hj (S.sep i j d q a hi hq hs hz).symm)
  rwa [List.set_set, set_same hs] at S2
end

inductive Fl where
  | next | ret (d : D) | brk | cont
inductive SRes where
  | ok (f : Fl) (ρ : Rho) (h : Hl)
  | exc (c : Str) (fs : List (Str × D)) (ρ : Rho) (h : Hl)
  | bad
abbrev SDen := Rho → Hl → SRes
def endOf (G : Gx) (Dn : Ends) (f : Fl) (w : Wd) (σ : L2.St) (H : Hp) : Prop := match f with
  | .next => Dn.nx σ H
  | .brk => Dn.bk σ H
  | .cont => Dn.ct σ H
  | .ret d => ∀ v, Rep G w H v d → Dn.rt v H
def PostS (G : Gx) (w0 : Wd) (H0 : Hp) (W : WX) (r : SRes) (Dn : Ends) : Prop := match r with
  | .ok f ρ h => ∀ w σ H, Le w0 H0 w H → HRel G w H h → SRel G w0.L w H ρ σ → endOf G Dn f w σ H
  | .exc c fs ρ h => ∀ w σ H C dx vs, Le w0 H0 w H → HRel G w H h → SRel G w0.L w H ρ σ → G.mg c = some (.ref C) → H dx = some (.xd vs) → RepF G w H vs fs → w.F dx → W (.ref C) (some dx) σ H
  | .bad => False
def tS (G : Gx) (w0 : Wd) (H0 : Hp) (W : WX) (g : SDen) : TS := fun Dn σ H => ∃ w ρ h, SRel G w0.L w H ρ σ ∧ HRel G w H h ∧ Le w0 H0 w H ∧ PostS G w0 H0 W (g ρ h) Dn
/-- a value, then what follows -/
def sBind {α : Type} (r : Res α) (ρ : Rho) (k : α → Hl → SRes) : SRes := match r with
  | .ok a h => k a h
  | .exc c fs h => .exc c fs ρ h
  | .bad => .bad
def SRes.then (r : SRes) (k : Rho → Hl → SRes) : SRes := match r with
  | .ok .next ρ h => k ρ h
  | r => r
section
variable {G : Gx} {w0 w : Wd} {H0 H : Hp} {W : WX} {ρ : Rho} {h : Hl} {σ : L2.St} {Dn : Ends}
theorem Post.of_s {α : Type} {r : Res α} {k : α → Hl → SRes} (S : SRel G w0.L w H ρ σ) (L : Le w0 H0 w H) (p : PostS G w0 H0 W (sBind r ρ k) Dn) :
    Post G w H r (fun w1 H1 h1 a => PostS G w0 H0 W (k a h1) Dn) (fun c d H' => W c d σ H') := by
  cases r with
  | ok a h1 => exact fun w1 H1 _ _ => p
  | exc c fs h1 => exact fun w1 H1 C dx vs e R m x r f => p w1 σ H1 C dx vs (L.trans e) R (S.le e) m x r f
  | bad => exact p
theorem sstep_E {f : Den D} {k : D → Hl → SRes} {K : VK} (S : SRel G w0.L w H ρ σ) (R : HRel G w H h) (L : Le w0 H0 w H) (p : PostS G w0 H0 W (sBind (f ρ h) ρ k) Dn)
    (hk : ∀ w1 H1 h1 d x, Le w H w1 H1 → SRel G w0.L w1 H1 ρ σ → HRel G w1 H1 h1 → Le w0 H0 w1 H1 → Rep G w1 H1 x d → PostS G w0 H0 W (k d h1) Dn → K x H1) : tE G w0.L W f σ H K :=
  ⟨w, ρ, h, S, R, (Post.of_s S L p).imp fun w1 H1 h1 d e R1 p1 x r => hk w1 H1 h1 d x e (S.le e) R1 (L.trans e) r p1⟩
theorem sstep_A {f : Den (List D)} {k : List D → Hl → SRes} {K : List V → Hp → Prop} (S : SRel G w0.L w H ρ σ) (R : HRel G w H h) (L : Le w0 H0 w H) (p : PostS G w0 H0 W (sBind (f ρ h) ρ k) Dn)
    (hk : ∀ w1 H1 h1 d x, Le w H w1 H1 → SRel G w0.L w1 H1 ρ σ → HRel G w1 H1 h1 → Le w0 H0 w1 H1 → Reps G w1 H1 x d → PostS G w0 H0 W (k d h1) Dn → K x H1) : tAr G w0.L W f σ H K :=
  ⟨w, ρ, h, S, R, (Post.of_s S L p).imp fun w1 H1 h1 d e R1 p1 x r => hk w1 H1 h1 d x e (S.le e) R1 (L.trans e) r p1⟩
theorem sstep_T {f : Den Bool} {k : Bool → Hl → SRes} {K : Bool → Hp → Prop} (S : SRel G w0.L w H ρ σ) (R : HRel G w H h) (L : Le w0 H0 w H) (p : PostS G w0 H0 W (sBind (f ρ h) ρ k) Dn)
    (hk : ∀ w1 H1 h1 b, Le w H w1 H1 → SRel G w0.L w1 H1 ρ σ → HRel G w1 H1 h1 → Le w0 H0 w1 H1 → PostS G w0 H0 W (k b h1) Dn → K b H1) : tTe G w0.L W f σ H K :=
  ⟨w, ρ, h, S, R, (Post.of_s S L p).imp fun w1 H1 h1 d e R1 p1 => hk w1 H1 h1 d e (S.le e) R1 (L.trans e) p1⟩
theorem PostS.now {f : Fl} (p : PostS G w0 H0 W (.ok f ρ h) Dn) (S : SRel G w0.L w H ρ σ) (R : HRel G w H h) (L : Le w0 H0 w H) : endOf G Dn f w σ H := p w σ H L R S
end
/-- a statement and the plain function that tells what it does -/
abbrev SS (X : Cx) (T : Tb) (W : WX) (st : Stmt) (g : SDen) : Prop := ∀ w0 H0, PS X st (tS (gx X T) w0 H0 W g)
abbrev SB (X : Cx) (T : Tb) (W : WX) (st : List Stmt) (g : SDen) : Prop := ∀ w0 H0, PSs X st (tS (gx X T) w0 H0 W g)
def sNext : SDen := fun ρ h => .ok .next ρ h
def sSeq (f g : SDen) : SDen := fun ρ h => (f ρ h).then g
def sExpr (f : Den D) : SDen := fun ρ h => sBind (f ρ h) ρ fun _ h1 => .ok .next ρ h1
def sRet (f : Den D) : SDen := fun ρ h => sBind (f ρ h) ρ fun d h1 => .ok (.ret d) ρ h1
def sRetN : SDen := fun ρ h => .ok (.ret .non) ρ h
def sIf (c : Den Bool) (f g : SDen) : SDen := fun ρ h => sBind (c ρ h) ρ fun b h1 => if b then f ρ h1 else g ρ h1
def sSet (i : Nat) (f : Den D) : SDen := fun ρ h => sBind (f ρ h) ρ fun d h1 => .ok .next (ρ.set i (.v d)) h1
section
variable {X : Cx} {T : Tb} {W : WX} {e c : Expr} {st : Stmt} {rest a b : List Stmt} {f : Den D} {t : Den Bool} {g g' : SDen} {pos : Pos}
theorem PostS.seq {G : Gx} {w0 : Wd} {H0 : Hp} {Dn : Ends} {r : SRes} (p : PostS G w0 H0 W (r.then g) Dn) : PostS G w0 H0 W r { Dn with nx := tS G w0 H0 W g Dn } := by
  cases r with
  | ok fl ρ h =>
    cases fl with
    | next => exact fun w σ H L R S => ⟨w, ρ, h, S, R, L, p⟩
    | ret d => exact p
    | brk => exact p
    | cont => exact p
  | exc c fs ρ h => exact p
  | bad => exact p
theorem sb_nil : SB X T W [] sNext := fun w0 H0 => pss_imp pss_nil fun D σ H ⟨w, ρ, h, S, R, L, p⟩ => p.now S R L
theorem sb_cons (h1 : SS X T W st g) (h2 : SB X T W rest g') : SB X T W (st :: rest) (sSeq g g') := fun w0 H0 =>
  pss_imp (pss_cons (h1 w0 H0) (h2 w0 H0)) fun D σ H ⟨w, ρ, h, S, R, L, p⟩ => ⟨w, ρ, h, S, R, L, PostS.seq p⟩
theorem sb_one (h1 : SS X T W st g) : SB X T W [st] g := fun w0 H0 => pss_one (h1 w0 H0)
theorem ss_pass : SS X T W (.Pass pos) sNext := fun w0 H0 => ps_imp ps_pass fun D σ H ⟨w, ρ, h, S, R, L, p⟩ => p.now S R L
theorem ss_break : SS X T W (.Break pos) (fun ρ h => .ok .brk ρ h) := fun w0 H0 => ps_imp ps_break fun D σ H ⟨w, ρ, h, S, R, L, p⟩ => p.now S R L
theorem ss_continue : SS X T W (.Continue pos) (fun ρ h => .ok .cont ρ h) := fun w0 H0 => ps_imp ps_continue fun D σ H ⟨w, ρ, h, S, R, L, p⟩ => p.now S R L
theorem ss_expr (he : ∀ Z, SE X T Z W e f) (hs : swapsWith e none pos.line X.env = pure false := by rfl) : SS X T W (.Expr e pos) (sExpr f) := fun w0 H0 =>
  ps_imp (ps_expr (he w0.L) hs) fun D σ H ⟨w, ρ, h, S, R, L, p⟩ => sstep_E S R L p fun w1 H1 h1 d x e1 S1 R1 L1 r1 p1 => p1.now S1 R1 L1
theorem ss_ret (he : ∀ Z, SE X T Z W e f) : SS X T W (.Return (some e) pos) (sRet f) := fun w0 H0 =>
  ps_imp (ps_ret (he w0.L)) fun D σ H ⟨w, ρ, h, S, R, L, p⟩ => sstep_E S R L p fun w1 H1 h1 d x e1 S1 R1 L1 r1 p1 => (p1.now S1 R1 L1) x r1
theorem ss_retN : SS X T W (.Return none pos) sRetN := fun w0 H0 => ps_imp ps_retN fun D σ H ⟨w, ρ, h, S, R, L, p⟩ => (p.now S R L) _ .non
theorem ss_if (hc : ∀ Z, ST X T Z W c t) (ha : SB X T W a g) (hb : SB X T W b g') : SS X T W (.If c a b pos) (sIf t g g') := fun w0 H0 =>
  ps_imp (ps_if (hc w0.L) (ha w0 H0) (hb w0 H0)) fun D σ H ⟨w, ρ, h, S, R, L, p⟩ => sstep_T S R L p fun w1 H1 h1 b e1 S1 R1 L1 p1 => by
    cases b
    · exact ⟨w1, ρ, h1, S1, R1, L1, p1⟩
    · exact ⟨w1, ρ, h1, S1, R1, L1, p1⟩
theorem ss_set {i : Nat} {x : Str} {pos' : Pos} (hN : X.N.Nodup) (hi : X.N[i]? = some x) (hx : Loc X.env.scope x) (he : ∀ Z, SE X T Z W e f) (hs : swapsWith e (some (.Name x pos')) pos.line X.env = pure false := by rfl)
    (hf : X.fn x = true ∨ X.env.scope.names.lookup x = some .local := by first | exact .inl rfl | exact .inr rfl | assumption) : SS X T W (.Assign [.Name x pos'] e pos) (sSet i f) := fun w0 H0 =>
  ps_imp (ps_set hN hi hx (he w0.L) hs hf) fun D σ H ⟨w, ρ, h, S, R, L, p⟩ => sstep_E S R L p fun w1 H1 h1 d x e1 S1 R1 L1 r1 p1 => p1.now (S1.setv r1) R1 L1
/-- nothing that is reached -/
theorem sb_never : SB X T W rest (fun _ _ => .bad) := fun w0 H0 => ⟨fun _ _ _ _ _ _ ⟨_, _, _, _, _, _, p⟩ => p.elim⟩
theorem ss_never : SS X T W st (fun _ _ => .bad) := fun w0 H0 => ⟨fun _ _ _ _ _ _ ⟨_, _, _, _, _, _, p⟩ => p.elim⟩
end

def sFreeze (i : Nat) (ρ : Rho) : Rho := match ρ[i]? with
  | some (.own d) => ρ.set i (.v d)
  | _ => ρ
/-- a goes from what is somebody's own to what stands -/
def Wd.frz (w : Wd) (a : Addr) : Wd := { w with F := fun b => w.F b ∨ b = a, L := fun b => w.L b ∧ b ≠ a }
section
variable {G : Gx} {w w0 : Wd} {H H0 : Hp} {h : Hl} {a : Addr}
theorem soft_frz : Soft G w H (w.frz a) H := ⟨fun _ z => .inl z, fun _ _ z => z, fun _ _ z => z, fun _ _ _ z => z, fun _ _ _ _ z => z, fun _ _ _ _ z => z, fun _ _ _ _ z => z, fun _ _ _ _ _ z => z⟩
theorem HRel.frz (R : HRel G w H h) (hL : w.L a) : HRel G (w.frz a) H h where
  live := fun r b e => by
    obtain ⟨u, h1, h2⟩ := R.live r b e
    exact ⟨u, h1, h2.soft soft_frz rfl⟩
  all := R.all
  inj := R.inj
  mF := fun r b e => ⟨fun z => z.elim (R.mF r b e).1 fun z => (R.mF r b e).2 (z ▸ hL), fun z => (R.mF r b e).2 z.1⟩
  FL := fun b z y => z.elim (fun z => R.FL b z y.1) fun z => y.2 z
  there := fun b z => R.there b (z.elim (fun z => z.elim .inl fun z => .inr (z ▸ hL)) fun z => .inr z.1)
  ntb := fun b ps e => ⟨fun z => z.elim (R.ntb b ps e).1 fun z => (R.ntb b ps e).2 (z ▸ hL), fun z => (R.ntb b ps e).2 z.1⟩
  tabs := R.tabs
theorem Le.frzL (e : Le w0 H0 w H) (n0 : ¬ w0.L a) : Le w0 H0 (w.frz a) H :=
  ⟨fun b z => .inl (e.F b z), fun b z => ⟨e.L b z, fun q => n0 (q ▸ z)⟩, e.m, e.hF, e.hL, e.tup, e.frz⟩
theorem SRel.frzN {ρ : Rho} {σ : L2.St} {Z : Addr → Prop} (S : SRel G Z w H ρ σ) (hn : ∀ (j : Nat) (e : D), ρ[j]? = some (.own e) → σ[j]? ≠ some (some (.ref a))) : SRel G Z (w.frz a) H ρ σ where
  len := S.len
  val := fun j q hq => by
    obtain ⟨x, h1, h2⟩ := S.val j q hq
    exact ⟨x, h1, h2.soft soft_frz⟩
  own := fun j q hq => by
    obtain ⟨b, h1, h2, h3, h4⟩ := S.own j q hq
    exact ⟨b, h1, ⟨h2, fun z => hn j q hq (z ▸ h1)⟩, h3, h4.soft soft_frz rfl⟩
  sep := S.sep
  exn := fun i c fs h => by
    obtain ⟨a, C, dx, vs, h1, h2, h3, h4, h5, h6⟩ := S.exn i c fs h
    exact ⟨a, C, dx, vs, h1, h2, .inl h3, h4, h5, h6.soft soft_frz⟩
theorem SRel.forget {ρ : Rho} {σ : L2.St} {Z : Addr → Prop} (S : SRel G Z w H ρ σ) (i : Nat) : SRel G Z w H (ρ.set i .no) σ where
  len := by rw [List.length_set]; exact S.len
  val := fun j q hq => by
    rw [List.getElem?_set] at hq
    by_cases hj : i = j
    · subst hj; rw [if_pos rfl] at hq; split at hq <;> cases hq
    · rw [if_neg hj] at hq; exact S.val j q hq
  own := fun j q hq => by
    rw [List.getElem?_set] at hq
    by_cases hj : i = j
    · subst hj; rw [if_pos rfl] at hq; split at hq <;> cases hq
    · rw [if_neg hj] at hq; exact S.own j q hq
  exn := fun j c fs hq => by
    rw [List.getElem?_set] at hq
    by_cases hj : i = j
    · subst hj; rw [if_pos rfl] at hq; split at hq <;> cases hq
    · rw [if_neg hj] at hq; exact S.exn j c fs hq
  sep := fun j k q q' b hj hk h3 h4 => by
    rw [List.getElem?_set] at hj hk
    by_cases h5 : i = j
    · subst h5; rw [if_pos rfl] at hj; split at hj <;> cases hj
    · by_cases h6 : i = k
      · subst h6; rw [if_pos rfl] at hk; split at hk <;> cases hk
      · rw [if_neg h5] at hj; rw [if_neg h6] at hk; exact S.sep j k q q' b hj hk h3 h4
end
/-- what has to be written down when d is frozen: nothing, or the lock of a dict -/
theorem own_frz {G : Gx} {w w0 : Wd} {H H0 : Hp} {h : Hl} {a : Addr} {d : D} (R : HRel G w H h) (L : Le w0 H0 w H) (hL : w.L a) (n0 : ¬ w0.L a) (ho : OwnRep G w H a d) {P : Hp → Prop}
    (k : ∀ H', HRel G (w.frz a) H' h → Le w0 H0 (w.frz a) H' → Rep G (w.frz a) H' (.ref a) d → (∀ {Z : Addr → Prop} {ρ : Rho} {σ : L2.St} {i : Nat}, SRel G Z w H ρ σ → ρ[i]? = some (.own d) → σ[i]? = some (some (.ref a)) → SRel G Z (w.frz a) H' (ρ.set i (.v d)) σ) → P H') :
    P H ∨ ∃ u, H a = some u ∧ Mut (some u) ∧ ∀ od, P (upd H a (.frz od u)) := by
  have fin : ∀ H', HRel G w H' h → Le w0 H0 w H' → Rep G (w.frz a) H' (.ref a) d → (∀ {Z : Addr → Prop} {ρ : Rho} {σ : L2.St} {i : Nat}, SRel G Z w H ρ σ → ρ[i]? = some (.own d) → σ[i]? = some (some (.ref a)) → SRel G Z w H' (ρ.set i .no) σ) → P H' := fun H' R1 L1 r kk =>
    k H' (R1.frz hL) (L1.frzL n0) r fun {Z ρ σ i} S hi hs => by
      have S1 := (kk S hi hs).frzN (a := a) (fun j e hj hz => by
        rw [List.getElem?_set] at hj
        by_cases hq : i = j
        · rw [if_pos hq] at hj; split at hj <;> cases hj
        · rw [if_neg hq] at hj; exact hq (S.sep i j d e a hi hj hs hz))
      have S2 := S1.setv (i := i) r
      rwa [List.set_set, set_same hs] at S2
  cases d with
  | lst ds => obtain ⟨xs, h1, h2⟩ := ho; exact .inl (fin H R L (.lst (.inr rfl) h1 (h2.soft soft_frz)) fun S _ _ => S.forget _)
  | ins c fs => obtain ⟨C, dx, vs, h0, h1, h2⟩ := ho; exact .inl (fin H R L (.ins (.inr rfl) h0 h1 (h2.soft soft_frz)) fun S _ _ => S.forget _)
  | dct t kvs =>
    cases t with
    | false =>
      obtain ⟨vs, h1, h2⟩ := ho
      have nF := fun f => R.FL a f hL
      exact .inr ⟨_, h1, trivial, fun od => fin _ (R.mutL hL h1 trivial) (L.mutL R hL n0 h1 trivial) (.dK (.inr rfl) upd_same ((h2.soft (soft_mut nF h1 trivial)).soft soft_frz)) fun S hi hs => S.mutN R hi hs hL h1 trivial⟩
    | true =>
      obtain ⟨vs, h1, h2⟩ := ho
      have nF := fun f => R.FL a f hL
      exact .inr ⟨_, h1, trivial, fun od => fin _ (R.mutL hL h1 trivial) (L.mutL R hL n0 h1 trivial) (.dT (.inr rfl) upd_same ((h2.soft (soft_mut nF h1 trivial)).soft soft_frz)) fun S hi hs => S.mutN R hi hs hL h1 trivial⟩
  | _ => exact ho.elim
theorem pss_lockF {X : Cx} {st : List Stmt} {t : TS} (h : PSs X st t) : PSs X st (fun D σ H => t D σ H ∨ ∃ d u, H d = some u ∧ Mut (some u) ∧ ∀ od, t D σ (upd H d (.frz od u))) := by
  refine ⟨fun pins s σ H D I hw => ?_⟩
  rcases hw with hw | ⟨d, u, hd, mu, hw⟩
  · exact h.run pins s σ H D I hw
  · obtain ⟨od, I1⟩ := I.lock hd mu
    exact h.run pins s σ _ D I1 (hw od)
section
variable {X : Cx} {T : Tb} {W : WX} {st : Stmt} {rest : List Stmt} {g : SDen}
/-- .. anywhere in a block -/
theorem sb_freeze (i : Nat) (hb : SB X T W rest g) : SB X T W rest (fun ρ h => g (sFreeze i ρ) h) := fun w0 H0 => pss_imp (pss_lockF (hb w0 H0)) fun D σ H ⟨w, ρ, h, S, R, L, p⟩ => by
  have same : sFreeze i ρ = ρ → tS (gx X T) w0 H0 W g D σ H := fun e => ⟨w, ρ, h, S, R, L, by simp only [e] at p; exact p⟩
  cases hi : ρ[i]? with
  | none => exact .inl (same (by unfold sFreeze; rw [hi]))
  | some s =>
    cases s with
    | no => exact .inl (same (by unfold sFreeze; rw [hi]))
    | x c fs => exact .inl (same (by unfold sFreeze; rw [hi]))
    | v d => exact .inl (same (by unfold sFreeze; rw [hi]))
    | own d =>
      have e : sFreeze i ρ = ρ.set i (.v d) := by unfold sFreeze; rw [hi]
      simp only [e] at p
      obtain ⟨a, h1, h2, h3, h4⟩ := S.own i d hi
      rcases own_frz (P := fun H' => tS (gx X T) w0 H0 W g D σ H') R L h2 h3 h4 (fun H' R1 L1 r1 k => ⟨w.frz a, ρ.set i (.v d), h, k S hi h1, R1, L1, p⟩) with z | ⟨u, h5, h6, h7⟩
      · exact .inl z
      · exact .inr ⟨a, u, h5, h6, h7⟩
end

def spF (G : Gx) (n : Nat) (f : List D → Hl → Res D) : Sp := fun vs H Q E => vs.length = n ∧ ∃ w h ds, HRel G w H h ∧ Reps G w H vs ds ∧ Post G w H (f ds h) (QD G Q) E
/-- what a body makes of its arguments -/
def runB (N : Nat) (b : SDen) : List D → Hl → Res D := fun ds h => match b (ds.map .v ++ List.replicate (N - ds.length) .no) h with
  | .ok (.ret d) _ h' => .ok d h'
  | .ok .next _ h' => .ok .non h'
  | .exc c fs _ h' => .exc c fs h'
  | _ => .bad
theorem Reps.start {G : Gx} {Z : Addr → Prop} {w : Wd} {H : Hp} {N : List Str} {vs : List V} {ds : List D} (r : Reps G w H vs ds) : SRel G Z w H (ds.map Sl.v ++ List.replicate (N.length - ds.length) .no) (L2.start N vs) := by
  have hl := r.length
  have look : ∀ {i : Nat} {s : Sl}, (ds.map Sl.v ++ List.replicate (N.length - ds.length) Sl.no)[i]? = some s → (∃ d, ds[i]? = some d ∧ s = .v d) ∨ s = .no := by
    intro i s h
    by_cases hi : i < ds.length
    · rw [List.getElem?_append_left (by simpa using hi), List.getElem?_map] at h
      cases e : ds[i]? with
      | none => rw [e] at h; cases h
      | some d => rw [e] at h; cases h; exact .inl ⟨d, rfl, rfl⟩
    · rw [List.getElem?_append_right (by simpa using hi), List.getElem?_replicate] at h
      split at h
      · cases h; exact .inr rfl
      · cases h
  refine ⟨by unfold L2.start; simp [hl], fun i d h => ?_, fun i d h => ?_, fun i j d e a h _ _ _ => ?_, fun i c fs h => ?_⟩
  · rcases look h with ⟨d', h1, h2⟩ | h2
    · cases h2
      obtain ⟨u, h3, h4⟩ := r.get h1
      refine ⟨u, ?_, h4⟩
      unfold L2.start
      rw [List.getElem?_append_left (by simpa using (List.getElem?_eq_some_iff.mp h3).1), List.getElem?_map, h3]
      rfl
    · cases h2
  · rcases look h with ⟨d', h1, h2⟩ | h2 <;> cases h2
  · rcases look h with ⟨d', h1, h2⟩ | h2 <;> cases h2
  · rcases look h with ⟨d', h1, h2⟩ | h2 <;> cases h2
section
variable {P : Program} {w : World} {K : PySem.W.Frag} {mg : Str → Option Value} {base : Heap} {T : Tb} {x qual : Str} {params : Arguments} {body : List Stmt} {scope : Scope} {dvs : List V} {kws : List (Str × V)} {f : Addr} {fd : FuncData}
/-- THE RULE: a def by its body -/
theorem fn_body {N ps : List Str} {k : Nat} {b : SDen} (F : FunD K x qual params body scope dvs kws f fd) (S : FnScope N ps scope)
    (hb : ∀ (cdv : Value) (A : Around) (outer : List Env) (s : Shared) (H : Hp) (E : XK), Room k (A.deeper (envOfC qual scope s.heap.objs.size f cdv)) → SB (cxOf (L2N.CX P w) P w K mg base N qual scope f cdv A outer s H E) T (fun cls d _ H' => E cls d H') body b) : FnOk P w K mg base (L2N.CX P w) (k + 1) f fd ps (spF ⟨K, mg, T⟩ ps.length (runB N.length b)) := by
  refine F.ok S (fun vs H Q E h => h.1) (fun cdv A outer s H vs Q E hr h => ?_)
  obtain ⟨hl, w1, h1, ds, R, r, p⟩ := h
  refine ⟨_, hb cdv A outer s H E hr w1 H, ?_⟩
  · refine ⟨w1, _, h1, r.start, R, Le.refl _ _, ?_⟩
    unfold runB at p
    rw [show ds.map Sl.v ++ List.replicate (N.length - ds.length) Sl.no = ds.map Sl.v ++ List.replicate (N.length - ds.length) Sl.no from rfl]
    revert p
    cases b (ds.map Sl.v ++ List.replicate (N.length - ds.length) Sl.no) h1 with
    | ok fl ρ h2 =>
      cases fl with
      | next => exact fun p w2 σ H2 L R2 S2 => p w2 H2 L R2 _ .non
      | ret d => exact fun p w2 σ H2 L R2 S2 v rv => p w2 H2 L R2 v rv
      | brk => exact fun p => p.elim
      | cont => exact fun p => p.elim
    | exc c fs ρ h2 => exact fun p w2 σ H2 C dx vs L R2 S2 m z rf ff => p w2 H2 C dx vs L R2 m z rf ff
    | bad => exact fun p => p.elim
end
/-- a def of the module, told by a plain function -/
structure FnU (P : Program) (w : World) (base : Heap) (G : Gx) (k : Nat) (x : Str) (ps : List Str) (g : List D → Hl → Res D) : Prop where
  is : ∃ f fd, G.mg x = some (.ref f) ∧ PySem.W.keepIn G.K (.ref f) = true ∧ FnOk P w G.K G.mg base (L2N.CX P w) k f fd ps (spF G ps.length g) ∧ Binds G.K fd ps []
def dCall (g : List D → Hl → Res D) (a : Den (List D)) : Den D := fun ρ h => (a ρ h).bind g
theorem call_go {G : Gx} {Z : Addr → Prop} {W : WX} {n : Nat} {g : List D → Hl → Res D} {t : Den (List D)} {σ : L2.St} {H : Hp} {Q : VK} (hl : ∀ ρ h ds h', t ρ h = .ok ds h' → ds.length = n)
    (q : tE G Z W (dCall g t) σ H Q) : tAr G Z W t σ H fun vs H1 => spF G n g (vs ++ []) H1 Q (fun c d H' => W c d σ H') := by
  obtain ⟨w, ρ, h, S, R, p⟩ := q
  have hl' := hl ρ h
  revert p
  unfold dCall
  cases e : t ρ h with
  | ok ds h1 =>
    intro p
    have hn := hl' ds h1 e
    refine ⟨w, ρ, h, S, R, ?_⟩
    rw [e]
    intro w1 H1 e1 R1 vs r
    rw [List.append_nil]
    exact ⟨r.length.trans hn, w1, h1, ds, R1, r, Post.le p e1⟩
  | exc c fs h1 => intro p; refine ⟨w, ρ, h, S, R, ?_⟩; rw [e]; exact p
  | bad => intro p; exact p.elim
section
variable {X : Cx} {T : Tb} {Z : Addr → Prop} {W : WX} {e : Expr} {es : List Expr} {t : Den (List D)} {pos p : Pos} {x : Str} {k : Nat} {ps : List Str} {g : List D → Hl → Res D}
theorem se_call (F : FnU X.prog X.w X.base (gx X T) k x ps g) (hr : Room k X.A) (hg : Gl X x) (tk : L2N.Takes X W) (ha : SA X T Z W (e :: es) t) (hl : ∀ ρ h ds h', t ρ h = .ok ds h' → ds.length = ps.length)
    (hdb : (x == ("__debug__" : Str)) = false := by decide) (he : starEach (e :: es) X.env = (false, eval e X.env) :: starEach es X.env := by rfl) (hpl : (backTo pos (starEach es X.env)).any (·.1) = false := by rfl) :
    SE X T Z W (.Call (.Name x p) (e :: es) [] pos) (dCall g t) := by
  obtain ⟨f, fd, hm, hk, F, hb⟩ := F.is
  exact pe_imp (pe_callSD (E := fun σ c d H' => W c d σ H') (dvs := []) F hr hg hm hk hb .nil (fun σ => L2N.passAt tk σ) ha hdb he hpl) fun σ H Q q => call_go hl q
theorem se_call0 (F : FnU X.prog X.w X.base (gx X T) k x [] g) (hr : Room k X.A) (hg : Gl X x) (tk : L2N.Takes X W) (hdb : (x == ("__debug__" : Str)) = false := by decide) : SE X T Z W (.Call (.Name x p) [] [] pos) (dCall g dNil) := by
  obtain ⟨f, fd, hm, hk, F, hb⟩ := F.is
  refine ⟨fun pins s σ H Q I q => ?_⟩
  obtain ⟨w1, ρ, h, S, R, p⟩ := q
  refine wpAny_Call_Name_kw (ld_glob I hg hm ?_ hdb)
  refine PySem.W.callWith_K0 I.kIn hk (run_fnSD (us := []) (vs := []) (dvs := []) (E := fun σ c d H' => W c d σ H') F hr hb .nil (L2N.passAt tk σ) I .nil ?_)
  exact ⟨rfl, w1, h, [], R, .nil, p⟩
end
/-- so many arguments -/
theorem len_nil : ∀ (ρ : Rho) (h : Hl) (ds : List D) (h' : Hl), dNil ρ h = .ok ds h' → ds.length = 0 := fun _ _ _ _ e => by cases e; rfl
theorem len_cons {f : Den D} {g : Den (List D)} {n : Nat} (hg : ∀ (ρ : Rho) (h : Hl) (ds : List D) (h' : Hl), g ρ h = .ok ds h' → ds.length = n) : ∀ (ρ : Rho) (h : Hl) (ds : List D) (h' : Hl), dCons f g ρ h = .ok ds h' → ds.length = n + 1 := fun ρ h ds h' e => by
  unfold dCons at e
  cases e1 : f ρ h with
  | ok d h1 =>
    rw [e1] at e
    simp only [Res.bind_ok] at e
    cases e2 : g ρ h1 with
    | ok ds2 h2 =>
      rw [e2] at e
      cases e
      rw [List.length_cons, hg _ _ _ _ e2]
    | exc c fs h2 => rw [e2] at e; cases e
    | bad => rw [e2] at e; cases e
  | exc c fs h1 => rw [e1] at e; cases e
  | bad => rw [e1] at e; cases e
/-- the def, as others call it -/
theorem fnU_of {P : Program} {w : World} {base : Heap} {G : Gx} {x qual : Str} {params : Arguments} {body : List Stmt} {scope : Scope} {f : Addr} {fd : FuncData} {N ps : List Str} {k : Nat} {b : SDen} (F : FunD G.K x qual params body scope [] [] f fd) (hm : G.mg x = some (.ref f)) (S : FnScope N ps scope)
    (hbd : ∀ (kV doc pm : Value) (an : Option Addr) (cdv ct : Value) (us : List Value), us.length = ps.length → bindArgs (PySem.W.fnOf x qual params body scope .none kV doc pm an cdv ct) ⟨us, []⟩ = pure (ps.zip us))
    (hb : ∀ (cdv : Value) (A : Around) (outer : List Env) (s : Shared) (H : Hp) (E : XK), Room k (A.deeper (envOfC qual scope s.heap.objs.size f cdv)) → SB (cxOf (L2N.CX P w) P w G.K G.mg base N qual scope f cdv A outer s H E) G.T (fun cls d _ H' => E cls d H') body b) : FnU P w base G (k + 1) x ps (runB N.length b) :=
  ⟨f, fd, hm, F.kp, fn_body (T := G.T) F S hb, F.bindsN hbd⟩
theorem op_inStr {X : Cx} : OpR X (compareOp .In) (fun x y H Q => ∃ i j, x = .str i ∧ y = .str j ∧ Q (.bl (if false = true then !hasSub j i else hasSub j i)) H) := op_in_str
theorem op_ninStr {X : Cx} : OpR X (compareOp .NotIn) (fun x y H Q => ∃ i j, x = .str i ∧ y = .str j ∧ Q (.bl (if true = true then !hasSub j i else hasSub j i)) H) := L2.op_notin_str
theorem op_inAll {X : Cx} (hu : X.A.units + 65 < cLine) : OpR X (compareOp .In) (rInAll X.K false) := (op_inStr.or op_in_seq).or (op_inD hu)
theorem op_ninAll {X : Cx} (hu : X.A.units + 65 < cLine) : OpR X (compareOp .NotIn) (rInAll X.K true) := (op_ninStr.or op_notIn_seq).or (op_notInD hu)
/-- room for what counts units alone -/
def RmU (A : Around) : Prop := A.units + 200 < cLine
theorem rmU {k : Nat} {A : Around} (r : Room k A) : RmU A := by have := r.un; unfold RmU; omega
theorem rmH {k : Nat} {A : Around} (r : L2H.RoomH k A) : RmU A := by have := r.un; unfold RmU; omega
theorem hu1 {A : Around} (hr : RmU A) : A.units + 1 < cLine := by unfold RmU at hr; omega
theorem hu64 {A : Around} (hr : RmU A) : A.units + 64 < cLine := by unfold RmU at hr; omega
theorem hu65 {A : Around} (hr : RmU A) : A.units + 65 < cLine := by unfold RmU at hr; omega
section
variable {X : Cx} {T : Tb} {Z : Addr → Prop} {W : WX} {a b c : Expr} {f g k : Den D} {pos : Pos} {n : Nat}
theorem sv (i : Nat) {x : Str} {pos : Pos} (hN : X.N[i]? = some x := by rfl) (hv : Vis X.env.scope x := by first | exact Or.inl rfl | exact Or.inr (Or.inl rfl) | exact Or.inr (Or.inr rfl)) (hd : (x == ("__debug__" : Str)) = false := by decide)
    (hcd : (x == ("__classdict__" : Str)) = false := by decide) : SE X T Z W (.Name x pos) (dVar i) := se_var hN hv hd hcd
theorem se_add (ha : SE X T Z W a f) (hb : SE X T Z W b g) : SE X T Z W (.BinOp a .Add b pos) (dBin addD f g) := se_bin op_addAll ok_add ha hb
theorem se_mul (ha : SE X T Z W a f) (hb : SE X T Z W b g) : SE X T Z W (.BinOp a .Mult b pos) (dBin mulD f g) := se_bin op_mulAll ok_mul ha hb
theorem se_mod (ha : SE X T Z W a f) (hb : SE X T Z W b g) : SE X T Z W (.BinOp a .Mod b pos) (dBin modD f g) := se_bin op_mod ok_mod ha hb
theorem se_fdiv (ha : SE X T Z W a f) (hb : SE X T Z W b g) : SE X T Z W (.BinOp a .FloorDiv b pos) (dBin fdivD f g) := se_bin op_fdiv ok_fdiv ha hb
theorem se_pow (ha : SE X T Z W a f) (hb : SE X T Z W b g) : SE X T Z W (.BinOp a .Pow b pos) (dBin powD f g) := se_bin op_pow ok_pow ha hb
theorem se_eq (hr : RmU X.A) (ha : SE X T Z W a f) (hb : SE X T Z W b g) : SE X T Z W (.Compare a [.Eq] [b] pos) (dBin eqD f g) := se_cmp (op_eqAll (hu64 hr)) ok_eq ha hb (nomark _)
theorem se_ne (hr : RmU X.A) (ha : SE X T Z W a f) (hb : SE X T Z W b g) : SE X T Z W (.Compare a [.NotEq] [b] pos) (dBin neD f g) := se_cmp (op_neAll (hu64 hr)) ok_ne ha hb (nomark _)
theorem se_lt (ha : SE X T Z W a f) (hb : SE X T Z W b g) : SE X T Z W (.Compare a [.Lt] [b] pos) (dBin ltD f g) := se_cmp op_ltAll ok_lt ha hb (nomark _)
theorem se_gt (ha : SE X T Z W a f) (hb : SE X T Z W b g) : SE X T Z W (.Compare a [.Gt] [b] pos) (dBin gtD f g) := se_cmp op_gtAll ok_gt ha hb (nomark _)
theorem se_le (ha : SE X T Z W a f) (hb : SE X T Z W b g) : SE X T Z W (.Compare a [.LtE] [b] pos) (dBin leD f g) := se_cmp op_le ok_le ha hb (nomark _)
theorem se_ge (ha : SE X T Z W a f) (hb : SE X T Z W b g) : SE X T Z W (.Compare a [.GtE] [b] pos) (dBin geD f g) := se_cmp op_ge ok_ge ha hb (nomark _)
theorem se_isN (ha : SE X T Z W a f) (hb : SE X T Z W b g) : SE X T Z W (.Compare a [.Is] [b] pos) (dBin isND f g) := se_cmp op_isN ok_isN ha hb (nomark _)
theorem se_notN (ha : SE X T Z W a f) (hb : SE X T Z W b g) : SE X T Z W (.Compare a [.IsNot] [b] pos) (dBin notND f g) := se_cmp op_notN ok_notN ha hb (nomark _)
theorem se_in (hr : RmU X.A) (ha : SE X T Z W a f) (hb : SE X T Z W b g) (hm : behindInMarks .In b = false := by rfl) : SE X T Z W (.Compare a [.In] [b] pos) (dBin inD f g) := se_cmp (op_inAll (hu65 hr)) ok_in ha hb hm
theorem se_nin (hr : RmU X.A) (ha : SE X T Z W a f) (hb : SE X T Z W b g) (hm : behindInMarks .NotIn b = false := by rfl) : SE X T Z W (.Compare a [.NotIn] [b] pos) (dBin ninD f g) := se_cmp (op_ninAll (hu65 hr)) ok_nin ha hb hm
theorem st_eq (hr : RmU X.A) (ha : SE X T Z W a f) (hb : SE X T Z W b g) : ST X T Z W (.Compare a [.Eq] [b] pos) (dB (dBin eqD f g)) := st_cmp (op_eqAll (hu64 hr)) ok_eq ha hb (nomark _)
theorem st_ne (hr : RmU X.A) (ha : SE X T Z W a f) (hb : SE X T Z W b g) : ST X T Z W (.Compare a [.NotEq] [b] pos) (dB (dBin neD f g)) := st_cmp (op_neAll (hu64 hr)) ok_ne ha hb (nomark _)
theorem st_lt (ha : SE X T Z W a f) (hb : SE X T Z W b g) : ST X T Z W (.Compare a [.Lt] [b] pos) (dB (dBin ltD f g)) := st_cmp op_ltAll ok_lt ha hb (nomark _)
theorem st_gt (ha : SE X T Z W a f) (hb : SE X T Z W b g) : ST X T Z W (.Compare a [.Gt] [b] pos) (dB (dBin gtD f g)) := st_cmp op_gtAll ok_gt ha hb (nomark _)
theorem st_le (ha : SE X T Z W a f) (hb : SE X T Z W b g) : ST X T Z W (.Compare a [.LtE] [b] pos) (dB (dBin leD f g)) := st_cmp op_le ok_le ha hb (nomark _)
theorem st_ge (ha : SE X T Z W a f) (hb : SE X T Z W b g) : ST X T Z W (.Compare a [.GtE] [b] pos) (dB (dBin geD f g)) := st_cmp op_ge ok_ge ha hb (nomark _)
theorem st_isN (ha : SE X T Z W a f) (hb : SE X T Z W b g) : ST X T Z W (.Compare a [.Is] [b] pos) (dB (dBin isND f g)) := st_cmp op_isN ok_isN ha hb (nomark _)
theorem st_notN (ha : SE X T Z W a f) (hb : SE X T Z W b g) : ST X T Z W (.Compare a [.IsNot] [b] pos) (dB (dBin notND f g)) := st_cmp op_notN ok_notN ha hb (nomark _)
theorem st_in (hr : RmU X.A) (ha : SE X T Z W a f) (hb : SE X T Z W b g) (hm : behindInMarks .In b = false := by rfl) : ST X T Z W (.Compare a [.In] [b] pos) (dB (dBin inD f g)) := st_cmp (op_inAll (hu65 hr)) ok_in ha hb hm
theorem st_nin (hr : RmU X.A) (ha : SE X T Z W a f) (hb : SE X T Z W b g) (hm : behindInMarks .NotIn b = false := by rfl) : ST X T Z W (.Compare a [.NotIn] [b] pos) (dB (dBin ninD f g)) := st_cmp (op_ninAll (hu65 hr)) ok_nin ha hb hm
end
end Pf
end
section
set_option maxRecDepth 100000
namespace Pf
open PySem PySem.Spec PyProof.Rows L2 LamX

abbrev Tg := D → Rho → Hl → Option (Rho × Hl)
abbrev Tgs := List D → Rho → Hl → Option (Rho × Hl)
theorem wipe_in {i : Nat} : ∀ {vs : List Nat} {σ τ : L2.St}, σ.length = τ.length → i ∈ vs → (L2.wipe σ vs)[i]? = (L2.wipe τ vs)[i]?
  | v :: vs, σ, τ, hl, hi => by
    unfold L2.wipe
    rw [List.getElem?_set, List.getElem?_set, L2.wipe_length, L2.wipe_length, hl]
    by_cases hv : v = i
    · rw [if_pos hv, if_pos hv]
    · rw [if_neg hv, if_neg hv]
      exact wipe_in hl ((List.mem_cons.mp hi).resolve_left fun e => hv e.symm)
theorem wipe_set {σ : L2.St} {i : Nat} {v : Option V} {vs : List Nat} (hi : i ∈ vs) : L2.wipe (σ.set i v) vs = L2.wipe σ vs := by
  apply List.ext_getElem?
  intro j
  by_cases hj : j ∈ vs
  · exact wipe_in (by simp) hj
  · rw [L2.wipe_out hj, L2.wipe_out hj, List.getElem?_set_ne (fun e => hj (by subst e; exact hi))]
/-- only the locks in Z count -/
def Wd.onZ (w : Wd) (Z : Addr → Prop) : Wd := { w with L := fun a => w.L a ∧ Z a }
theorem Le.onZ {w w' : Wd} {H H' : Hp} (e : Le w H w' H') (Z : Addr → Prop) : Le (w.onZ Z) H w' H' := ⟨e.F, fun a z => e.L a z.1, e.m, e.hF, fun a o z => e.hL a o z.1, e.tup, e.frz⟩
theorem Le.onZ_trans {w w1 w2 : Wd} {H H1 H2 : Hp} {Z : Addr → Prop} (a : Le (w.onZ Z) H w1 H1) (b : Le (w1.onZ Z) H1 w2 H2) : Le (w.onZ Z) H w2 H2 :=
  ⟨fun x h => b.F x (a.F x h), fun x h => b.L x ⟨a.L x h, h.2⟩, fun r x h => b.m r x (a.m r x h), fun x o f h => b.hF x o (a.F x f) (a.hF x o f h), fun x o f h => b.hL x o ⟨a.L x f, f.2⟩ (a.hL x o f h),
   fun x xs h => b.tup x xs (a.tup x xs h), fun x o u h => b.frz x o u (a.frz x o u h)⟩
theorem Le.thenZ {w0 w w' : Wd} {H0 H H' : Hp} (a : Le w0 H0 w H) (b : Le (w.onZ w0.L) H w' H') : Le w0 H0 w' H' :=
  ⟨fun x h => b.F x (a.F x h), fun x h => b.L x ⟨a.L x h, h⟩, fun r x h => b.m r x (a.m r x h), fun x o f h => b.hF x o (a.F x f) (a.hF x o f h), fun x o f h => b.hL x o ⟨a.L x f, f⟩ (a.hL x o f h),
   fun x xs h => b.tup x xs (a.tup x xs h), fun x o u h => b.frz x o u (a.frz x o u h)⟩
theorem soft_onZ {G : Gx} {w : Wd} {H : Hp} {Z : Addr → Prop} : Soft G w H (w.onZ Z) H := ⟨fun _ z => z, fun _ _ z => z, fun _ _ z => z, fun _ _ _ z => z, fun _ _ _ _ z => z, fun _ _ _ _ z => z, fun _ _ _ _ z => z, fun _ _ _ _ _ z => z⟩
/-- which locks count: all (a target of names alone), or those in Z -/
def ZF (fl : Bool) (Z : Addr → Prop) : Addr → Prop := fun a => fl = true ∨ Z a
def tG (G : Gx) (fl : Bool) (g : Tg) (ns : List Nat) : TG := fun v σ H Q => ∃ Z w ρ h d ρ' h', SRel G Z w H ρ σ ∧ HRel G w H h ∧ Rep G w H v d ∧ g d ρ h = some (ρ', h') ∧ ∀ σ' w' H', Le (w.onZ (ZF fl Z)) H w' H' → HRel G w' H' h' → SRel G Z w' H' ρ' σ' → (∀ vs, (∀ i ∈ ns, i ∈ vs) → L2.wipe σ' vs = L2.wipe σ vs) → Q σ' H'
def tGs (G : Gx) (fl : Bool) (g : Tgs) (ns : List Nat) : TGs := fun vs σ H Q => ∃ Z w ρ h ds ρ' h', SRel G Z w H ρ σ ∧ HRel G w H h ∧ Reps G w H vs ds ∧ g ds ρ h = some (ρ', h') ∧ ∀ σ' w' H', Le (w.onZ (ZF fl Z)) H w' H' → HRel G w' H' h' → SRel G Z w' H' ρ' σ' → (∀ vs, (∀ i ∈ ns, i ∈ vs) → L2.wipe σ' vs = L2.wipe σ vs) → Q σ' H'
abbrev SG (X : Cx) (T : Tb) (fl : Bool) (e : Expr) (g : Tg) (ns : List Nat) : Prop := PG X e (tG (gx X T) fl g ns)
abbrev SGs (X : Cx) (T : Tb) (fl : Bool) (e : List Expr) (g : Tgs) (ns : List Nat) : Prop := PGs X e (tGs (gx X T) fl g ns)
theorem Le.ofZF {w w' : Wd} {H H' : Hp} {Z : Addr → Prop} (e : Le (w.onZ (ZF false Z)) H w' H') : Le (w.onZ Z) H w' H' := ⟨e.F, fun a z => e.L a ⟨z.1, .inr z.2⟩, e.m, e.hF, fun a o z => e.hL a o ⟨z.1, .inr z.2⟩, e.tup, e.frz⟩
theorem Le.ofZT {w w' : Wd} {H H' : Hp} {Z : Addr → Prop} (e : Le (w.onZ (ZF true Z)) H w' H') : Le w H w' H' := ⟨e.F, fun a z => e.L a ⟨z, .inl rfl⟩, e.m, e.hF, fun a o z => e.hL a o ⟨z, .inl rfl⟩, e.tup, e.frz⟩
theorem pg_imp {X : Cx} {e : Expr} {t t' : TG} (h : PG X e t) (k : ∀ v σ H Q, t' v σ H Q → t v σ H Q) : PG X e t' := ⟨fun pins s σ H v u Q I r q => h.run pins s σ H v u Q I r (k v σ H Q q)⟩
theorem pgs_imp {X : Cx} {e : List Expr} {t t' : TGs} (h : PGs X e t) (k : ∀ v σ H Q, t' v σ H Q → t v σ H Q) : PGs X e t' := ⟨fun pins s σ H v u Q I r q => h.run pins s σ H v u Q I r (k v σ H Q q)⟩
def gSlot (i : Nat) : Tg := fun d ρ h => some (ρ.set i (.v d), h)
def gsNil : Tgs := fun ds ρ h => match ds with
  | [] => some (ρ, h)
  | _ => none
def gsCons (g : Tg) (gs : Tgs) : Tgs := fun ds ρ h => match ds with
  | d :: ds => match g d ρ h with
    | some (ρ1, h1) => gs ds ρ1 h1
    | none => none
  | [] => none
def gItems (n : Nat) (gs : Tgs) : Tg := fun d ρ h => match d with
  | .tup ds => if ds.length = n then gs ds ρ h else none
  | .kup ds => if ds.length = n then gs ds ρ h else none
  | .lst ds => if ds.length = n then gs ds ρ h else none
  | _ => none
section
variable {X : Cx} {T : Tb} {e : Expr} {es : List Expr} {g : Tg} {gs : Tgs} {pos : Pos} {n kk : Nat} {ns ns' : List Nat} {fl : Bool}
theorem sg_name {i : Nat} {x : Str} (hN : X.N.Nodup) (hi : X.N[i]? = some x := by rfl) (hx : Loc X.env.scope x := by first | exact Or.inl rfl | exact Or.inr rfl)
    (hf : X.fn x = true ∨ X.env.scope.names.lookup x = some .local := by first | exact .inl rfl | exact .inr rfl | assumption) : SG X T fl (.Name x pos) (gSlot i) [i] :=
  pg_imp (pg_name hN hi hx hf) fun v σ H Q ⟨Z, w, ρ, h, d, ρ', h', S, R, r, e, k⟩ => by
    cases e
    exact k _ w H ((Le.refl _ _).onZ _) R (S.setv r) fun vs hv => wipe_set (hv i List.mem_cons_self)
theorem sgs_nil : SGs X T fl [] gsNil [] := pgs_imp pgs_nil fun vs σ H Q ⟨Z, w, ρ, h, ds, ρ', h', S, R, r, e, k⟩ => by
  cases r with
  | nil => cases e; exact ⟨rfl, k _ w H ((Le.refl _ _).onZ _) R S fun _ _ => rfl⟩
  | cons a b => cases e
theorem gsCons_go {G : Gx} {vs : List V} {σ : L2.St} {H : Hp} {Q : L2.St → Hp → Prop} (q : tGs G fl (gsCons g gs) (ns ++ ns') vs σ H Q) : gCons (tG G fl g ns) (tGs G fl gs ns') vs σ H Q := by
  obtain ⟨Z, w, ρ, h, ds, ρ', h', S, R, r, e, k⟩ := q
  cases r with
  | nil => cases e
  | @cons v d vs ds a b =>
    simp only [gsCons] at e
    split at e
    · rename_i ρ1 h1 e1
      exact ⟨_, _, rfl, Z, w, ρ, h, _, ρ1, h1, S, R, a, e1, fun σ1 w1 H1 l1 R1 S1 v1 => ⟨Z, w1, ρ1, h1, _, ρ', h', S1, R1, (b.soft soft_onZ).le l1, e, fun σ2 w2 H2 l2 R2 S2 v2 => k σ2 w2 H2 (l1.onZ_trans l2) R2 S2 fun vs hv => (v2 vs fun i hi => hv i (List.mem_append_right _ hi)).trans (v1 vs fun i hi => hv i (List.mem_append_left _ hi))⟩⟩
    · cases e
theorem sgs_cons (h1 : SG X T fl e g ns) (h2 : SGs X T fl es gs ns') (hs : (assignEach (e :: es) X.env).map (·.2) = assign e X.env :: (assignEach es X.env).map (·.2) := by rfl) : SGs X T fl (e :: es) (gsCons g gs) (ns ++ ns') :=
  pgs_imp (pgs_cons h1 h2 hs) fun vs σ H Q q => gsCons_go q
/-- a tuple or a list is taken apart -/
theorem pg_seq {k : Nat} {t : TGs} (hc : X.calm = true) (h : PGs X es t) (hn : (assignEach es X.env).length = n) (hst : (assignEach es X.env).findIdx? (·.1) = none) :
    PG X (.Tuple es k pos) (fun v σ H Q => gTup X.K n t v σ H Q ∨ gUnl X.K n t v σ H Q) :=
  ⟨fun pins s σ H v u Q I r hw => hw.elim ((pg_tup hc h hn hst).run pins s σ H v u Q I r) ((pg_unl hc h hn hst).run pins s σ H v u Q I r)⟩
theorem sg_tup (hc : X.calm = true) (h : SGs X T fl es gs ns) (hn : (assignEach es X.env).length = n := by rfl) (hst : (assignEach es X.env).findIdx? (·.1) = none := by rfl) : SG X T fl (.Tuple es kk pos) (gItems n gs) ns :=
  pg_imp (pg_seq hc h hn hst) fun v σ H Q ⟨Z, w, ρ, h, d, ρ', h', S, R, r, e, k⟩ => by
    cases r with
    | @tup a xs ds h1 r1 =>
      have e' : (if ds.length = n then gs ds ρ h else none) = some (ρ', h') := e
      by_cases hl : ds.length = n
      · rw [if_pos hl] at e'
        exact .inl ⟨a, xs, rfl, .of h1, r1.length.trans hl, Z, w, ρ, h, ds, ρ', h', S, R, r1, e', k⟩
      · rw [if_neg hl] at e'; cases e'
    | @kup a xs ds h1 r1 =>
      have e' : (if ds.length = n then gs ds ρ h else none) = some (ρ', h') := e
      by_cases hl : ds.length = n
      · rw [if_pos hl] at e'
        exact .inl ⟨a, xs, rfl, h1 _, r1.length.trans hl, Z, w, ρ, h, ds, ρ', h', S, R, r1, e', k⟩
      · rw [if_neg hl] at e'; cases e'
    | @lst a xs ds f h1 r1 =>
      have e' : (if ds.length = n then gs ds ρ h else none) = some (ρ', h') := e
      by_cases hl : ds.length = n
      · rw [if_pos hl] at e'
        exact .inr ⟨a, xs, rfl, .of h1, r1.length.trans hl, Z, w, ρ, h, ds, ρ', h', S, R, r1, e', k⟩
      · rw [if_neg hl] at e'; cases e'
    | _ => cases e
end

def Wd.noL (w : Wd) : Wd := { w with L := fun _ => False }
theorem Le.noL (w : Wd) (H : Hp) : Le w.noL H w H := ⟨fun _ z => z, fun _ z => z.elim, fun _ _ z => z, fun _ _ _ z => z, fun _ _ z => z.elim, fun _ _ z => z, fun _ _ _ z => z⟩
theorem Le.dropL {w w' : Wd} {H H' : Hp} (e : Le w H w' H') : Le w.noL H w' H' := (Le.noL w H).trans e
/-- the iterator hands out what the list says, as long as what stood stands -/
def Feeds (G : Gx) (w : Wd) (H : Hp) (J : It) (ds : List D) : Prop := ∀ w1 H1 h1, Le w.noL H w1 H1 → HRel G w1 H1 h1 → ∀ i : Nat,
  (∀ x, ds[i]? = some x → J.go i H1 ∧ ∀ v H2, J.yld i H1 v H2 → ∃ w2, Le w1 H1 w2 H2 ∧ HRel G w2 H2 h1 ∧ Rep G w2 H2 v x) ∧ (ds.length ≤ i → J.stop i H1)
def tIt (G : Gx) (Z : Addr → Prop) (W : WX) (f : Den (List D)) : TI := fun σ H R => ∃ w ρ h, SRel G Z w H ρ σ ∧ HRel G w H h ∧ Post G w H (f ρ h) (fun w1 H1 _ ds => ∀ J, Feeds G w1 H1 J ds → R J H1) (fun c d H' => W c d σ H')
abbrev SI (X : Cx) (T : Tb) (Z : Addr → Prop) (W : WX) (tg iter : Expr) (f : Den (List D)) : Prop := PI X tg iter (tIt (gx X T) Z W f)
theorem pi_imp {X : Cx} {tg e : Expr} {t t' : TI} (h : PI X tg e t) (k : ∀ σ H Q, t' σ H Q → t σ H Q) : PI X tg e t' := ⟨fun pins s σ H R I q => h.run pins s σ H R I (k σ H R q)⟩
def loopS (tg : Tg) (b : SDen) : List D → Rho → Hl → SRes
  | [], ρ, h => .ok .next ρ h
  | d :: ds, ρ, h => match tg d ρ h with
    | none => .bad
    | some (ρ1, h1) => match b ρ1 h1 with
      | .ok .next ρ2 h2 => loopS tg b ds ρ2 h2
      | .ok .cont ρ2 h2 => loopS tg b ds ρ2 h2
      | .ok .brk ρ2 h2 => .ok .next ρ2 h2
      | .ok (.ret d) ρ2 h2 => .ok (.ret d) ρ2 h2
      | .exc c fs ρ2 h2 => .exc c fs ρ2 h2
      | .bad => .bad
def sFor (f : Den (List D)) (tg : Tg) (b : SDen) : SDen := fun ρ h => sBind (f ρ h) ρ fun ds h1 => loopS tg b ds ρ h1
/-- the entry's locks with what stands now -/
def Wd.mid (w w0 : Wd) : Wd := { w with L := w0.L }
theorem Le.mid {w w0 : Wd} {H H0 : Hp} (e : Le w0 H0 w H) : Le w0 H0 (w.mid w0) H := ⟨e.F, fun _ z => z, e.m, e.hF, e.hL, e.tup, e.frz⟩
theorem Le.ofMid {w w0 : Wd} {H H0 : Hp} (e : Le w0 H0 w H) : Le (w.mid w0) H w H := ⟨fun _ z => z, e.L, fun _ _ z => z, fun _ _ _ z => z, fun _ _ _ z => z, fun _ _ z => z, fun _ _ _ z => z⟩
theorem for_go {G : Gx} {w0 : Wd} {H0 : Hp} {W : WX} {f : Den (List D)} {tg : Tg} {ns : List Nat} {b : SDen} {tb : TS} {Dn : Ends} {σ : L2.St} {H : Hp} (hb : ∀ w0 H0, ∀ Dn σ H, tS G w0 H0 W b Dn σ H → tb Dn σ H) (q : tS G w0 H0 W (sFor f tg b) Dn σ H) :
    tFor (tIt G w0.L W f) (tG G false tg ns) tb Dn σ H := by
  obtain ⟨w, ρ, h, S, R, L, p⟩ := q
  refine ⟨w, ρ, h, S, R, ?_⟩
  have p' := Post.of_s S L p
  refine p'.imp fun w1 H1 h1 ds e1 R1 p1 J FJ => ?_
  have S1 := S.le e1
  have L1 := L.trans e1
  refine ⟨fun i m σ' H' => m = ds.length - i ∧ ∃ w' ρ' h', SRel G w0.L w' H' ρ' σ' ∧ HRel G w' H' h' ∧ Le (w1.mid w0) H1 w' H' ∧ PostS G w0 H0 W (loopS tg b (ds.drop i) ρ' h') Dn, ⟨ds.length, rfl, w1, ρ, h1, S1, R1, Le.ofMid L1, p1⟩, ?_⟩
  rintro i m σ' H' ⟨rfl, w', ρ', h', S', R', L', p2⟩
  have L0' : Le w0 H0 w' H' := (Le.mid L1).trans L'
  have F' := FJ w' H' h' ⟨L'.F, fun _ z => z.elim, L'.m, L'.hF, fun _ _ z => z.elim, L'.tup, L'.frz⟩ R' i
  cases e : ds[i]? with
  | none =>
    have hi : ds.length ≤ i := List.getElem?_eq_none_iff.mp e
    rw [List.drop_of_length_le hi] at p2
    exact .inl ⟨F'.2 hi, p2.now S' R' L0'⟩
  | some x =>
    have hi : i < ds.length := (List.getElem?_eq_some_iff.mp e).1
    have ed : ds.drop i = x :: ds.drop (i + 1) := by
      rw [List.drop_eq_getElem_cons hi]
      congr 1
      exact (List.getElem?_eq_some_iff.mp e).2
    rw [ed] at p2
    obtain ⟨go, yld⟩ := F'.1 x e
    refine .inr ⟨go, fun σ2 H2 => ∃ w2 ρ2 h2, SRel G w0.L w2 H2 ρ2 σ2 ∧ HRel G w2 H2 h2 ∧ Le (w1.mid w0) H1 w2 H2 ∧ PostS G w0 H0 W (loopS tg b (ds.drop (i + 1)) ρ2 h2) Dn, fun σ2 H2 z => ⟨ds.length - (i + 1), by omega, rfl, z⟩, fun v H2 y => ?_⟩
    obtain ⟨w2, L2, R2, r2⟩ := yld v H2 y
    cases et : tg x ρ' h' with
    | none => unfold loopS at p2; rw [et] at p2; exact p2.elim
    | some q2 =>
      obtain ⟨ρ2, hh⟩ := q2
      refine ⟨w0.L, w2, ρ', h', x, ρ2, hh, S'.le L2, R2, r2, et, fun σ3 w3 H3 L3 R3 S3 _ => ?_⟩
      have L3' : Le (w1.mid w0) H1 w3 H3 := (L'.trans L2).thenZ (L3.ofZF)
      -- the body, seen from the loop's start
      refine hb (w1.mid w0) H1 _ σ3 H3 ⟨w3, ρ2, hh, S3, R3, L3', ?_⟩
      unfold loopS at p2
      rw [et] at p2
      simp only at p2
      revert p2
      cases b ρ2 hh with
      | ok fl ρ4 h4 =>
        cases fl with
        | next => exact fun p2 w4 σ4 H4 L4 R4 S4 => ⟨w4, ρ4, h4, S4, R4, L4, p2⟩
        | cont => exact fun p2 w4 σ4 H4 L4 R4 S4 => ⟨w4, ρ4, h4, S4, R4, L4, p2⟩
        | brk => exact fun p2 w4 σ4 H4 L4 R4 S4 => p2.now S4 R4 ((Le.mid L1).trans L4)
        | ret d => exact fun p2 w4 σ4 H4 L4 R4 S4 => p2 w4 σ4 H4 ((Le.mid L1).trans L4) R4 S4
      | exc c fs ρ4 h4 => exact fun p2 w4 σ4 H4 C dx vs L4 R4 S4 => p2 w4 σ4 H4 C dx vs ((Le.mid L1).trans L4) R4 S4
      | bad => exact fun p2 => p2
section
variable {X : Cx} {T : Tb} {W : WX} {tg iter : Expr} {body : List Stmt} {f : Den (List D)} {g : Tg} {b : SDen} {pos : Pos} {ns : List Nat}
theorem ss_for (hp : PassesOwn (model X.prog X.w) X.A X.env X.xe) (hc : X.calm = true) (hi : ∀ Z, SI X T Z W tg iter f) (hg : SG X T false tg g ns) (hb : SB X T W body b)
    (hs : ∀ x, foldedSetIterable iter X.env x = pure x := by intro _; rfl) : SS X T W (.For tg iter body [] pos) (sFor f g b) := fun w0 H0 =>
  ps_imp (ps_for (tb := fun Dn σ H => ∃ w0 H0, tS (gx X T) w0 H0 W b Dn σ H) hp hc (hi w0.L) hg ⟨fun pins s σ H Dn I ⟨w0, H0, q⟩ => (hb w0 H0).run pins s σ H Dn I q⟩ hs) fun Dn σ H q =>
    for_go (fun w0 H0 Dn σ H z => ⟨w0, H0, z⟩) q
end

def wipeR (ρ : Rho) : List Nat → Rho
  | [] => ρ
  | v :: vs => (wipeR ρ vs).set v .no
theorem SRel.drop {G : Gx} {Z : Addr → Prop} {w : Wd} {H : Hp} {ρ : Rho} {σ : L2.St} (S : SRel G Z w H ρ σ) (i : Nat) : SRel G Z w H (ρ.set i .no) (σ.set i none) where
  len := by rw [List.length_set, List.length_set]; exact S.len
  val := fun j e h => by
    rw [List.getElem?_set] at h ⊢
    by_cases hj : i = j
    · subst hj; rw [if_pos rfl] at h; split at h <;> cases h
    · rw [if_neg hj] at h ⊢; exact S.val j e h
  own := fun j e h => by
    rw [List.getElem?_set] at h ⊢
    by_cases hj : i = j
    · subst hj; rw [if_pos rfl] at h; split at h <;> cases h
    · rw [if_neg hj] at h ⊢; exact S.own j e h
  exn := fun j c fs h => by
    rw [List.getElem?_set] at h ⊢
    by_cases hj : i = j
    · subst hj; rw [if_pos rfl] at h; split at h <;> cases h
    · rw [if_neg hj] at h ⊢; exact S.exn j c fs h
  sep := fun j k e e' a h1 h2 h3 h4 => by
    rw [List.getElem?_set] at h1 h2 h3 h4
    by_cases hj : i = j
    · subst hj; rw [if_pos rfl] at h1; split at h1 <;> cases h1
    · by_cases hk : i = k
      · subst hk; rw [if_pos rfl] at h2; split at h2 <;> cases h2
      · rw [if_neg hj] at h1 h3
        rw [if_neg hk] at h2 h4
        exact S.sep j k e e' a h1 h2 h3 h4
theorem SRel.wipe {G : Gx} {Z : Addr → Prop} {w : Wd} {H : Hp} {ρ : Rho} {σ : L2.St} (S : SRel G Z w H ρ σ) : ∀ vs, SRel G Z w H (wipeR ρ vs) (L2.wipe σ vs)
  | [] => S
  | v :: vs => (SRel.wipe S vs).drop v
/-- the block's own world: nothing is raised out of it -/
def cmpS (tg : Tg) (c : Den Bool) (e : Den D) (ρ : Rho) : List D → List D → Hl → Res (List D)
  | [], acc, h => .ok acc h
  | d :: ds, acc, h => match tg d ρ h with
    | none => .bad
    | some (ρ1, h0) => match c ρ1 h0 with
      | .ok true h1 => match e ρ1 h1 with
        | .ok x h2 => if acc.length < 16777216 then cmpS tg c e ρ ds (acc ++ [x]) h2 else .bad
        | _ => .bad
      | .ok false h1 => cmpS tg c e ρ ds acc h1
      | _ => .bad
def dComp (vs : List Nat) (f : Den (List D)) (tg : Tg) (c : Den Bool) (e : Den D) : Den D := fun ρ h => (f ρ h).bind fun ds h1 => (cmpS tg c e (wipeR ρ vs) ds [] h1).bind fun xs h2 => .ok (.lst xs) h2
def dYes : Den Bool := fun _ h => .ok true h
/-- what is wanted where nothing may be raised -/
abbrev W0 : WX := fun _ _ _ _ => False
theorem reps_snoc {G : Gx} {w : Wd} {H : Hp} {xs : List V} {ds : List D} {v : V} {d : D} (r : Reps G w H xs ds) (q : Rep G w H v d) : Reps G w H (xs ++ [v]) (ds ++ [d]) := r.append (.cons q .nil)
end Pf
end
section
set_option maxRecDepth 100000
namespace PySem
open Sem (wp)
theorem pf_enumerate_newT (l : Addr) (items : Array Value) :
    Meets (Builtin.«enumerate.__new__» ⟨[.type "enumerate", .ref l], []⟩) (fun _ R s => s.heap.IsTuple l items ∧
      R (.ok (.ret (.ref (s.heap.push { cls := .type "tuple_iterator", data := .fields #[.ref l, .int 0 0] }).objs.size)))
        { s with heap := (s.heap.push { cls := .type "tuple_iterator", data := .fields #[.ref l, .int 0 0] }).push { cls := .type "enumerate", data := .fields #[.none, .bool false, .ref s.heap.objs.size, rawInt 0, .none, .none] } }) :=
  .of_wp fun prog w A R s h => by
    obtain ⟨hp, g, d, tk, os⟩ := s; obtain ⟨hl, h⟩ := h
    have hsub := sub_enumerate
    have q1 : ∀ {A' : Around} {E : Value → Shared → Prop} {Q : Value → Shared → Prop}, Q (.ref hp.objs.size) ⟨hp.push { cls := .type "tuple_iterator", data := .fields #[.ref l, .int 0 0] }, g, d, tk, os⟩ → wpAny (model prog w) A' (pyIter (.ref l)) Q E ⟨hp, g, d, tk, os⟩ :=
      fun q => wpAny_pyIter_tuple (s := ⟨hp, g, d, tk, os⟩) hl q
    wp_walk using q1
    refine wpAny_stack_any fun st => wpAny_pure ?_
    split
    · rename_i c _ _ _ _ _
      cases (c == Value.type "enumerate")
      · wp_walk using q1
        exact ⟨_, rfl, h⟩
      · wp_walk using q1
        exact ⟨_, rfl, h⟩
    · wp_walk using q1
      exact ⟨_, rfl, h⟩
section
variable {prog : Program} {w : World} {A : Around} {E : Value → Shared → Prop} {s : Shared}
theorem pf_call_enumerate_tup {l : Addr} {items : Array Value} {Q : Value → Shared → Prop} (hL : s.heap.IsTuple l items)
    (h : ∀ h', IsEnum h' (s.heap.objs.size + 1) s.heap.objs.size 0 .none → h'.IsTupleIter s.heap.objs.size l 0 → h'.objs.size = s.heap.objs.size + 2 →
      (∀ b o, s.heap.get? b = some o → h'.get? b = some o) → Q (.ref (s.heap.objs.size + 1)) { s with heap := h' }) :
    wpAny (model prog w) A (call (.type "enumerate") [.ref l]) Q E s := by
  refine callType_new F.called_enumerate (by decide) (F.typeCall_enumerate_1 _) (F.newCall_enumerate_1 _) (fun obj => F.args_object_init_2 obj _) F.entry_enumerate_new
    (pf_enumerate_newT l items) ⟨hL, ?_⟩
  have hz : (s.heap.push { cls := .type "tuple_iterator", data := .fields #[.ref l, .int 0 0] }).objs.size = s.heap.objs.size + 1 := Heap.size_push ..
  show _ ∧ _
  rw [hz]
  have he : IsEnum ((s.heap.push { cls := .type "tuple_iterator", data := .fields #[.ref l, .int 0 0] }).push
      { cls := .type "enumerate", data := .fields #[.none, .bool false, .ref s.heap.objs.size, rawInt 0, .none, .none] }) (s.heap.objs.size + 1) s.heap.objs.size 0 .none := by
    have := Heap.get?_push_size (s.heap.push { cls := .type "tuple_iterator", data := .fields #[.ref l, .int 0 0] })
      (o := { cls := .type "enumerate", data := .fields #[.none, .bool false, .ref s.heap.objs.size, rawInt 0, .none, .none] }) rfl
    rw [hz] at this; exact this
  refine ⟨⟨_, he, rfl⟩, h _ he ⟨_, Heap.get?_push_of_some _ (Heap.get?_push_size _ rfl), rfl, rfl⟩ (by rw [Heap.size_push, hz]) fun b o x => Heap.get?_push_of_some _ (Heap.get?_push_of_some _ x)⟩
end
end PySem
namespace Pf
open PySem PySem.Spec PyProof.Rows L2 LamX

def IteT (K : PySem.W.Frag) (a : Addr) : It :=
  ⟨fun i H => ∃ (xs : List V) (x : V), SqT K H a xs ∧ xs[i]? = some x, fun i H v H' => ∃ T x, v = .ref T ∧ H T = none ∧ H' = upd H T (.tup [.int (i : Nat), x]) ∧ ∀ xs, SqT K H a xs → xs[i]? = some x, fun i H => ∃ xs : List V, SqT K H a xs ∧ xs.length ≤ i⟩
theorem turn_enumT {P : Program} {w : World} {K : PySem.W.Frag} {elts : List Expr} {kk : Nat} {tpos : Pos} (a e it : Addr) (hai : a ≠ it) (hae : a ≠ e) :
    Turn P w K (.Tuple elts kk tpos) (IteT K a) [e, it] e (fun i h => (∃ old, IsEnum h e it ((i : Nat) : Int) old) ∧ h.IsTupleIter it a i ∧ e ≠ it) where
  mem := by simp
  obj := fun i h st b hb => by
    obtain ⟨⟨old, he⟩, ⟨o, ho, hc, hd⟩, _⟩ := st
    have e' : b = e ∨ b = it := by simpa using hb
    rcases e' with z | z
    · rw [z]; exact ⟨_, he, fun v q => nomatch q⟩
    · rw [z]; exact ⟨o, ho, fun v q => by rw [hd] at q; cases q⟩
  keep := fun i h h' st k => let ⟨⟨old, he⟩, hi, hne⟩ := st; ⟨⟨old, k e (by simp) _ he⟩, hi.at fun o q => k it (by simp) o q, hne⟩
  item := by
    intro X hP hw hK hc i pins s σ H E I hf st hg
    subst hP hw hK
    obtain ⟨⟨old, he⟩, hit, hne⟩ := st
    obtain ⟨xs, x, hq, hx⟩ := hg
    obtain ⟨its, rv, p, hz⟩ := I.tuple hq
    obtain ⟨u, hu, ru⟩ := rv.get hx
    have hel : e < s.heap.objs.size := Heap.lt_size he
    have hil : it < s.heap.objs.size := by obtain ⟨_, q, _⟩ := hit; exact Heap.lt_size q
    have hlt : i < its.toArray.size := by
      have := (List.getElem?_eq_some_iff.mp hu).1
      simpa using this
    refine wpAny_pyNext_enum_itemD (Draws.tuple (A := X.A.in1) (I.ok.hd hc) it a hai its.toArray) he ⟨hit, p⟩ hlt hne (by simp; exact ⟨hne, fun z => hae z.symm⟩) fun x' h' tk hx' ho hit' hT hsz hk => ?_
    have ex : x' = u := by
      have h1 : its[i]? = some x' := by simpa using hx'
      rw [hu] at h1
      exact (Option.some.inj h1).symm
    subst ex
    refine ⟨_, rfl, wpAny_letOwnedTupleGo_enum (s := { s with heap := h', toks := tk + 1 }) ho fun h'' he' sb => ?_⟩
    have hT2 : h''.get? s.heap.objs.size = some { cls := .type "tuple", data := .seq #[.int i tk, x'] } := (sb.2 _ (Nat.ne_of_gt hel)).trans hT
    have new : ObjOk X.prog X.w (upd H s.heap.objs.size (.tup [.int (i : Nat), x])) h'' s.heap.objs.size (.tup [.int (i : Nat), x]) :=
      ⟨by show 2 ≤ sizeLine; decide, [.int i tk, x'], .cons ⟨_, rfl⟩ (.cons ru .nil), ⟨_, hT2, rfl, _, rfl⟩⟩
    have I1 : Inv X pins σ (upd H s.heap.objs.size (.tup [.int (i : Nat), x])) { s with heap := h'', toks := tk + 1 } :=
      I.turnedNew (ch := [e, it]) (fun b ob hb q => (sb.2 b (fun z => hb (by simp [z]))).trans (hk b ob (fun z => hb (by simp [z])) (fun z => hb (by simp [z])) q)) hf (Nat.le_refl _) new
    refine ⟨.ref s.heap.objs.size, _, I1, rfl, ⟨_, x, rfl, I.hok.fresh (Nat.le_refl _), rfl, fun ys hy => by rw [I.tuple_inj hy hq]; exact hx⟩, ⟨⟨x', ?_⟩, hit'.1.at fun o q => (sb.2 it (Ne.symm hne)).trans q, hne⟩, fun b hb => ?_⟩
    · have e1 : ((i + 1 : Nat) : Int) = (i : Int) + 1 := by omega
      rw [e1]; exact he'
    · have hb' : b < s.heap.objs.size := by
        have e' : b = e ∨ b = it := by simpa using hb
        rcases e' with z | z
        · rw [z]; exact hel
        · rw [z]; exact hil
      rw [upd_ne (Nat.ne_of_lt hb')]
      exact (hf b hb).1
  done := by
    intro X hP hw hK hc i pins s σ H E I hf st hg
    subst hP hw hK
    obtain ⟨⟨old, he⟩, hit, hne⟩ := st
    obtain ⟨xs, hq, hx⟩ := hg
    obtain ⟨its, rv, p, hz⟩ := I.tuple hq
    obtain ⟨f0, f1, f2, f3, f4, f5⟩ := hf it (by simp)
    have hl := rv.length
    have hT : s.TypeIs (.ref e) "enumerate" := ⟨_, he, rfl⟩
    unfold pyNext
    refine wpAny_bind (wpAny_attempt (wpAny_callSpecial?_slot (name := Str.ofString "__next__") hT F.slot_enumerate_next
      (wpAny_call_entry F.slot_enumerate_next hT F.entry_enumerate_next ?_ (F.args_enumerate_next_1 _))))
    show wpAny _ _ (field (.ref e) 2 >>= _) _ _ _
    refine wpAny_bind (wpAny_field he rfl (x := .ref it) rfl ?_)
    refine wpAny_bind (wpAny_nextOf_tuple_end (A := X.A.in1) (I.ok.hd hc) hit p (by simp; omega) fun h' x he' hx' => ?_)
    obtain ⟨o, ho, hc'⟩ := hx'
    refine wpAny_bind (wpAny_isInstance (T := "StopIteration") (b := true) ⟨o, ho, hc'⟩ isSubtype_stop ?_)
    exact wpAny_pure ⟨rfl, I.turned (t' := s.toks) (fun b o hb q => he' b o hb q) f0 f1 f3 f4 f5⟩
  self := fun A i s Q E st h => let ⟨⟨_, he⟩, _⟩ := st; wpAny_pyIter_enum he h

def iAny (K : PySem.W.Frag) (tl : TE) : TI := fun σ H R => tl σ H fun x H1 =>
  (∃ a, x = .ref a ∧ (∃ xs, SqL K H1 a xs) ∧ R (Itl K a) H1) ∨ (∃ a, x = .ref a ∧ (∃ xs, SqT K H1 a xs) ∧ R (Itt K a) H1) ∨ (∃ z, x = .str z ∧ R (Its z) H1)
theorem pi_any {X : Cx} {tg l : Expr} {tl : TE} (hl : PE X l tl) : PI X tg l (iAny X.K tl) := by
  refine ⟨fun pins s σ H R I h => ?_⟩
  refine thn (hl.run pins s σ H _ I h) fun v s1 ⟨x, H1, I1, r1, q1⟩ => ?_
  rcases q1 with ⟨a, e, ⟨xs, hq⟩, q⟩ | ⟨a, e, ⟨xs, hq⟩, q⟩ | ⟨z, e, q⟩
  · subst e
    cases r1
    obtain ⟨its, rv, p, hz⟩ := I1.list hq
    refine wpAny_pyIter_list p.isList ?_
    exact pi_one (tk := s1.toks) I1 _ (turn_list a _) ⟨_, Heap.get?_push_size _ rfl, rfl, rfl⟩ q
  · subst e
    cases r1
    obtain ⟨its, rv, p, hz⟩ := I1.tuple hq
    refine wpAny_pyIter_tuple (show s1.heap.IsTuple a its.toArray from p) ?_
    exact pi_one (tk := s1.toks) I1 _ (turn_tuple a _) ⟨_, Heap.get?_push_size _ rfl, rfl, rfl⟩ q
  · subst e
    obtain ⟨t, rfl⟩ := r1
    cases ha : z.cps.all (· < 128)
    · exact wpAny_pyIter_wide ha (pi_one (tk := s1.toks) I1 _ (turn_str _ z t "str_iterator" (.inr rfl)) ⟨_, Heap.get?_push_size _ rfl, rfl, rfl⟩ q)
    · exact wpAny_pyIter_ascii ha (pi_one (tk := s1.toks) I1 _ (turn_str _ z t "str_ascii_iterator" (.inl rfl)) ⟨_, Heap.get?_push_size _ rfl, rfl, rfl⟩ q)
def iEnumA (K : PySem.W.Frag) (ta : TA) : TI := fun σ H R => ta σ H fun vs H1 => ∃ a xs, vs = [.ref a] ∧ ((SqL K H1 a xs ∧ R (Ite K a) H1) ∨ (SqT K H1 a xs ∧ R (IteT K a) H1))
theorem pi_enumA {X : Cx} {e : Expr} {ta : TA} {p pos tpos : Pos} {elts : List Expr} {kk : Nat} (hg : Gl X "enumerate") (hm : X.mg "enumerate" = none) (ha : PA X [e] ta) (hs : starEach [e] X.env = [(false, eval e X.env)] := by rfl) :
    PI X (.Tuple elts kk tpos) (.Call (.Name "enumerate" p) [e] [] pos) (iEnumA X.K ta) := by
  refine ⟨fun pins s σ H R I h => ?_⟩
  refine Call_ (ld_blt I hg hm boot_enumerate (PyProof.Rows.callWith_type1 (thn (ha.run pos pins s σ H _ I h) fun us s1 ⟨vs, H1, I1, r1, q1⟩ => ?_) hs rfl))
  obtain ⟨a, xs, ex, q1⟩ := q1
  subst ex
  cases r1 with
  | cons r rr =>
    cases rr
    cases r
    have fin : ∀ {h' : Heap} {J : It} {tn : Nat → Heap → Prop}, (∀ b o, s1.heap.get? b = some o → h'.get? b = some o) → Turn X.prog X.w X.K (.Tuple elts kk tpos) J [s1.heap.objs.size + 1, s1.heap.objs.size] (s1.heap.objs.size + 1) tn → tn 0 h' → R J H1 →
        PIE X pins σ (.Tuple elts kk tpos) R (.ref (s1.heap.objs.size + 1)) { s1 with heap := h' } := fun {h' J tn} hk T st q => by
      have I2 : Inv X pins σ H1 { s1 with heap := h' } := I1.kept (t' := s1.toks) hk
      refine ⟨s1.heap.objs.size + 1, [s1.heap.objs.size + 1, s1.heap.objs.size], _, _, H1, rfl, I2, T, st, fun b hb => ?_, q⟩
      have e' : b = s1.heap.objs.size + 1 ∨ b = s1.heap.objs.size := by simpa using hb
      have hle : s1.heap.objs.size ≤ b := by
        rcases e' with z | z
        · rw [z]; exact Nat.le_succ _
        · rw [z]; exact Nat.le_refl _
      exact I1.fpOk hle (I1.hok.fresh hle)
    rcases q1 with ⟨hq, q⟩ | ⟨hq, q⟩
    · obtain ⟨its, rv, p', hz⟩ := I1.list hq
      exact call_enumerate_list p'.isList fun h' he hit hsz hk => wpAny_pyIter_enum he (fin hk (turn_enum a (s1.heap.objs.size + 1) s1.heap.objs.size) ⟨⟨.none, he⟩, hit, Nat.succ_ne_self _⟩ q)
    · obtain ⟨its, rv, p', hz⟩ := I1.tuple hq
      have la : a < s1.heap.objs.size := by obtain ⟨o, e, _⟩ := p'; exact Heap.lt_size e
      exact pf_call_enumerate_tup p' fun h' he hit hsz hk => wpAny_pyIter_enum he (fin hk (turn_enumT a (s1.heap.objs.size + 1) s1.heap.objs.size (Nat.ne_of_lt la) (Nat.ne_of_lt (Nat.lt_succ_of_lt la))) ⟨⟨.none, he⟩, hit, Nat.succ_ne_self _⟩ q)

def charsD (z : Str) : List D := z.cps.toList.map fun c => .str ⟨#[c]⟩
def iterD : D → Option (List D)
  | .lst ds => some ds
  | .scr ns => some (ns.map .int)
  | .tup ds => some ds
  | .kup ds => some ds
  | .str z => some (charsD z)
  | _ => none
def isL : D → Bool
  | .lst _ => true | .scr _ => true
  | _ => false
def enumD (ds : List D) : List D := (List.range ds.length).zipWith (fun i d => .tup [.int (i : Nat), d]) ds
def zipD (ds es : List D) : List D := ds.zipWith (fun d e => .tup [d, e]) es
def rngD : List D → Option (List D)
  | [.int j] => if -(2 ^ 62) ≤ j ∧ j < 2 ^ 62 then some ((List.range j.toNat).map fun k => .int (k : Nat)) else none
  | _ => none
def rngD2 : List D → Option (List D)
  | [.int i, .int j] => if -(2 ^ 62) ≤ i ∧ i < 2 ^ 62 ∧ -(2 ^ 62) ≤ j ∧ j < 2 ^ 62 then some ((List.range (j - i).toNat).map fun k => .int (i + (k : Nat))) else none
  | _ => none
section
variable {G : Gx} {w : Wd} {H : Hp}
theorem Le.sqL {w' : Wd} {H' : Hp} (e : Le w H w' H') {a : Addr} {xs : List V} (f : w.F a) (h : H a = some (.lst xs) ∨ ∃ o, H a = some (.frz o (.lst xs))) : SqL G.K H' a xs := by
  rcases h with h | ⟨o, h⟩
  · exact .inl (.inl (e.hF a _ f h))
  · exact .inl (.inr ⟨o, e.hF a _ f h⟩)
/-- a list that stands -/
theorem feeds_L {a : Addr} {xs : List V} {ds : List D} (k : ∀ w1 H1, Le w.noL H w1 H1 → H1 a = some (.lst xs) ∨ (∃ o, H1 a = some (.frz o (.lst xs)))) (r : Reps G w.noL H xs ds) : Feeds G w H (Itl G.K a) ds := fun w1 H1 h1 e R i => by
  have hq : H1 a = some (.lst xs) ∨ ∃ o, H1 a = some (.frz o (.lst xs)) := k w1 H1 e
  have sq : SqL G.K H1 a xs := by
    rcases hq with h | ⟨o, h⟩
    · exact .inl (.inl h)
    · exact .inl (.inr ⟨o, h⟩)
  refine ⟨fun x hx => ?_, fun hi => ⟨xs, sq, by rw [r.length]; exact hi⟩⟩
  obtain ⟨u, h1', h2⟩ := r.get hx
  refine ⟨⟨xs, u, sq, h1'⟩, fun v H2 y => ?_⟩
  obtain ⟨rfl, y⟩ := y
  have e2 := y xs sq
  rw [h1'] at e2
  cases e2
  exact ⟨w1, Le.refl _ _, R, h2.le e⟩
theorem feeds_T {a : Addr} {xs : List V} {ds : List D} (k : ∀ w1 H1, Le w.noL H w1 H1 → SqT G.K H1 a xs) (r : Reps G w.noL H xs ds) : Feeds G w H (Itt G.K a) ds := fun w1 H1 h1 e R i => by
  have sq := k w1 H1 e
  refine ⟨fun x hx => ?_, fun hi => ⟨xs, sq, by rw [r.length]; exact hi⟩⟩
  obtain ⟨u, h1', h2⟩ := r.get hx
  refine ⟨⟨xs, u, sq, h1'⟩, fun v H2 y => ?_⟩
  obtain ⟨rfl, y⟩ := y
  have e2 := y xs sq
  rw [h1'] at e2
  cases e2
  exact ⟨w1, Le.refl _ _, R, h2.le e⟩
theorem soft_noL : Soft G w H w.noL H := ⟨fun _ z => z, fun _ _ z => z, fun _ _ z => z, fun _ _ _ z => z, fun _ _ _ _ z => z, fun _ _ _ _ z => z, fun _ _ _ _ z => z, fun _ _ _ _ _ z => z⟩
theorem feeds_S {z : Str} : Feeds G w H (Its z) (charsD z) := fun w1 H1 h1 e R i => by
  refine ⟨fun x hx => ?_, fun hi => ?_⟩
  · unfold charsD at hx
    rw [List.getElem?_map] at hx
    cases hc : z.cps.toList[i]? with
    | none => rw [hc] at hx; cases hx
    | some c =>
      rw [hc] at hx
      cases hx
      have hc' : z.cps[i]? = some c := by simpa using hc
      refine ⟨(Array.getElem?_eq_some_iff.mp hc').1, fun v H2 y => ?_⟩
      obtain ⟨rfl, c2, h2, rfl⟩ := y
      rw [hc'] at h2
      cases h2
      exact ⟨w1, Le.refl _ _, R, .str _⟩
  · have : (charsD z).length = z.cps.size := by simp [charsD]
    rw [this] at hi; exact hi
theorem any_go {x : V} {d : D} {ds : List D} {R : It → Hp → Prop} (r : Rep G w H x d) (h : iterD d = some ds) (q : ∀ J, Feeds G w H J ds → R J H) :
    (∃ a, x = .ref a ∧ (∃ xs, SqL G.K H a xs) ∧ R (Itl G.K a) H) ∨ (∃ a, x = .ref a ∧ (∃ xs, SqT G.K H a xs) ∧ R (Itt G.K a) H) ∨ (∃ z, x = .str z ∧ R (Its z) H) := by
  cases r with
  | @tup a xs ds' h1 r1 =>
    cases h
    exact .inr (.inl ⟨a, rfl, ⟨xs, .of h1⟩, q _ (feeds_T (fun w1 H1 e => .of (e.tup a xs h1)) (r1.soft soft_noL))⟩)
  | @kup a xs ds' h1 r1 =>
    cases h
    exact .inr (.inl ⟨a, rfl, ⟨xs, h1 _⟩, q _ (feeds_T (fun w1 H1 e => h1 _) (r1.soft soft_noL))⟩)
  | @lst a xs ds' f h1 r1 =>
    cases h
    exact .inl ⟨a, rfl, ⟨xs, .of h1⟩, q _ (feeds_L (fun w1 H1 e => .inl (e.hF a _ f h1)) (r1.soft soft_noL))⟩
  | @scr a o ns f h1 =>
    cases h
    exact .inl ⟨a, rfl, ⟨_, .inl (.inr ⟨o, h1⟩)⟩, q _ (feeds_L (fun w1 H1 e => .inr ⟨o, e.hF a _ f h1⟩) (Reps.ints ns))⟩
  | str z =>
    cases h
    exact .inr (.inr ⟨z, rfl, q _ feeds_S⟩)
  | _ => cases h
theorem feeds_R {lo : Int} {n : Nat} : Feeds G w H (Itr lo n) ((List.range n).map fun k => .int (lo + (k : Nat))) := fun w1 H1 h1 e R i => by
  refine ⟨fun x hx => ?_, fun hi => show n ≤ i by simpa using hi⟩
  rw [List.getElem?_map] at hx
  cases hc : (List.range n)[i]? with
  | none => rw [hc] at hx; cases hx
  | some c =>
    rw [hc] at hx
    cases hx
    have hi : i < n := by simpa using (List.getElem?_eq_some_iff.mp hc).1
    have hcv : c = i := by
      have := (List.getElem?_eq_some_iff.mp hc).2
      simpa using this.symm
    subst hcv
    refine ⟨hi, fun v H2 y => ?_⟩
    obtain ⟨rfl, rfl⟩ := y
    exact ⟨w1, Le.refl _ _, R, .int _⟩
/-- pairs, each a new tuple -/
theorem enumL_go {a : Addr} {xs : List V} {ds : List D} (k : ∀ w1 H1, Le w.noL H w1 H1 → SqL G.K H1 a xs) (r : Reps G w.noL H xs ds) : Feeds G w H (Ite G.K a) (enumD ds) := fun w1 H1 h1 e R i => by
  have sq := k w1 H1 e
  refine ⟨fun x hx => ?_, fun hi => ⟨xs, sq, by rw [r.length]; simpa [enumD] using hi⟩⟩
  unfold enumD at hx
  rw [List.getElem?_zipWith] at hx
  cases hd : ds[i]? with
  | none => rw [hd] at hx; cases hr : (List.range ds.length)[i]? <;> rw [hr] at hx <;> cases hx
  | some d =>
    have hi : i < ds.length := (List.getElem?_eq_some_iff.mp hd).1
    rw [hd, List.getElem?_range hi] at hx
    cases hx
    obtain ⟨u, h1', h2⟩ := r.get hd
    refine ⟨⟨xs, u, sq, h1'⟩, fun v H2 y => ?_⟩
    obtain ⟨T, x', rfl, hT, rfl, y⟩ := y
    have e2 := y xs sq
    rw [h1'] at e2
    cases e2
    exact ⟨w1, Le.new hT, R.new hT, .tup upd_same (.cons (.int _) (.cons ((h2.le e).le (Le.new hT)) .nil))⟩
theorem enumT_go {a : Addr} {xs : List V} {ds : List D} (k : ∀ w1 H1, Le w.noL H w1 H1 → SqT G.K H1 a xs) (r : Reps G w.noL H xs ds) : Feeds G w H (IteT G.K a) (enumD ds) := fun w1 H1 h1 e R i => by
  have sq := k w1 H1 e
  refine ⟨fun x hx => ?_, fun hi => ⟨xs, sq, by rw [r.length]; simpa [enumD] using hi⟩⟩
  unfold enumD at hx
  rw [List.getElem?_zipWith] at hx
  cases hd : ds[i]? with
  | none => rw [hd] at hx; cases hr : (List.range ds.length)[i]? <;> rw [hr] at hx <;> cases hx
  | some d =>
    have hi : i < ds.length := (List.getElem?_eq_some_iff.mp hd).1
    rw [hd, List.getElem?_range hi] at hx
    cases hx
    obtain ⟨u, h1', h2⟩ := r.get hd
    refine ⟨⟨xs, u, sq, h1'⟩, fun v H2 y => ?_⟩
    obtain ⟨T, x', rfl, hT, rfl, y⟩ := y
    have e2 := y xs sq
    rw [h1'] at e2
    cases e2
    exact ⟨w1, Le.new hT, R.new hT, .tup upd_same (.cons (.int _) (.cons ((h2.le e).le (Le.new hT)) .nil))⟩
theorem zipL_go {a b : Addr} {xs ys : List V} {ds es : List D} (k : ∀ w1 H1, Le w.noL H w1 H1 → SqL G.K H1 a xs ∧ SqL G.K H1 b ys) (r : Reps G w.noL H xs ds) (r' : Reps G w.noL H ys es) : Feeds G w H (Itz G.K a b) (zipD ds es) := fun w1 H1 h1 e R i => by
  obtain ⟨sx, sy⟩ := k w1 H1 e
  refine ⟨fun x hx => ?_, fun hi => ⟨xs, ys, sx, sy, by rw [r.length, r'.length]; simp only [zipD, List.length_zipWith] at hi; omega⟩⟩
  unfold zipD at hx
  rw [List.getElem?_zipWith] at hx
  cases hd : ds[i]? with
  | none => rw [hd] at hx; cases hx
  | some d =>
    cases he : es[i]? with
    | none => rw [hd, he] at hx; cases hx
    | some f =>
      rw [hd, he] at hx
      cases hx
      obtain ⟨u, h1', h2⟩ := r.get hd
      obtain ⟨v', h3, h4⟩ := r'.get he
      refine ⟨⟨xs, ys, u, v', sx, sy, h1', h3⟩, fun v H2 y => ?_⟩
      obtain ⟨T, x1, x2, rfl, hT, rfl, y1, y2⟩ := y
      have e1 := y1 xs sx
      have e2 := y2 ys sy
      rw [h1'] at e1
      rw [h3] at e2
      cases e1
      cases e2
      exact ⟨w1, Le.new hT, R.new hT, .tup upd_same (.cons ((h2.le e).le (Le.new hT)) (.cons ((h4.le e).le (Le.new hT)) .nil))⟩
theorem zipT_go {a b : Addr} {xs ys : List V} {ds es : List D} (k : ∀ w1 H1, Le w.noL H w1 H1 → SqT G.K H1 a xs ∧ SqT G.K H1 b ys) (r : Reps G w.noL H xs ds) (r' : Reps G w.noL H ys es) : Feeds G w H (RZ.ItzT G.K a b) (zipD ds es) := fun w1 H1 h1 e R i => by
  obtain ⟨sx, sy⟩ := k w1 H1 e
  refine ⟨fun x hx => ?_, fun hi => ⟨xs, ys, sx, sy, by rw [r.length, r'.length]; simp only [zipD, List.length_zipWith] at hi; omega⟩⟩
  unfold zipD at hx
  rw [List.getElem?_zipWith] at hx
  cases hd : ds[i]? with
  | none => rw [hd] at hx; cases hx
  | some d =>
    cases he : es[i]? with
    | none => rw [hd, he] at hx; cases hx
    | some f =>
      rw [hd, he] at hx
      cases hx
      obtain ⟨u, h1', h2⟩ := r.get hd
      obtain ⟨v', h3, h4⟩ := r'.get he
      refine ⟨⟨xs, ys, u, v', sx, sy, h1', h3⟩, fun v H2 y => ?_⟩
      obtain ⟨T, x1, x2, rfl, hT, rfl, y1, y2⟩ := y
      have e1 := y1 xs sx
      have e2 := y2 ys sy
      rw [h1'] at e1
      rw [h3] at e2
      cases e1
      cases e2
      exact ⟨w1, Le.new hT, R.new hT, .tup upd_same (.cons ((h2.le e).le (Le.new hT)) (.cons ((h4.le e).le (Le.new hT)) .nil))⟩
/-- a list or a tuple, told apart -/
theorem seq_of {x : V} {d : D} {ds : List D} (r : Rep G w H x d) (h : iterD d = some ds) (hs : ∀ z, d ≠ .str z) : ∃ a xs, x = .ref a ∧ Reps G w.noL H xs ds ∧
    ((isL d = true ∧ ∀ w1 H1, Le w.noL H w1 H1 → SqL G.K H1 a xs) ∨ (isL d = false ∧ ∀ w1 H1, Le w.noL H w1 H1 → SqT G.K H1 a xs)) := by
  cases r with
  | @tup a xs ds' h1 r1 => cases h; exact ⟨a, xs, rfl, r1.soft soft_noL, .inr ⟨rfl, fun w1 H1 e => .of (e.tup a xs h1)⟩⟩
  | @kup a xs ds' h1 r1 => cases h; exact ⟨a, xs, rfl, r1.soft soft_noL, .inr ⟨rfl, fun w1 H1 e => h1 _⟩⟩
  | @lst a xs ds' f h1 r1 => cases h; exact ⟨a, xs, rfl, r1.soft soft_noL, .inl ⟨rfl, fun w1 H1 e => .of (e.hF a _ f h1)⟩⟩
  | @scr a o ns f h1 => cases h; exact ⟨a, _, rfl, Reps.ints ns, .inl ⟨rfl, fun w1 H1 e => .inl (.inr ⟨o, e.hF a _ f h1⟩)⟩⟩
  | str z => exact absurd rfl (hs z)
  | _ => cases h
theorem kd_rep (k : Key) : Rep G w H (kV k) (kd k) := by cases k <;> first | exact .int _ | exact .str _
theorem kds_rep : ∀ k : List Key, Reps G w H (k.map kV) (k.map kd)
  | [] => .nil
  | k :: ks => .cons (kd_rep k) (kds_rep ks)
def keysL (kvs : List (DK × D)) : List D := kvs.map fun kv => kv.1.d
theorem keysK_go {a : Addr} {o : Obj} {kvs : List (Key × V)} {ds : List (DK × D)} (f : w.F a) (h : H a = some (.frz o (.dK kvs))) (r : RepK G w H kvs ds) : Feeds G w H (Itk a o kvs) (keysL ds) := fun w1 H1 h1 e R i => by
  have q : H1 a = some (.frz o (.dK kvs)) := e.hF a _ f h
  refine ⟨fun x hx => ?_, fun hi => ⟨q, by rw [r.length]; simpa [keysL] using hi⟩⟩
  unfold keysL at hx
  rw [List.getElem?_map] at hx
  cases hd : ds[i]? with
  | none => rw [hd] at hx; cases hx
  | some kv =>
    rw [hd] at hx
    cases hx
    obtain ⟨k, u, h2, h3, h4⟩ := r.get hd
    refine ⟨⟨q, (List.getElem?_eq_some_iff.mp h2).1⟩, fun v H2 y => ?_⟩
    obtain ⟨rfl, k', v', y1, rfl⟩ := y
    rw [h2] at y1
    cases y1
    simp only [h3]
    exact ⟨w1, Le.refl _ _, R, kd_rep k⟩
theorem keysT_go {a : Addr} {o : Obj} {kvs : List (List Key × V)} {ds : List (DK × D)} (f : w.F a) (h : H a = some (.frz o (.dT kvs))) (r : RepT G w H kvs ds) : Feeds G w H (Itkt a o kvs) (keysL ds) := fun w1 H1 h1 e R i => by
  have q : H1 a = some (.frz o (.dT kvs)) := e.hF a _ f h
  refine ⟨fun x hx => ?_, fun hi => ⟨q, by rw [r.length]; simpa [keysL] using hi⟩⟩
  unfold keysL at hx
  rw [List.getElem?_map] at hx
  cases hd : ds[i]? with
  | none => rw [hd] at hx; cases hx
  | some kv =>
    rw [hd] at hx
    cases hx
    obtain ⟨k, u, h2, h3, h4⟩ := r.get hd
    refine ⟨⟨q, (List.getElem?_eq_some_iff.mp h2).1⟩, fun v H2 y => ?_⟩
    obtain ⟨rfl, k', v', p, y1, rfl, y2⟩ := y
    rw [h2] at y1
    cases y1
    simp only [h3]
    exact ⟨w1, Le.refl _ _, R, .tup y2 (kds_rep k)⟩
def pairsL (kvs : List (DK × D)) : List D := kvs.map fun kv => .tup [kv.1.d, kv.2]
theorem itemsK_go {a : Addr} {o : Obj} {kvs : List (Key × V)} {ds : List (DK × D)} (f : w.F a) (h : H a = some (.frz o (.dK kvs))) (r : RepK G w H kvs ds) : Feeds G w H (Iti a o kvs) (pairsL ds) := fun w1 H1 h1 e R i => by
  have q : H1 a = some (.frz o (.dK kvs)) := e.hF a _ f h
  refine ⟨fun x hx => ?_, fun hi => ⟨q, by rw [r.length]; simpa [pairsL] using hi⟩⟩
  unfold pairsL at hx
  rw [List.getElem?_map] at hx
  cases hd : ds[i]? with
  | none => rw [hd] at hx; cases hx
  | some kv =>
    rw [hd] at hx
    cases hx
    obtain ⟨k, u, h2, h3, h4⟩ := r.get hd
    refine ⟨⟨q, (List.getElem?_eq_some_iff.mp h2).1⟩, fun v H2 y => ?_⟩
    obtain ⟨T, k', v', y1, rfl, hT, rfl⟩ := y
    rw [h2] at y1
    cases y1
    have r4 : Rep G w1 H1 u kv.2 := (h4.soft soft_noL).le e
    refine ⟨w1, Le.new hT, R.new hT, .tup upd_same (.cons ?_ (.cons (r4.le (Le.new hT)) .nil))⟩
    simp only [h3]; exact kd_rep k
end

def dOver (o : D → Option (List D)) (f : Den D) : Den (List D) := fun ρ h => (f ρ h).bind fun d h1 => optR (o d) h1
def dOverA (o : List D → Option (List D)) (f : Den (List D)) : Den (List D) := fun ρ h => (f ρ h).bind fun d h1 => optR (o d) h1
def dkeysD : D → Option (List D)
  | .dct _ kvs => some (keysL kvs)
  | _ => none
def dpairsD : D → Option (List D)
  | .dct false kvs => some (pairsL kvs)
  | _ => none
def enumO : List D → Option (List D)
  | [.str _] => none
  | [d] => (iterD d).map enumD
  | _ => none
def zipO : List D → Option (List D)
  | [.str _, _] => none
  | [_, .str _] => none
  | [d, e] => if isL d = isL e then match iterD d, iterD e with
    | some ds, some es => some (zipD ds es)
    | _, _ => none else none
  | _ => none
section
variable {X : Cx} {T : Tb} {Z : Addr → Prop} {W : WX} {tg e a b : Expr} {f : Den D} {t : Den (List D)} {pos p tpos apos : Pos} {elts : List Expr} {kk : Nat}
theorem si_any (he : SE X T Z W e f) : SI X T Z W tg e (dOver iterD f) := pi_imp (pi_any he) fun σ H Q ⟨w, ρ, h, S, R, p⟩ => step_E S R p fun w1 H1 h1 d x e1 S1 R1 r1 p1 => by
  obtain ⟨z, hz, p2⟩ := post_opt' p1
  exact any_go r1 hz (p2.now R1)
theorem si_keys (he : SE X T Z W e f) : SI X T Z W tg e (dOver dkeysD f) := pi_imp (pi_keys he) fun σ H Q ⟨w, ρ, h, S, R, p⟩ => step_E S R p fun w1 H1 h1 d x e1 S1 R1 r1 p1 => by
  obtain ⟨z, hz, p2⟩ := post_opt' p1
  have q := p2.now R1
  cases r1 with
  | dK f1 h1 r => cases hz; exact ⟨_, _, rfl, .inl ⟨_, h1, q _ (keysK_go f1 h1 r)⟩⟩
  | dT f1 h1 r => cases hz; exact ⟨_, _, rfl, .inr ⟨_, h1, q _ (keysT_go f1 h1 r)⟩⟩
  | _ => cases hz
theorem si_items (he : SE X T Z W e f) (hbase : attributeBase e "items" X.env (eval e X.env) = eval e X.env := by rfl) (hline : (apos.endLine == pos.line) = true := by rfl) : SI X T Z W (.Tuple elts kk tpos) (.Call (.Attribute e "items" apos) [] [] pos) (dOver dpairsD f) :=
  pi_imp (pi_items he hbase hline) fun σ H Q ⟨w, ρ, h, S, R, p⟩ => step_E S R p fun w1 H1 h1 d x e1 S1 R1 r1 p1 => by
    obtain ⟨z, hz, p2⟩ := post_opt' p1
    have q := p2.now R1
    cases r1 with
    | dK f1 h1 r => cases hz; exact ⟨_, _, _, rfl, h1, q _ (itemsK_go f1 h1 r)⟩
    | _ => cases hz
theorem reps1 {d : D} {x : List V} {G : Gx} {w : Wd} {H : Hp} (r : Reps G w H x [d]) : ∃ v, x = [v] ∧ Rep G w H v d := by
  cases r with
  | cons a b => cases b; exact ⟨_, rfl, a⟩
theorem reps2 {d e : D} {x : List V} {G : Gx} {w : Wd} {H : Hp} (r : Reps G w H x [d, e]) : ∃ v u, x = [v, u] ∧ Rep G w H v d ∧ Rep G w H u e := by
  cases r with
  | cons a b => obtain ⟨u, rfl, c⟩ := reps1 b; exact ⟨_, _, rfl, a, c⟩
theorem si_range1 (hg : Gl X "range") (hm : X.mg "range" = none) (ha : SA X T Z W [a] t) (hs : starEach [a] X.env = [(false, eval a X.env)] := by rfl) : SI X T Z W tg (.Call (.Name "range" p) [a] [] pos) (dOverA rngD t) :=
  pi_imp (pi_range1 hg hm ha hs) fun σ H Q ⟨w, ρ, h, S, R, p⟩ => step_A S R p fun w1 H1 h1 d x e1 S1 R1 r1 p1 => by
    obtain ⟨z, hz, p2⟩ := post_opt' p1
    have q := p2.now R1
    unfold rngD at hz
    split at hz
    · rename_i j
      obtain ⟨v, rfl, r⟩ := reps1 r1
      cases r
      split at hz
      · rename_i hj
        cases hz
        refine ⟨j, rfl, hj.1, hj.2, q _ ?_⟩
        have := @feeds_R (gx X T) w1 H1 0 j.toNat
        simpa using this
      · cases hz
    · cases hz
theorem si_range2 (hg : Gl X "range") (hm : X.mg "range" = none) (ha : SA X T Z W [a, b] t) (hs : starEach [a, b] X.env = [(false, eval a X.env), (false, eval b X.env)] := by rfl) (hs2 : starEach [b] X.env = [(false, eval b X.env)] := by rfl) : SI X T Z W tg (.Call (.Name "range" p) [a, b] [] pos) (dOverA rngD2 t) :=
  pi_imp (pi_range2 hg hm ha hs hs2) fun σ H Q ⟨w, ρ, h, S, R, p⟩ => step_A S R p fun w1 H1 h1 d x e1 S1 R1 r1 p1 => by
    obtain ⟨z, hz, p2⟩ := post_opt' p1
    have q := p2.now R1
    unfold rngD2 at hz
    split at hz
    · rename_i i j
      obtain ⟨v, u, rfl, r, r'⟩ := reps2 r1
      cases r
      cases r'
      split at hz
      · rename_i hj
        cases hz
        exact ⟨i, j, rfl, hj, q _ feeds_R⟩
      · cases hz
    · cases hz
theorem not_str {d : D} {ds : List D} (h : iterD d = some ds) : (∃ z, d = .str z) ∨ ∀ z, d ≠ .str z := by
  cases d <;> first | exact .inl ⟨_, rfl⟩ | exact .inr fun z q => nomatch q
theorem si_enum (hg : Gl X "enumerate") (hm : X.mg "enumerate" = none) (ha : SA X T Z W [a] t) (hs : starEach [a] X.env = [(false, eval a X.env)] := by rfl) : SI X T Z W (.Tuple elts kk tpos) (.Call (.Name "enumerate" p) [a] [] pos) (dOverA enumO t) :=
  pi_imp (pi_enumA hg hm ha hs) fun σ H Q ⟨w, ρ, h, S, R, p⟩ => step_A S R p fun w1 H1 h1 d x e1 S1 R1 r1 p1 => by
    obtain ⟨z, hz, p2⟩ := post_opt' p1
    have q := p2.now R1
    unfold enumO at hz
    split at hz
    · cases hz
    · rename_i d hstr
      obtain ⟨v, rfl, r⟩ := reps1 r1
      cases e : iterD d with
      | none => rw [e] at hz; cases hz
      | some ds =>
        rw [e] at hz
        cases hz
        obtain ⟨a, xs, rfl, rs, k⟩ := seq_of r e (fun z' q => hstr z' (by rw [q]))
        refine ⟨a, xs, rfl, ?_⟩
        rcases k with ⟨_, k⟩ | ⟨_, k⟩
        · exact .inl ⟨k w1 H1 (Le.noL w1 H1), q _ (enumL_go k rs)⟩
        · exact .inr ⟨k w1 H1 (Le.noL w1 H1), q _ (enumT_go k rs)⟩
    · cases hz
theorem si_zip (hg : Gl X "zip") (hm : X.mg "zip" = none) (ha : SA X T Z W [a, b] t) (hs : starEach [a, b] X.env = (false, eval a X.env) :: starEach [b] X.env := by rfl) (hpl : (backTo pos (starEach [b] X.env)).any (·.1) = false := by rfl) :
    SI X T Z W (.Tuple elts kk tpos) (.Call (.Name "zip" p) [a, b] [] pos) (dOverA zipO t) :=
  pi_imp (RZ.pi_zipA hg hm ha hs hpl) fun σ H Q ⟨w, ρ, h, S, R, p⟩ => step_A S R p fun w1 H1 h1 d x e1 S1 R1 r1 p1 => by
    obtain ⟨z, hz, p2⟩ := post_opt' p1
    have q := p2.now R1
    unfold zipO at hz
    split at hz
    · cases hz
    · cases hz
    · rename_i d e hstr hstr2
      obtain ⟨v, u, rfl, r, r'⟩ := reps2 r1
      split at hz
      · rename_i hL
        cases e1 : iterD d with
        | none => rw [e1] at hz; cases hz
        | some ds =>
          cases e2 : iterD e with
          | none => rw [e1, e2] at hz; cases hz
          | some es =>
            rw [e1, e2] at hz
            cases hz
            obtain ⟨a, xs, rfl, rs, k⟩ := seq_of r e1 (fun z' q => hstr z' q)
            obtain ⟨b, ys, rfl, rs', k'⟩ := seq_of r' e2 (fun z' q => hstr2 z' q)
            refine ⟨a, b, xs, ys, rfl, ?_⟩
            rcases k with ⟨l1, k⟩ | ⟨l1, k⟩ <;> rcases k' with ⟨l2, k'⟩ | ⟨l2, k'⟩
            · exact .inl ⟨k w1 H1 (Le.noL w1 H1), k' w1 H1 (Le.noL w1 H1), q _ (zipL_go (fun w2 H2 e => ⟨k w2 H2 e, k' w2 H2 e⟩) rs rs')⟩
            · rw [l1, l2] at hL; cases hL
            · rw [l1, l2] at hL; cases hL
            · exact .inr ⟨k w1 H1 (Le.noL w1 H1), k' w1 H1 (Le.noL w1 H1), q _ (zipT_go (fun w2 H2 e => ⟨k w2 H2 e, k' w2 H2 e⟩) rs rs')⟩
      · cases hz
    · cases hz
end
end Pf
end
section
set_option maxRecDepth 100000
namespace Pf
open PySem PySem.Spec PyProof.Rows L2 LamX

/-- a comprehension's tests -/
abbrev STs (X : Cx) (T : Tb) (Z : Addr → Prop) (W : WX) (ifs : List Expr) (c : Den Bool) : Prop := PTs X ifs (tTe (gx X T) Z W c)
theorem sts_nil {X : Cx} {T : Tb} {Z : Addr → Prop} {W : WX} : STs X T Z W [] dYes := ⟨fun pins s σ H Q I ⟨w, ρ, h, S, R, p⟩ => pts_nil.run pins s σ H Q I (p.now R)⟩
theorem sts_one {X : Cx} {T : Tb} {Z : Addr → Prop} {W : WX} {c : Expr} {t : Den Bool} (h : ST X T Z W c t) : STs X T Z W [c] t := pts_one h
section
variable {G : Gx} {Z : Addr → Prop} {W : WX}
/-- the new list, one item on -/
theorem grown {w1 w5 : Wd} {H1 H5 : Hp} {h5 : Hl} {A : Addr} {acc : List V} {ys : List D} {v : V} {x : D} (L : Le w1 H1 w5 H5) (R : HRel G w5 H5 h5) (hL : w5.L A) (n0 : ¬ w1.L A) (hA : H5 A = some (.lst acc)) (ra : Reps G w5 H5 acc ys) (rv : Rep G w5 H5 v x) :
    Le w1 H1 w5 (upd H5 A (.lst (acc ++ [v]))) ∧ HRel G w5 (upd H5 A (.lst (acc ++ [v]))) h5 ∧ Reps G w5 (upd H5 A (.lst (acc ++ [v]))) (acc ++ [v]) (ys ++ [x]) := by
  have sf : Soft G w5 H5 w5 (upd H5 A (.lst (acc ++ [v]))) := soft_mut (fun f => R.FL A f hL) hA trivial
  exact ⟨L.mutL R hL n0 hA trivial, R.mutL hL hA trivial, (ra.soft sf).append (.cons (rv.soft sf) .nil)⟩
theorem wipe_wipe (σ : L2.St) (vs : List Nat) : L2.wipe (L2.wipe σ vs) vs = L2.wipe σ vs := by
  apply List.ext_getElem?
  intro j
  by_cases hj : j ∈ vs
  · exact wipe_in (L2.wipe_length σ vs) hj
  · rw [L2.wipe_out hj]
theorem comp_go {f : Den (List D)} {tg : Tg} {ns vs : List Nat} {c : Den Bool} {e : Den D} (hns : ∀ i ∈ ns, i ∈ vs) {σ : L2.St} {H : Hp} {Q : VK} (q : tE G Z W (dComp vs f tg c e) σ H Q) :
    tLc (tIt G Z W f) (tG G true tg ns) (tTe G Z W0 c) (tE G Z W0 e) vs σ H Q := by
  obtain ⟨w, ρ, h, S, R, p⟩ := q
  refine ⟨w, ρ, h, S, R, p.bind.imp fun w1 H1 h1 ds e1 R1 p1 J FJ A hA => ?_⟩
  have nL := (R1.fresh hA).2.1
  have S1 := S.le e1
  refine ⟨fun i m H' => m = ds.length - i ∧ ∃ w' h' acc ys, HRel G w' H' h' ∧ Le w1 H1 w' H' ∧ w'.L A ∧ H' A = some (.lst acc) ∧ Reps G w' H' acc ys ∧ Post G w1 H1 ((cmpS tg c e (wipeR ρ vs) (ds.drop i) ys h').bind fun xs h2 => Res.ok (D.lst xs) h2) (QD G Q) (fun c d H' => W c d σ H'),
    ⟨ds.length, rfl, w1.addL A, h1, [], [], R1.addL hA, Le.addL hA, .inr rfl, upd_same, .nil, p1⟩, ?_⟩
  rintro i m H' ⟨rfl, w', h', acc, ys, R', L', hL, hD, ra, p2⟩
  have F' := FJ w' H' h' ⟨L'.F, fun _ z => z.elim, L'.m, L'.hF, fun _ _ z => z.elim, L'.tup, L'.frz⟩ R' i
  cases ex : ds[i]? with
  | none =>
    have hi : ds.length ≤ i := List.getElem?_eq_none_iff.mp ex
    rw [List.drop_of_length_le hi] at p2
    exact .inl ⟨F'.2 hi, p2 (w'.frz A) H' (L'.frzL nL) (R'.frz hL) _ (.lst (.inr rfl) hD (ra.soft soft_frz))⟩
  | some x =>
    have hi : i < ds.length := (List.getElem?_eq_some_iff.mp ex).1
    have ed : ds.drop i = x :: ds.drop (i + 1) := by
      rw [List.drop_eq_getElem_cons hi]
      congr 1
      exact (List.getElem?_eq_some_iff.mp ex).2
    rw [ed] at p2
    obtain ⟨go, yld⟩ := F'.1 x ex
    refine .inr ⟨go, fun H2 => ∃ w2 h2 acc2 ys2, HRel G w2 H2 h2 ∧ Le w1 H1 w2 H2 ∧ w2.L A ∧ H2 A = some (.lst acc2) ∧ Reps G w2 H2 acc2 ys2 ∧ Post G w1 H1 ((cmpS tg c e (wipeR ρ vs) (ds.drop (i + 1)) ys2 h2).bind fun xs h3 => Res.ok (D.lst xs) h3) (QD G Q) (fun c d H' => W c d σ H'), fun H2 z => ⟨ds.length - (i + 1), by omega, rfl, z⟩, fun v H2 y => ?_⟩
    obtain ⟨w2, L2, R2, r2⟩ := yld v H2 y
    cases et : tg x (wipeR ρ vs) h' with
    | none => unfold cmpS at p2; rw [et] at p2; exact p2.elim
    | some q2 =>
      obtain ⟨ρ2, hh⟩ := q2
      refine ⟨Z, w2, wipeR ρ vs, h', x, ρ2, hh, ((S1.le L').wipe vs).le L2, R2, r2, et, fun σ3 w3 H3 L3z R3 S3 hw => have L3 := L3z.ofZT; ⟨(hw vs hns).trans (wipe_wipe σ vs), ?_⟩⟩
      have L3' : Le w1 H1 w3 H3 := (L'.trans L2).trans L3
      have k3 : ∀ w4 H4, Le w3 H3 w4 H4 → w4.L A ∧ H4 A = some (.lst acc) ∧ Reps G w4 H4 acc ys := fun w4 H4 L4 =>
        let l := (L2.trans L3).trans L4
        ⟨l.L A hL, l.hL A _ hL hD, ra.le l⟩
      unfold cmpS at p2
      rw [et] at p2
      simp only at p2
      refine ⟨w3, ρ2, hh, S3, R3, ?_⟩
      revert p2
      cases c ρ2 hh with
      | ok b h4 =>
        cases b with
        | false =>
          intro p2 w4 H4 L4 R4
          obtain ⟨l1, l2, l3⟩ := k3 w4 H4 L4
          exact ⟨w4, h4, acc, ys, R4, L3'.trans L4, l1, l2, l3, p2⟩
        | true =>
          intro p2 w4 H4 L4 R4
          show tE G Z W0 e σ3 H4 _
          refine ⟨w4, ρ2, h4, S3.le L4, R4, ?_⟩
          simp only at p2
          revert p2
          cases e ρ2 h4 with
          | ok y h5 =>
            intro p2 w5 H5 L5 R5 v5 rv5
            obtain ⟨l1, l2, l3⟩ := k3 w5 H5 (L4.trans L5)
            simp only at p2
            split at p2
            · rename_i hl
              obtain ⟨g1, g2, g3⟩ := grown ((L3'.trans L4).trans L5) R5 l1 nL l2 l3 rv5
              exact ⟨acc, l2, by rw [l3.length, szl]; exact hl, w5, h5, _, _, g2, g1, l1, upd_same, g3, p2⟩
            · exact p2.elim
          | exc cc fs h5 => exact fun p2 => p2.elim
          | bad => exact fun p2 => p2.elim
      | exc cc fs h4 => exact fun p2 => p2.elim
      | bad => exact fun p2 => p2.elim
end
section
variable {X : Cx} {T : Tb} {Z : Addr → Prop} {W : WX} {elt tg iter : Expr} {ifs : List Expr} {scope : Scope} {own : List (Str × Nat)} {pos : Pos} {f : Den (List D)} {g : Tg} {ns : List Nat} {c : Den Bool} {e : Den D}
/-- the block, seen from the frame -/
abbrev Blk (X : Cx) (scope : Scope) (P : Cx → Prop) : Prop := ∀ (s : Shared) (H : Hp) (C : Addr) (cl : List (Str × Addr)) (fp : List Addr), P (X.blk s H scope (compEnvC scope cl C X.env) fp)
theorem se_comp (hc : X.calm = true) (hN : X.N.Nodup) (hi : SI X T Z W tg iter f) (ok : blkC X.N X.env.scope scope own = true) (hns : ∀ i ∈ ns, i ∈ own.map (·.2))
    (hg : Blk X scope fun Y => SG Y T true tg g ns) (ht : Blk X scope fun Y => STs Y T Z W0 ifs c) (he : Blk X scope fun Y => SE Y T Z W0 elt e) (hs : ∀ x, foldedSetIterable iter X.env x = pure x := by intro _; rfl) :
    SE X T Z W (.ListComp elt [⟨tg, iter, ifs, 0⟩] scope pos) (dComp (own.map (·.2)) f g c e) :=
  pe_imp (pe_lc hc hN hi (blkOk_by ok) (fun s H C cl fp => hg s H C cl fp) ht he hs) fun σ H Q q => comp_go hns q
theorem ss_setComp {i : Nat} {y : Str} {py spos : Pos} (hc : X.calm = true) (hN : X.N.Nodup) (hy : X.N[i]? = some y) (hyl : X.env.scope.names.lookup y = some .local)
    (hsw : swapsWith (.ListComp elt [⟨tg, iter, ifs, 0⟩] scope pos) (some (.Name y py)) spos.line X.env = pure true) (hi : ∀ Z, SI X T Z W tg iter f) (ok : blkC X.N X.env.scope scope own = true) (hns : ∀ i ∈ ns, i ∈ own.map (·.2))
    (hg : Blk X scope fun Y => SG Y T true tg g ns) (ht : ∀ Z, Blk X scope fun Y => STs Y T Z W0 ifs c) (he : ∀ Z, Blk X scope fun Y => SE Y T Z W0 elt e) (hs : ∀ x, foldedSetIterable iter X.env x = pure x := by intro _; rfl) :
    SS X T W (.Assign [.Name y py] (.ListComp elt [⟨tg, iter, ifs, 0⟩] scope pos) spos) (sSet i (dComp (own.map (·.2)) f g c e)) := fun w0 H0 =>
  ps_imp (ps_setLc hc hN hy hyl hsw (hi w0.L) (blkOk_by ok) (fun s H C cl fp => hg s H C cl fp) (ht w0.L) (he w0.L) hs) fun D σ H ⟨w, ρ, h, S, R, L, p⟩ =>
    comp_go hns (sstep_E S R L p fun w1 H1 h1 d x e1 S1 R1 L1 r1 p1 => p1.now (S1.setv r1) R1 L1)
end
end Pf
end
section
set_option maxRecDepth 100000
namespace Pf
open PySem PySem.Spec PyProof.Rows L2 LamX

def View (G : Gx) (w : Wd) (H : Hp) (v : V) (d : D) : Prop := Rep G w H v d ∨ ∃ a, v = .ref a ∧ w.L a ∧ OwnRep G w H a d
def Look (G : Gx) (w : Wd) (H : Hp) (v : V) (d : D) : Prop := Rep G w H v d ∨ ∃ a, v = .ref a ∧ OwnRep G w H a d
def atR : D → Hl → D
  | .ref r, h => match h[r]? with
    | some (.lst ds) => .lst ds
    | some (.ins c fs) => .ins c fs
    | none => .ref r
  | d, _ => d
section
variable {G : Gx} {w w' : Wd} {H H' : Hp} {h : Hl} {v : V} {d : D}
theorem View.le (x : View G w H v d) (e : Le w H w' H') : View G w' H' v d := by
  rcases x with x | ⟨a, h1, h2, h3⟩
  · exact .inl (x.le e)
  · exact .inr ⟨a, h1, e.L a h2, h3.le e fun u => e.hL a u h2⟩
theorem View.look (R : HRel G w H h) (x : View G w H v d) : Look G w H v (atR d h) := by
  rcases x with x | ⟨a, h1, h2, h3⟩
  · cases x with
    | @ref a r hm =>
      obtain ⟨o, h1, h2⟩ := R.live r a hm
      unfold atR
      simp only [h1]
      cases o with
      | lst ds => obtain ⟨xs, e1, e2⟩ := h2; exact .inr ⟨a, rfl, xs, e1, e2⟩
      | ins c fs => obtain ⟨C, dx, vs, e0, e1, e2⟩ := h2; exact .inr ⟨a, rfl, C, dx, vs, e0, e1, e2⟩
    | non => exact .inl .non
    | bl b => exact .inl (.bl b)
    | int i => exact .inl (.int i)
    | str x => exact .inl (.str x)
    | tup a b => exact .inl (.tup a b)
    | kup a b => exact .inl (.kup a b)
    | lst a b c => exact .inl (.lst a b c)
    | dK a b c => exact .inl (.dK a b c)
    | dT a b c => exact .inl (.dT a b c)
    | ins a b c e => exact .inl (.ins a b c e)
    | cls a => exact .inl (.cls a)
    | ty n => exact .inl (.ty n)
    | scr a b => exact .inl (.scr a b)
  · have e : atR d h = d := by cases d <;> first | rfl | exact h3.elim
    rw [e]
    exact .inr ⟨a, h1, h3⟩
theorem Look.isD (x : Look G w H v d) {y : V} {e : D} {o : Option D} (ry : Rep G w H y e) (h : lookD d e = some o) :
    ∃ a ov, v = .ref a ∧ DGet H a y ov ∧ ((o = none ∧ ov = none) ∨ ∃ z u, o = some z ∧ ov = some u ∧ Rep G w H u z) := by
  rcases x with x | ⟨a, rfl, ho⟩
  · exact dget_of x ry h
  · cases d with
    | dct t kvs =>
      cases t with
      | false =>
        obtain ⟨vs, h1, r1⟩ := ho
        simp only [lookD] at h
        split at h
        · rename_i k hk
          cases h
          have ey := dkD_k ry hk
          rcases r1.look k with ⟨l1, l2⟩ | ⟨u, z, l1, l2, rv⟩
          · exact ⟨a, none, rfl, .inl ⟨vs, k, .inl h1, ey, l1.symm⟩, .inl ⟨l2, rfl⟩⟩
          · exact ⟨a, some u, rfl, .inl ⟨vs, k, .inl h1, ey, l1.symm⟩, .inr ⟨z, u, l2, rfl, rv⟩⟩
        · cases h
      | true =>
        obtain ⟨vs, h1, r1⟩ := ho
        simp only [lookD] at h
        split at h
        · rename_i k hk
          cases h
          obtain ⟨b, ey, hb⟩ := dkD_t ry hk
          rcases r1.look k with ⟨l1, l2⟩ | ⟨u, z, l1, l2, rv⟩
          · exact ⟨a, none, rfl, .inr ⟨vs, k, b, .inl h1, ey, hb, l1.symm⟩, .inl ⟨l2, rfl⟩⟩
          · exact ⟨a, some u, rfl, .inr ⟨vs, k, b, .inl h1, ey, hb, l1.symm⟩, .inr ⟨z, u, l2, rfl, rv⟩⟩
        · cases h
    | _ => simp only [lookD, reduceCtorEq] at h
theorem soft_more {a : Addr} : Soft G w H { w with F := fun b => w.F b ∨ b = a } H := ⟨fun _ z => .inl z, fun _ _ z => z, fun _ _ z => z, fun _ _ _ z => z, fun _ _ _ _ z => z, fun _ _ _ _ z => z, fun _ _ _ _ z => z, fun _ _ _ _ _ z => z⟩
/-- a list that is looked at, in a world where it stands -/
theorem Look.rep (x : Look G w H v d) (hd : isDct d = false) : ∃ w2, Soft G w H w2 H ∧ Rep G w2 H v d := by
  rcases x with x | ⟨a, rfl, ho⟩
  · exact ⟨w, ⟨fun _ z => z, fun _ _ z => z, fun _ _ z => z, fun _ _ _ z => z, fun _ _ _ _ z => z, fun _ _ _ _ z => z, fun _ _ _ _ z => z, fun _ _ _ _ _ z => z⟩, x⟩
  · refine ⟨_, soft_more (a := a), ?_⟩
    cases d with
    | lst ds => obtain ⟨xs, h1, h2⟩ := ho; exact .lst (.inr rfl) h1 (h2.soft soft_more)
    | ins c fs => obtain ⟨C, dx, vs, h0, h1, h2⟩ := ho; exact .ins (.inr rfl) h0 h1 (h2.soft soft_more)
    | dct t kvs => cases hd
    | _ => exact ho.elim
end
def tVw (G : Gx) (Z : Addr → Prop) (W : WX) (f : Den D) : TE := fun σ H Q => ∃ w ρ h, SRel G Z w H ρ σ ∧ HRel G w H h ∧ Post G w H (f ρ h) (fun w' H' _ d => ∀ v, View G w' H' v d → Q v H') (fun c d H' => W c d σ H')
/-- an object that is looked at or written -/
abbrev SV (X : Cx) (T : Tb) (Z : Addr → Prop) (W : WX) (e : Expr) (f : Den D) : Prop := PE X e (tVw (gx X T) Z W f)
def dView (i : Nat) : Den D := fun ρ h => match ρ[i]? with
  | some (.v d) => .ok d h
  | some (.own d) => .ok d h
  | _ => .bad
section
variable {α β : Type} {G : Gx} {Z : Addr → Prop} {W : WX} {w : Wd} {ρ : Rho} {h : Hl} {σ : L2.St} {H : Hp} {Q : Wd → Hp → Hl → β → Prop}
theorem step_V {f : Den D} {g : D → Hl → Res β} {K : VK} (S : SRel G Z w H ρ σ) (R : HRel G w H h) (p : Post G w H ((f ρ h).bind g) Q (fun c d H' => W c d σ H'))
    (k : ∀ w1 H1 h1 d x, Le w H w1 H1 → SRel G Z w1 H1 ρ σ → HRel G w1 H1 h1 → View G w1 H1 x d → Post G w1 H1 (g d h1) Q (fun c d H' => W c d σ H') → K x H1) : tVw G Z W f σ H K :=
  ⟨w, ρ, h, S, R, p.bind.imp fun w1 H1 h1 d e R1 p1 x r => k w1 H1 h1 d x e (S.le e) R1 r p1⟩
end
def ixA : D → D → Option D
  | .dct t kvs, y => (lookD (.dct t kvs) y).bind id
  | d, y => ixD d y
def inA : D → D → Option Bool
  | x, .dct t kvs => (lookD (.dct t kvs) x).map Option.isSome
  | x, y => inO x y
def lenA : D → Option Nat
  | .lst ds => some ds.length
  | .tup ds => some ds.length
  | .kup ds => some ds.length
  | .scr ns => some ns.length
  | .str z => if z.length ≤ 16777216 then some z.length else none
  | .dct false kvs => some kvs.length
  | _ => none
/-- o[i] -/
def dIx (f g : Den D) : Den D := fun ρ h => (f ρ h).bind fun d h1 => (g ρ h1).bind fun e h2 => optR (ixA (atR d h2) e) h2
/-- x in o -/
def dIn (g f : Den D) : Den D := fun ρ h => (g ρ h).bind fun e h1 => (f ρ h1).bind fun d h2 => optR ((inA e (atR d h2)).map .bl) h2
def dNin (g f : Den D) : Den D := fun ρ h => (g ρ h).bind fun e h1 => (f ρ h1).bind fun d h2 => optR ((inA e (atR d h2)).map fun b => .bl (!b)) h2
def dLen (f : Den D) : Den D := fun ρ h => (f ρ h).bind fun d h1 => optR ((lenA (atR d h1)).map fun n => .int (n : Nat)) h1
section
variable {X : Cx}
def rIxA (K : PySem.W.Frag) : R2 := fun x y H Q => rIx K x y H Q ∨ ∃ a v, x = .ref a ∧ DGet H a y (some v) ∧ Q v H
theorem ix_dict (hu : X.A.units + 1 < cLine) : IxR X (fun x y H Q => ∃ a v, x = .ref a ∧ DGet H a y (some v) ∧ Q v H) := by
  intro value slice pins s σ H x y o u Q I rx ry h hs
  obtain ⟨a, v, rfl, g, q⟩ := h
  obtain rfl : o = Value.ref a := rx
  have hT := dict_typeIs I g
  unfold subscriptTail
  refine wpAny_bind ?_
  rw [getitemInPython_of_ne hT.not_modules]
  refine wpAny_bind (wpAny_specialOf hT PySem.F.slot_dict_getitem.lookup ?_)
  have fin : wpAny (model X.prog X.w) X.A (subscripted slice false (.ref a) u >>= fun r => letTemporaryGo value (.ref a) r >>= fun _ => pure r) (EP X pins σ Q) X.xe s := by
    refine wpAny_bind ?_
    rw [hs]
    exact wpAny_operating (d_getItem hu I g ry fun w' s3 I3 rw' => wpAny_bind (wpAny_letTemporaryGo (wpAny_pure ⟨v, H, I3, rw', q⟩)))
  first
    | exact wpAny_pure fin
    | exact wpAny_bind (wpAny_pure fin)
    | exact fin
theorem op_inDct (hu : X.A.units + 1 < cLine) : OpR X (compareOp .In) (fun x y H Q => ∃ a o, y = .ref a ∧ DGet H a x o ∧ Q (.bl o.isSome) H) := by
  intro pins s σ H x y v u Q I rx ry h
  obtain ⟨a, o, rfl, g, q⟩ := h
  obtain rfl : u = Value.ref a := ry
  exact d_in hu I g rx fun s3 I3 => ⟨.bl o.isSome, H, I3, rfl, q⟩
theorem op_ninDct (hu : X.A.units + 1 < cLine) : OpR X (compareOp .NotIn) (fun x y H Q => ∃ a o, y = .ref a ∧ DGet H a x o ∧ Q (.bl (!o.isSome)) H) := by
  intro pins s σ H x y v u Q I rx ry h
  obtain ⟨a, o, rfl, g, q⟩ := h
  obtain rfl : u = Value.ref a := ry
  exact d_notIn hu I g rx fun s3 I3 => ⟨.bl (!o.isSome), H, I3, rfl, q⟩
end
section
variable {G : Gx} {w : Wd} {H : Hp}
theorem ix_go {x y : V} {d e z : D} {Q : VK} (lx : Look G w H x d) (ry : Rep G w H y e) (hz : ixA d e = some z) (q : ∀ v, Rep G w H v z → Q v H) : rIxA G.K x y H Q := by
  by_cases hd : isDct d = true
  · cases d with
    | dct t kvs =>
      have hz : (lookD (.dct t kvs) e).bind id = some z := hz
      cases e3 : lookD (.dct t kvs) e with
      | none => rw [e3] at hz; cases hz
      | some oo =>
        rw [e3] at hz
        obtain ⟨a, ov, ex, g, ho⟩ := lx.isD ry e3
        rcases ho with ⟨z1, z2⟩ | ⟨z', v, z1, z2, rv⟩
        · subst z1; cases hz
        · subst z1
          simp only [Option.bind_some, id_eq, Option.some.injEq] at hz
          subst hz z2
          exact .inr ⟨a, v, ex, g, q _ rv⟩
    | _ => cases hd
  · have hz' : ixD d e = some z := by cases d <;> first | exact hz | exact absurd rfl hd
    rcases lx with rx | ⟨a, rfl, ho⟩
    · left
      cases rx <;> cases ry <;> simp only [ixD, reduceCtorEq] at hz'
      · split at hz'
        · rename_i hl
          cases e1 : atI (Array.toList _) _ with
          | none => rw [e1] at hz'; cases hz'
          | some c =>
            rw [e1] at hz'
            cases hz'
            exact .inr (.inr ⟨_, _, c, rfl, rfl, by rw [szl]; exact hl, e1, q _ (.str _)⟩)
        · cases hz'
      · rename_i a xs ds h1 r1 i
        obtain ⟨v, h3, h4⟩ := r1.at hz'
        exact .inr (.inl ⟨a, xs, i, v, rfl, rfl, .of h1, h3, q _ h4⟩)
      · rename_i a xs ds h1 r1 i
        obtain ⟨v, h3, h4⟩ := r1.at hz'
        exact .inr (.inl ⟨a, xs, i, v, rfl, rfl, h1 _, h3, q _ h4⟩)
      · rename_i a xs ds h0 h1 r1 i
        obtain ⟨v, h3, h4⟩ := r1.at hz'
        exact .inl ⟨a, xs, i, v, rfl, rfl, .of h1, h3, q _ h4⟩
      · rename_i a o ns h0 h1 i
        cases e1 : atI ns i with
        | none => rw [e1] at hz'; cases hz'
        | some c =>
          rw [e1] at hz'
          cases hz'
          exact .inl ⟨a, _, i, .int c, rfl, rfl, .inl (.inr ⟨o, h1⟩), by rw [atI_map, e1]; rfl, q _ (.int _)⟩
    · cases d with
      | lst ds =>
        obtain ⟨xs, h1, h2⟩ := ho
        cases ry <;> simp only [ixD, reduceCtorEq] at hz'
        rename_i i
        obtain ⟨v, h3, h4⟩ := h2.at hz'
        exact .inl (.inl ⟨a, xs, i, v, rfl, rfl, .of h1, h3, q _ h4⟩)
      | _ => first | exact ho.elim | (simp only [ixD, reduceCtorEq] at hz')
abbrev rInD (K : PySem.W.Frag) (n : Bool) : R2 := fun x y H Q => rInAll K n x y H Q ∨ ∃ a o, y = .ref a ∧ DGet H a x o ∧ Q (.bl (if n = true then !o.isSome else o.isSome)) H
theorem in_go (n : Bool) {x y : V} {d e : D} {b : Bool} {Q : VK} (rx : Rep G w H x d) (ly : Look G w H y e) (hz : inA d e = some b) (q : Q (.bl (if n = true then !b else b)) H) : rInD G.K n x y H Q := by
  by_cases hd : isDct e = true
  · cases e with
    | dct t kvs =>
      have hz : (lookD (.dct t kvs) d).map Option.isSome = some b := hz
      cases e3 : lookD (.dct t kvs) d with
      | none => rw [e3] at hz; cases hz
      | some oo =>
        rw [e3] at hz
        cases hz
        obtain ⟨a, ov, ex, g, ho⟩ := ly.isD rx e3
        refine .inr ⟨a, ov, ex, g, ?_⟩
        rcases ho with ⟨z1, z2⟩ | ⟨z', v, z1, z2, rv⟩ <;> (subst z1 z2; exact q)
    | _ => cases hd
  · have hz' : inO d e = some b := by cases e <;> first | exact hz | exact absurd rfl hd
    obtain ⟨w2, sf, ry⟩ := ly.rep (by cases h : isDct e <;> first | rfl | exact absurd h hd)
    left
    rcases in_sides (rx.soft sf) ry hz' with (⟨i, j, ex, ey, eb⟩ | ⟨p1, xs, ey, hs, f1, f2, eb⟩) | ⟨p1, ps, d1, d2, s1, s2, eb⟩
    · subst eb; exact .inl (.inl ⟨i, j, ex, ey, q⟩)
    · subst eb; exact .inl (.inr ⟨p1, xs, ey, hs, f1, f2, q⟩)
    · subst eb; exact .inr ⟨p1, ps, d1, d2, s1, s2, q⟩
end
section
variable {X : Cx} {T : Tb} {Z : Addr → Prop} {W : WX} {a b : Expr} {f g : Den D} {pos : Pos} {n : Nat}
theorem vw_se (h : SE X T Z W a f) : SV X T Z W a f := pe_imp h fun σ H Q ⟨w, ρ, h, S, R, p⟩ => ⟨w, ρ, h, S, R, p.imp fun w1 H1 h1 d e1 R1 p1 v r => p1 v (.inl r)⟩
theorem vw (i : Nat) {x : Str} {pos : Pos} (hN : X.N[i]? = some x := by rfl) (hv : Vis X.env.scope x := by first | exact Or.inl rfl | exact Or.inr (Or.inl rfl) | exact Or.inr (Or.inr rfl)) (hd : (x == ("__debug__" : Str)) = false := by decide)
    (hcd : (x == ("__classdict__" : Str)) = false := by decide) : SV X T Z W (.Name x pos) (dView i) :=
  pe_imp (pe_var hN hv hd hcd) fun σ H Q ⟨w, ρ, h, S, R, p⟩ => by
    unfold dView at p
    cases e : ρ[i]? with
    | none => rw [e] at p; exact p.elim
    | some s =>
      rw [e] at p
      cases s with
      | no => exact p.elim
      | x c fs => exact p.elim
      | own d =>
        obtain ⟨a, h1, h2, h3, h4⟩ := S.own i d e
        exact ⟨_, h1, p.now R _ (.inr ⟨a, rfl, h2, h4⟩)⟩
      | v d =>
        obtain ⟨x, h1, h2⟩ := S.val i d e
        exact ⟨x, h1, p.now R _ (.inl h2)⟩
theorem se_idx (hr : RmU X.A) (ha : SV X T Z W a f) (hb : SE X T Z W b g) (hs : PlainIx b) : SE X T Z W (.Subscript a b pos) (dIx f g) :=
  pe_imp (pe_ix (r := rIxA X.K) (ix_seq.or (ix_dict (hu1 hr))) ha hb hs) fun σ H Q ⟨w, ρ, h, S, R, p⟩ => step_V S R p fun w1 H1 h1 d x e1 S1 R1 r1 p1 => step_E S1 R1 p1 fun w2 H2 h2 e y e2 S2 R2 r2 p2 => by
    obtain ⟨z, hz, p2⟩ := post_opt' p2
    exact ix_go ((r1.le e2).look R2) r2 hz (p2.now R2)
theorem inv_go {X : Cx} (hr : RmU X.A) {σ : L2.St} {H : Hp} {Q : VK} (q : tE (gx X T) Z W (dIn g f) σ H Q) : tOp (rInD X.K false) (tE (gx X T) Z W g) (tVw (gx X T) Z W f) σ H Q := by
  obtain ⟨w, ρ, h, S, R, p⟩ := q
  refine step_E S R p fun w1 H1 h1 d x e1 S1 R1 r1 p1 => step_V S1 R1 p1 fun w2 H2 h2 e y e2 S2 R2 r2 p2 => ?_
  obtain ⟨z, hz, p2⟩ := post_opt' p2
  obtain ⟨b, hb, rfl⟩ := Option.map_eq_some_iff.mp hz
  exact in_go (G := gx X T) false (r1.le e2) (r2.look R2) hb (p2.now R2 _ (.bl b))
theorem ninv_go {X : Cx} (hr : RmU X.A) {σ : L2.St} {H : Hp} {Q : VK} (q : tE (gx X T) Z W (dNin g f) σ H Q) : tOp (rInD X.K true) (tE (gx X T) Z W g) (tVw (gx X T) Z W f) σ H Q := by
  obtain ⟨w, ρ, h, S, R, p⟩ := q
  refine step_E S R p fun w1 H1 h1 d x e1 S1 R1 r1 p1 => step_V S1 R1 p1 fun w2 H2 h2 e y e2 S2 R2 r2 p2 => ?_
  obtain ⟨z, hz, p2⟩ := post_opt' p2
  obtain ⟨b, hb, rfl⟩ := Option.map_eq_some_iff.mp hz
  exact in_go (G := gx X T) true (r1.le e2) (r2.look R2) hb (p2.now R2 _ (.bl _))
theorem op_inV (hr : RmU X.A) : OpR X (compareOp .In) (rInD X.K false) := (op_inAll (hu65 hr)).or (op_inDct (hu1 hr))
theorem op_ninV (hr : RmU X.A) : OpR X (compareOp .NotIn) (rInD X.K true) := (op_ninAll (hu65 hr)).or (op_ninDct (hu1 hr))
theorem se_inV (hr : RmU X.A) (ha : SE X T Z W a g) (hb : SV X T Z W b f) (hm : behindInMarks .In b = false := by rfl) : SE X T Z W (.Compare a [.In] [b] pos) (dIn g f) :=
  pe_imp (pe_cmpR (op_inV hr) ha hb hm) fun σ H Q q => inv_go hr q
theorem se_ninV (hr : RmU X.A) (ha : SE X T Z W a g) (hb : SV X T Z W b f) (hm : behindInMarks .NotIn b = false := by rfl) : SE X T Z W (.Compare a [.NotIn] [b] pos) (dNin g f) :=
  pe_imp (pe_cmpR (op_ninV hr) ha hb hm) fun σ H Q q => ninv_go hr q
theorem st_inV (hr : RmU X.A) (ha : SE X T Z W a g) (hb : SV X T Z W b f) (hm : behindInMarks .In b = false := by rfl) : ST X T Z W (.Compare a [.In] [b] pos) (dB (dIn g f)) :=
  pt_imp (pt_cmpR (op_inV hr) ha hb hm) fun σ H Q q => inv_go hr (tTe_dB q)
theorem st_ninV (hr : RmU X.A) (ha : SE X T Z W a g) (hb : SV X T Z W b f) (hm : behindInMarks .NotIn b = false := by rfl) : ST X T Z W (.Compare a [.NotIn] [b] pos) (dB (dNin g f)) :=
  pt_imp (pt_cmpR (op_ninV hr) ha hb hm) fun σ H Q q => ninv_go hr (tTe_dB q)
end

theorem call_lenA {X : Cx} : CallR X (.builtin "len") (fun xs H Q => (∃ x n, xs = [x] ∧ LenV X.K x H n ∧ Q (.int n) H) ∨ ∃ a kvs, xs = [V.ref a] ∧ Rd H a (.dK kvs) ∧ Q (.int kvs.length) H) :=
  call_len.or fun pins s σ H xs us Q I r h => by
    obtain ⟨a, kvs, rfl, ha, q⟩ := h
    obtain ⟨u, rfl, ru⟩ := vals1 r
    cases ru
    exact d_len I ha fun t s' I' => ⟨.int kvs.length, H, I', ⟨t, rfl⟩, q⟩
section
variable {G : Gx} {w : Wd} {H : Hp}
theorem len_go {x : V} {d : D} {n : Nat} {Q : VK} (lx : Look G w H x d) (hz : lenA d = some n) (q : Q (.int n) H) : (∃ y m, [x] = [y] ∧ LenV G.K y H m ∧ Q (.int m) H) ∨ ∃ a kvs, [x] = [V.ref a] ∧ Rd H a (.dK kvs) ∧ Q (.int kvs.length) H := by
  rcases lx with rx | ⟨a, rfl, ho⟩
  · cases rx with
    | @tup a xs ds h1 r1 => cases hz; exact .inl ⟨_, _, rfl, .inr ⟨xs, .of h1, r1.length.symm⟩, q⟩
    | @kup a xs ds h1 r1 => cases hz; exact .inl ⟨_, _, rfl, .inr ⟨xs, h1 _, r1.length.symm⟩, q⟩
    | @lst a xs ds f h1 r1 => cases hz; exact .inl ⟨_, _, rfl, .inl ⟨xs, .of h1, r1.length.symm⟩, q⟩
    | @scr a o ns f h1 => cases hz; exact .inl ⟨_, _, rfl, .inl ⟨_, .inl (.inr ⟨o, h1⟩), by simp⟩, q⟩
    | str z =>
      simp only [lenA] at hz
      split at hz
      · rename_i hl; cases hz; exact .inl ⟨_, _, rfl, ⟨by rw [szl]; exact hl, rfl⟩, q⟩
      · cases hz
    | @dK a o kvs ds f h1 r1 => cases hz; rw [← r1.length] at q; exact .inr ⟨a, kvs, rfl, .inr ⟨o, h1⟩, q⟩
    | _ => cases hz
  · cases d with
    | lst ds => obtain ⟨xs, h1, r1⟩ := ho; cases hz; exact .inl ⟨_, _, rfl, .inl ⟨xs, .of h1, r1.length.symm⟩, q⟩
    | dct t kvs =>
      cases t with
      | false => obtain ⟨vs, h1, r1⟩ := ho; cases hz; rw [← r1.length] at q; exact .inr ⟨a, vs, rfl, .inl h1, q⟩
      | true => cases hz
    | ins c fs => cases hz
    | _ => exact ho.elim
end
section
variable {X : Cx} {T : Tb} {Z : Addr → Prop} {W : WX} {a b : Expr} {es : List Expr} {f g : Den D} {t : Den (List D)} {pos p : Pos} {n : Nat}
theorem se_len (hg : Gl X "len") (hm : X.mg "len" = none) (ha : SV X T Z W a f) (he : starEach [a] X.env = (false, eval a X.env) :: starEach [] X.env := by rfl) : SE X T Z W (.Call (.Name "len" p) [a] [] pos) (dLen f) :=
  pe_imp (pe_callB call_lenA hg hm rfl (pa_cons ha pa_nil he) (by decide) (by decide) he) fun σ H Q ⟨w, ρ, h, S, R, p⟩ => step_V S R p fun w1 H1 h1 d x e1 S1 R1 r1 p1 => by
    obtain ⟨z, hz, p2⟩ := post_opt' p1
    obtain ⟨k, hk, rfl⟩ := Option.map_eq_some_iff.mp hz
    exact len_go (G := gx X T) (r1.look R1) hk (p2.now R1 _ (.int _))
end

def tFr (G : Gx) (Z : Addr → Prop) (W : WX) (f : Den D) : TE := fun σ H Q => ∃ w ρ h, SRel G Z w H ρ σ ∧ HRel G w H h ∧ Post G w H (f ρ h) (fun w' H' _ d => ∀ a, w'.L a → ¬ w.L a → OwnRep G w' H' a d → Q (.ref a) H') (fun c d H' => W c d σ H')
/-- a new list, dict or instance -/
abbrev SF (X : Cx) (T : Tb) (Z : Addr → Prop) (W : WX) (e : Expr) (f : Den D) : Prop := PE X e (tFr (gx X T) Z W f)
def sOwn (i : Nat) (f : Den D) : SDen := fun ρ h => sBind (f ρ h) ρ fun d h1 => .ok .next (ρ.set i (.own d)) h1
/-- what is laid at p -/
theorem post_own {G : Gx} {w w0 : Wd} {H : Hp} {h : Hl} {o : HO} {d : D} {Q : VK} {EX : Value → Option Addr → Hp → Prop} (e0 : ∀ a, w0.L a → w.L a) (R : HRel G w H h) (nt : NT o) (ho : ∀ q, H q = none → OwnRep G (w.addL q) (upd H q o) q d)
    (p : Post G w H (.ok d h) (fun w' H' _ d => ∀ a, w'.L a → ¬ w0.L a → OwnRep G w' H' a d → Q (.ref a) H') EX) : ∀ q, H q = none → Q (.ref q) (upd H q o) := fun q hq =>
  p (w.addL q) _ (Le.addL hq) (R.addL hq nt) q (.inr rfl) (fun z => (R.fresh hq).2.1 (e0 q z)) (ho q hq)
section
variable {X : Cx} {T : Tb} {Z : Addr → Prop} {W : WX} {e : Expr} {es : List Expr} {f : Den D} {g : Den (List D)} {pos : Pos}
def dNew (t : Bool) : Den D := fun _ h => .ok (.dct t []) h
theorem sf_lst (h : SA X T Z W es g) : SF X T Z W (.List es pos) (dLst g) :=
  pe_imp (pe_lst h) fun σ H Q ⟨w, ρ, h, S, R, p⟩ => step_A S R p fun w1 H1 h1 ds xs e1 S1 R1 r1 p1 => by
    by_cases hl : ds.length ≤ 16777216
    · rw [if_pos hl] at p1
      exact ⟨by rw [szl, r1.length]; exact hl, post_own (d := .lst ds) e1.L R1 (fun _ z => by cases z) (fun q hq => ⟨xs, upd_same, r1.le (Le.addL hq)⟩) p1⟩
    · rw [if_neg hl] at p1; exact p1.elim
theorem sf_newK : SF X T Z W (.Dict [] [] pos) (dNew false) := pe_imp pe_dnewK fun σ H Q ⟨w, ρ, h, S, R, p⟩ => post_own (d := .dct false []) (fun _ z => z) R (fun _ z => by cases z) (fun q hq => ⟨[], upd_same, .nil⟩) p
theorem sf_newT : SF X T Z W (.Dict [] [] pos) (dNew true) := pe_imp pe_dnewT fun σ H Q ⟨w, ρ, h, S, R, p⟩ => post_own (d := .dct true []) (fun _ z => z) R (fun _ z => by cases z) (fun q hq => ⟨[], upd_same, .nil⟩) p
theorem ss_own {i : Nat} {x : Str} {pos' : Pos} (hN : X.N.Nodup) (hi : X.N[i]? = some x) (hx : Loc X.env.scope x) (he : ∀ Z, SF X T Z W e f) (hs : swapsWith e (some (.Name x pos')) pos.line X.env = pure false := by rfl)
    (hf : X.fn x = true ∨ X.env.scope.names.lookup x = some .local := by first | exact .inl rfl | exact .inr rfl | assumption) : SS X T W (.Assign [.Name x pos'] e pos) (sOwn i f) := fun w0 H0 =>
  ps_imp (ps_set hN hi hx (he w0.L) hs hf) fun D σ H ⟨w, ρ, h, S, R, L, p⟩ =>
    ⟨w, ρ, h, S, R, (Post.of_s S L p).imp fun w1 H1 h1 d e1 R1 p1 a hL nL ho => p1.now ((S.le e1).seto hL (fun z => nL (L.L a z)) ho fun j e' hj hne hz => by
      obtain ⟨b, q1, q2, _⟩ := S.own j e' hj
      rw [hz] at q1; cases q1; exact nL q2) R1 (L.trans e1)⟩
end
/-- .. which from here on stands as it is -/
theorem pe_lockF {X : Cx} {e : Expr} {t : TE} (h : PE X e t) : PE X e (fun σ H Q => t σ H fun v H' => Q v H' ∨ ∃ d u, H' d = some u ∧ Mut (some u) ∧ ∀ od, Q v (upd H' d (.frz od u))) := by
  refine ⟨fun pins s σ H Q I hw => ?_⟩
  refine thn (h.run pins s σ H _ I hw) fun v s1 ⟨x, H1, I1, r, q⟩ => ?_
  rcases q with q | ⟨d, u, hd, mu, q⟩
  · exact ⟨x, H1, I1, r, q⟩
  · obtain ⟨od, I2⟩ := I1.lock hd mu
    exact ⟨x, _, I2, r, q od⟩
theorem se_fr {X : Cx} {T : Tb} {Z : Addr → Prop} {W : WX} {e : Expr} {f : Den D} (h : SF X T Z W e f) : SE X T Z W e f :=
  pe_imp (pe_lockF h) fun σ H Q ⟨w, ρ, h, S, R, p⟩ => by
    refine ⟨w, ρ, h, S, R, ?_⟩
    revert p
    cases f ρ h with
    | bad => exact fun p => p
    | exc c fs h1 => exact fun p => p
    | ok d h1 =>
      intro p w1 H1 e1 R1 a hL nL ho
      rcases own_frz (P := fun H' => Q (.ref a) H') R1 (Le.refl w1 H1 |> fun _ => e1) hL nL ho (fun H' R2 L2 r2 k => p _ H' L2 R2 _ r2) with z | ⟨u, h5, h6, h7⟩
      · exact .inl z
      · exact .inr ⟨a, u, h5, h6, h7⟩
end Pf
end
section
set_option maxRecDepth 100000
namespace PySem.W
open PySem PySem.Spec PySem.Calls PyProof.Rows
section
variable {prog : Program} {w : World} {A : Around} {E : Value → Shared → Prop} {s : Shared} {env : Env}
theorem pf_starL {l : Addr} {items : Array Value} {i : Nat} {Q : List Value → Shared → Prop} (hl : s.heap.IsList l items) (hh : A.handled = none) (hi : i ≤ items.size) (hz : items.size ≤ sizeLine)
    (h : ∀ (h' : Heap) (tk : Tok), (∀ b o, s.heap.get? b = some o → h'.get? b = some o) → Q (items.toList.take i ++ [.ref h'.objs.size] ++ []) { s with heap := h'.push { cls := .type "list", data := .seq (items.toList.drop i).toArray }, toks := tk }) :
    wpAny (model prog w) A (unpackItems (.ref l) (i + 1) (some i)) Q E s := by
  have hlt : l ≠ s.heap.objs.size := by obtain ⟨o, ho, _⟩ := hl; exact Nat.ne_of_lt (Heap.lt_size ho)
  have hll : l < s.heap.objs.size := by obtain ⟨o, ho, _⟩ := hl; exact Heap.lt_size ho
  unfold unpackItems
  refine wpAny_bind ?_
  unfold notIterableAtAll
  refine wpAny_bind (wpAny_specialOf hl.typeIs slot_list_iter.lookup ?_)
  refine wpAny_pure ?_
  simp only [Bool.false_eq_true, if_false]
  refine wpAny_bind (wpAny_holding (wpAny_pyIter_list hl ?_))
  refine wpAny_bind (wpAny_holding (kun_draw hlt i 0 _ _ ⟨_, Heap.get?_push_size _ rfl, rfl, rfl⟩ (hl.push _) (by omega) fun h₁ hit₁ hs₁ => ?_))
  have hl₁ : h₁.IsList l items := (hl.push _).extBut hs₁.extBut hlt
  rw [Nat.zero_add] at hit₁
  have hit₁' := hit₁
  obtain ⟨oi, hoi, _⟩ := hit₁'
  have hl₁' := hl₁
  obtain ⟨ol, hol, _⟩ := hl₁'
  rw [List.drop_zero]
  have hfl : (items.toList.take i).length = i := by rw [List.length_take, Array.length_toList]; omega
  rw [if_neg (show ¬ ((items.toList.take i).length < i) by rw [hfl]; omega)]
  refine wpAny_bind (wpAny_holding (kun_collect (s := { s with heap := h₁ }) (T := "list_iterator") (.inr (.inr (.inl rfl))) (Walks.list (A := A.in1) hh s.heap.objs.size l hlt items) (fun j u st => st.1.typeIs) (k := i) (by omega) ⟨hit₁, hl₁⟩ (Heap.lt_size hoi) (Heap.lt_size hol) (fun h₂ tk hk => ?_) hz))
  have hrl : (items.toList.drop i).length = items.size - i := by rw [List.length_drop, Array.length_toList]
  show wpAny _ _ (if (items.toList.drop i).length < i + 1 - 1 - i then _ else _) _ _ _
  rw [if_neg (by omega)]
  have e0 : (items.toList.drop i).length - (i + 1 - 1 - i) = (items.toList.drop i).length := by omega
  show wpAny _ _ (newList ((items.toList.drop i).take ((items.toList.drop i).length - (i + 1 - 1 - i))) >>= fun d => pure (items.toList.take i ++ [d] ++ (items.toList.drop i).drop ((items.toList.drop i).length - (i + 1 - 1 - i)))) _ _ _
  rw [e0, List.take_length, List.drop_length]
  have he : Heap.ExtBut s.heap.objs.size s.heap h₂ := fun b o hb e => hk b o hb (hs₁.extBut b o hb (Heap.get?_push_of_some _ e))
  have hkeep : ∀ b o, s.heap.get? b = some o → h₂.get? b = some o := fun b o e => he b o (Nat.ne_of_lt (Heap.lt_size e)) e
  exact wpAny_bind (wpAny_newList (s := { s with heap := h₂, toks := tk }) (wpAny_pure (h h₂ tk hkeep)) (by rw [hrl]; omega))
end
end PySem.W

namespace L2
open PySem PySem.Spec PyProof.Rows
/-- a, .., *rest = a list -/
def gStarL (K : PySem.W.Frag) (i : Nat) (t : TGs) : TG := fun v σ H Q => ∃ a xs, v = .ref a ∧ SqL K H a xs ∧ i ≤ xs.length ∧ ∀ p, H p = none → t (xs.take i ++ [.ref p]) σ (upd H p (.lst (xs.drop i))) Q
theorem Vals.takeP : ∀ {xs : List V} {us : List Value} (n : Nat), Vals xs us → Vals (xs.take n) (us.take n)
  | _, _, 0, _ => .nil
  | _, _, _ + 1, .nil => .nil
  | _, _, n + 1, .cons a b => .cons a (Vals.takeP n b)
theorem Vals.dropP : ∀ {xs : List V} {us : List Value} (n : Nat), Vals xs us → Vals (xs.drop n) (us.drop n)
  | _, _, 0, h => h
  | _, _, _ + 1, .nil => .nil
  | _, _, n + 1, .cons _ b => Vals.dropP n b
theorem pg_starL {X : Cx} {pos : Pos} {es : List Expr} {k : Nat} {t : TGs} {i : Nat} (hc : X.calm = true)
    (h : PGs X es t)
    (hn : (assignEach es X.env).length = i + 1) (hst : (assignEach es X.env).findIdx? (·.1) = some i) : PG X (.Tuple es k pos) (gStarL X.K i t) := by
  refine ⟨fun pins s σ H v u Q I r hw => ?_⟩
  obtain ⟨a, xs, e1, hq, hl, hw⟩ := hw
  subst e1
  cases r
  obtain ⟨its, rv, pl, hz⟩ := I.list hq
  have hl' : s.heap.IsList a its.toArray := by
    obtain ⟨o, m, e, c, d, q⟩ := pl
    exact ⟨o, e, c, m, q⟩
  have hlen := rv.length
  rw [PyProof.Rows.assign_Tuple]
  refine wpAny_bind (wpAny_standAt ?_)
  unfold unpack
  rw [hn, hst]
  refine wpAny_bind (wpAny_holding (PySem.W.pf_starL hl' (I.ok.hd hc) (by simp; omega) (by simp; omega) fun h' tk kp => ?_))
  have I1 : Inv X pins σ H { s with heap := h', toks := tk } := I.kept (t' := tk) kp
  have rd : Vals (xs.drop i) (its.drop i) := rv.dropP i
  have I2 : Inv X pins σ (upd H h'.objs.size (.lst (xs.drop i))) { s with heap := h'.push { cls := .type "list", data := .seq (its.drop i).toArray }, toks := tk } :=
    I1.laid (t' := tk) (fun b o e => Heap.get?_push_of_some _ e) (Nat.le_refl _) ⟨by rw [List.length_drop]; omega, its.drop i, 0, rd, Heap.get?_push_size _ rfl⟩
  exact h.run pins _ σ _ _ _ Q I2 (by simpa using (rv.takeP i).append (.cons (show RelV (.ref h'.objs.size) (.ref h'.objs.size) from rfl) .nil)) (hw _ (I1.hok.fresh (Nat.le_refl _)))
end L2
namespace Pf
open PySem PySem.Spec PyProof.Rows L2 LamX

section
variable {G : Gx} {w w0 : Wd} {H H0 : Hp} {h : Hl} {a : Addr} {o o' : HO} {r : Nat} {q : O}
theorem HRel.mutM (R : HRel G w H h) (hm : w.m r = some a) (ha : H a = some o) (mu : MutO o) (ho : ORep G w (upd H a o') a q) : HRel G w (upd H a o') (h.set r q) where
  live := fun s b e => by
    by_cases hs : s = r
    · subst hs
      rw [hm] at e
      cases e
      obtain ⟨u, h1, h2⟩ := R.live s a hm
      have hl : s < h.length := (List.getElem?_eq_some_iff.mp h1).1
      exact ⟨q, by rw [List.getElem?_set_self hl], ho⟩
    · obtain ⟨u, h1, h2⟩ := R.live s b e
      have nb : b ≠ a := fun z => hs (R.inj s r a (z ▸ e) hm)
      exact ⟨u, by rw [List.getElem?_set_ne (Ne.symm hs)]; exact h1, h2.soft (soft_mut (fun f => (R.mF r a hm).1 f) ha mu) (upd_ne nb)⟩
  all := fun s hs => R.all s (by rwa [List.length_set] at hs)
  inj := R.inj
  mF := R.mF
  FL := R.FL
  there := fun b hb => by
    by_cases hq : b = a
    · rw [hq, upd_same]; exact fun z => by cases z
    · rw [upd_ne hq]; exact R.there b hb
  ntb := fun b ps e => by
    by_cases hq : b = a
    · subst hq; exact R.mF r b hm
    · rw [upd_ne hq] at e; exact R.ntb b ps e
  tabs := tabs_mut R.tabs ha mu
theorem Le.mutM (e : Le w0 H0 w H) (R : HRel G w H h) (hm : w.m r = some a) (ha : H a = some o) (mu : MutO o) : Le w0 H0 w (upd H a o') where
  F := e.F
  L := e.L
  m := e.m
  hF := fun b u f z => by
    have nb : b ≠ a := fun q => (R.mF r a hm).1 (q ▸ e.F b f)
    rw [upd_ne nb]; exact e.hF b u f z
  hL := fun b u f z => by
    have nb : b ≠ a := fun q => (R.mF r a hm).2 (q ▸ e.L b f)
    rw [upd_ne nb]; exact e.hL b u f z
  tup := fun b xs z => by
    have z' := e.tup b xs z
    have nb : b ≠ a := fun q => by subst q; rw [ha] at z'; cases z'; exact mu
    rw [upd_ne nb]; exact z'
  frz := fun b ob u z => by
    have z' := e.frz b ob u z
    have nb : b ≠ a := fun q => by subst q; rw [ha] at z'; cases z'; exact mu
    rw [upd_ne nb]; exact z'
theorem SRel.mutM {Z : Addr → Prop} {ρ : Rho} {σ : L2.St} (S : SRel G Z w H ρ σ) (R : HRel G w H h) (hm : w.m r = some a) (ha : H a = some o) (mu : MutO o) : SRel G Z w (upd H a o') ρ σ :=
  have sf : Soft G w H w (upd H a o') := soft_mut (fun f => (R.mF r a hm).1 f) ha mu
  { len := S.len
    val := fun j q hq => by
      obtain ⟨x, h1, h2⟩ := S.val j q hq
      exact ⟨x, h1, h2.soft sf⟩
    own := fun j q hq => by
      obtain ⟨b, h1, h2, h3, h4⟩ := S.own j q hq
      have nb : b ≠ a := fun z => (R.mF r a hm).2 (z ▸ h2)
      exact ⟨b, h1, h2, h3, h4.soft sf (upd_ne nb)⟩
    sep := S.sep
    exn := fun i c fs h => by
      obtain ⟨b, C, dx, vs, h1, h2, h3, h4, h5, h6⟩ := S.exn i c fs h
      have nd : dx ≠ a := fun z => (R.mF r a hm).1 (z ▸ h3)
      exact ⟨b, C, dx, vs, h1, h2, h3, by rw [upd_ne nd]; exact h4, h5, h6.soft sf⟩ }
end

def putD : D → D → D → Option D
  | .lst ds, .int j, d => (ixN ds.length j).map fun n => .lst (ds.set n d)
  | .dct t kvs, e, d => match t, dkD e with
    | false, some (.k a) => if kvs.length < 16777216 then some (.dct false (putA kvs (.k a) d)) else none
    | true, some (.t a) => if kvs.length < 16777216 then some (.dct true (putA kvs (.t a) d)) else none
    | _, _ => none
  | _, _, _ => none
def oD : D → Option O
  | .lst ds => some (.lst ds)
  | .ins c fs => some (.ins c fs)
  | _ => none
/-- what slot i holds becomes what f makes of it -/
def chg (i : Nat) (f : D → Option D) : Rho → Hl → Option (Rho × Hl) := fun ρ h => match ρ[i]? with
  | some (.own d) => (f d).map fun d' => (ρ.set i (.own d'), h)
  | some (.v (.ref r)) => ((f (atR (.ref r) h)).bind oD).map fun q => (ρ, h.set r q)
  | _ => none
def gSub (i : Nat) (k : Den D) : Tg := fun d ρ h => match k ρ h with
  | .ok e h1 => chg i (fun o => putD o e d) ρ h1
  | _ => none
/-- the step in the heap: slot i's object, as it is looked at, turns -/
theorem chg_go {G : Gx} {Z : Addr → Prop} {w : Wd} {H : Hp} {h h' : Hl} {ρ ρ' : Rho} {σ : L2.St} {i : Nat} {f : D → Option D} {x : V} (S : SRel G Z w H ρ σ) (R : HRel G w H h) (hx : σ[i]? = some (some x)) (hc : chg i f ρ h = some (ρ', h')) :
    ∃ a d d' o, x = .ref a ∧ f d = some d' ∧ OwnRep G w H a d ∧ H a = some o ∧ MutO o ∧ ∀ o', NT o' → (Soft G w H w (upd H a o') → OwnRep G w (upd H a o') a d') → HRel G w (upd H a o') h' ∧ SRel G Z w (upd H a o') ρ' σ ∧ (∀ {w0 H0}, Le w0 H0 w H → ¬ w0.L a ∨ ¬ w.L a → Le w0 H0 w (upd H a o')) ∧ ¬ (w.L a ∧ Z a) := by
  have mutO : ∀ {a d}, OwnRep G w H a d → ∃ o, H a = some o ∧ MutO o := fun {a d} z => by
    cases d with
    | lst ds => obtain ⟨xs, h1, _⟩ := z; exact ⟨_, h1, trivial⟩
    | dct t kvs => cases t <;> (obtain ⟨xs, h1, _⟩ := z; exact ⟨_, h1, trivial⟩)
    | ins c fs => obtain ⟨_, _, _, _, h1, _⟩ := z; exact ⟨_, h1, trivial⟩
    | _ => exact z.elim
  unfold chg at hc
  cases e : ρ[i]? with
  | none => rw [e] at hc; cases hc
  | some s =>
    rw [e] at hc
    cases s with
    | no => cases hc
    | x c fs => cases hc
    | own d =>
      simp only [Option.map_eq_some_iff] at hc
      obtain ⟨d', hf, hc⟩ := hc
      cases hc
      obtain ⟨a, h1, h2, h3, h4⟩ := S.own i d e
      rw [hx] at h1
      cases h1
      obtain ⟨o, ho, mu⟩ := mutO h4
      exact ⟨a, d, d', o, rfl, hf, h4, ho, mu, fun o' nt k => ⟨R.mutL h2 ho mu nt, S.mutO R e hx h2 h3 ho mu (k (soft_mut (fun f => R.FL a f h2) ho mu)), fun {w0 H0} L n => L.mutL R h2 (n.resolve_right fun z => z h2) ho mu, fun z => h3 z.2⟩⟩
    | v d =>
      cases d with
      | ref r =>
        simp only [Option.map_eq_some_iff, Option.bind_eq_some_iff] at hc
        obtain ⟨q, ⟨d', hf, hq⟩, hc⟩ := hc
        cases hc
        obtain ⟨x', h1, h2⟩ := S.val i _ e
        rw [hx] at h1
        cases h1
        cases h2 with
        | @ref a r hm =>
          obtain ⟨u, e1, e2⟩ := R.live r a hm
          have hd : OwnRep G w H a (atR (.ref r) h) := by
            unfold atR
            simp only [e1]
            cases u with
            | lst ds => exact e2
            | ins c fs => exact e2
          obtain ⟨o, ho, mu⟩ := mutO hd
          refine ⟨a, _, d', o, rfl, hf, hd, ho, mu, fun o' nt k => ⟨R.mutM hm ho mu ?_, S.mutM R hm ho mu, fun {w0 H0} L _ => L.mutM R hm ho mu, fun z => (R.mF r a hm).2 z.1⟩⟩
          have k' := k (soft_mut (fun f => (R.mF r a hm).1 f) ho mu)
          cases d' with
          | lst ds => cases hq; exact k'
          | ins c fs => cases hq; exact k'
          | _ => cases hq
      | _ => cases hc
section
variable {X : Cx}
/-- o[i] = v on a dict -/
theorem set_dict (hu : X.A.units + 1 < cLine) : PSet X (fun o i v H Q => ∃ a H', o = .ref a ∧ DPut H a i v H' ∧ Q H') := by
  intro pins s σ H o i v ov iv u Q I ro ri rv h
  obtain ⟨a, H', rfl, g, q⟩ := h
  obtain rfl : ov = Value.ref a := ro
  exact d_setItem hu I g ri rv fun s4 I4 => ⟨H', I4, q⟩
theorem set_any (hu : X.A.units + 1 < cLine) : PSet X (fun o i v H Q => rSetL o i v H Q ∨ ∃ a H', o = .ref a ∧ DPut H a i v H' ∧ Q H') := by
  intro pins s σ H o i v ov iv u Q I ro ri rv h
  rcases h with h | h
  · exact set_list pins s σ H o i v ov iv u Q I ro ri rv h
  · exact set_dict hu pins s σ H o i v ov iv u Q I ro ri rv h
end
/-- the new object behind o[i] = v -/
theorem put_go {G : Gx} {w : Wd} {H : Hp} {a : Addr} {d d' e z : D} {y v : V} {Q : Hp → Prop} (ho : OwnRep G w H a d) (ry : Rep G w H y e) (rv : Rep G w H v z) (hp : putD d e z = some d')
    (k : ∀ o', NT o' → (Soft G w H w (upd H a o') → OwnRep G w (upd H a o') a d') → Q (upd H a o')) : rSetL (.ref a) y v H Q ∨ ∃ b H', V.ref a = .ref b ∧ DPut H b y v H' ∧ Q H' := by
  cases d with
  | lst ds =>
    obtain ⟨xs, h1, h2⟩ := ho
    cases ry <;> simp only [putD, reduceCtorEq, Option.map_eq_some_iff] at hp
    rename_i j
    obtain ⟨n, hn, rfl⟩ := hp
    exact .inl ⟨a, xs, j, n, rfl, rfl, h1, by rw [h2.length]; exact hn, k _ (fun _ z => by cases z) fun sf => ⟨_, upd_same, (h2.soft sf).set n (rv.soft sf)⟩⟩
  | dct t kvs =>
    cases t with
    | false =>
      obtain ⟨vs, h1, h2⟩ := ho
      simp only [putD] at hp
      cases hk : dkD e with
      | none => rw [hk] at hp; cases hp
      | some dk =>
        rw [hk] at hp
        cases dk with
        | t as => cases hp
        | k b =>
          simp only at hp
          split at hp
          · rename_i hl
            cases hp
            exact .inr ⟨a, _, rfl, .inl ⟨vs, b, h1, dkD_k ry hk, by rw [szl, h2.length]; exact hl, rfl⟩, k _ (fun _ z => by cases z) fun sf => ⟨_, upd_same, (h2.soft sf).put b (rv.soft sf)⟩⟩
          · cases hp
    | true =>
      obtain ⟨vs, h1, h2⟩ := ho
      simp only [putD] at hp
      cases hk : dkD e with
      | none => rw [hk] at hp; cases hp
      | some dk =>
        rw [hk] at hp
        cases dk with
        | k b => cases hp
        | t b =>
          simp only at hp
          split at hp
          · rename_i hl
            cases hp
            obtain ⟨p, ey, hb⟩ := dkD_t ry hk
            exact .inr ⟨a, _, rfl, .inr ⟨vs, b, p, h1, ey, hb, by rw [szl, h2.length]; exact hl, rfl⟩, k _ (fun _ z => by cases z) fun sf => ⟨_, upd_same, (h2.soft sf).put b (rv.soft sf)⟩⟩
          · cases hp
  | _ => simp only [putD, reduceCtorEq] at hp
section
variable {X : Cx} {T : Tb} {W : WX} {e : Expr} {es : List Expr} {f k : Den D} {g : Tg} {gs : Tgs} {pos p : Pos} {n kk : Nat} {ns ns' : List Nat}
theorem sg_sub {i : Nat} {x : Str} (hr : RmU X.A) (hN : X.N[i]? = some x) (hv : Vis X.env.scope x) (hk : ∀ Z, SE X T Z (fun _ _ _ _ => False) e k)
    (ha : ∀ v, assign (.Subscript (.Name x p) e pos) X.env v = (do
      let ov ← holding [v] (eval (.Name x p) X.env)
      let iv ← holding [v, ov] (eval e X.env)
      standAt pos
      holding [v, ov, iv] (setItem ov iv v)
      release [v, ov, iv] []) := by intro _; rfl)
    (hd : (x == ("__debug__" : Str)) = false := by decide) (hcd : (x == ("__classdict__" : Str)) = false := by decide) : SG X T false (.Subscript (.Name x p) e pos) (gSub i k) [] :=
  pg_imp (pg_sub (ti := fun σ H Q => ∃ Z, tE (gx X T) Z (fun _ _ _ _ => False) k σ H Q) (pe_var hN hv hd hcd) ⟨fun pins s σ H Q I ⟨Z, q⟩ => (hk Z).run pins s σ H Q I q⟩ (set_any (hu1 hr)) ha) fun v σ H Q ⟨Z, w, ρ, h, d, ρ', h', S, R, r, q, kk⟩ => by
    unfold gSub at q
    cases hke : k ρ h with
    | bad => rw [hke] at q; cases q
    | exc c fs h1 => rw [hke] at q; cases q
    | ok ek h1 =>
      rw [hke] at q
      simp only at q
      have hx : ∃ x', σ[i]? = some (some x') := by
        unfold chg at q
        cases e1 : ρ[i]? with
        | none => rw [e1] at q; cases q
        | some s =>
          cases s with
          | no => rw [e1] at q; cases q
          | x c fs => rw [e1] at q; cases q
          | own d0 => obtain ⟨a, h1, _⟩ := S.own i d0 e1; exact ⟨_, h1⟩
          | v d0 => obtain ⟨a, h1, _⟩ := S.val i d0 e1; exact ⟨_, h1⟩
      obtain ⟨x', hx⟩ := hx
      refine ⟨x', hx, Z, w, ρ, h, S, R, ?_⟩
      rw [hke]
      intro w2 H2 e2 R2 y ry
      obtain ⟨a, d0, d1, o, rfl, hf, ho, hao, mu, fin⟩ := chg_go (S.le e2) R2 hx q
      refine put_go ho ry (r.le e2) hf fun o' nt k' => ?_
      obtain ⟨f1, f2, f3, f4⟩ := fin o' nt k'
      exact kk σ w2 _ (f3 (e2.onZ _) (by
        by_cases hL : w2.L a
        · exact .inl fun z => f4 ⟨hL, z.2.resolve_left (by decide)⟩
        · exact .inr hL)) f1 f2 fun _ _ => rfl
end
theorem sgs_star {X : Cx} {T : Tb} {fl : Bool} {e : Expr} {es : List Expr} {g : Tg} {gs : Tgs} {p : Pos} {ns ns' : List Nat} (h1 : SG X T fl e g ns) (h2 : SGs X T fl es gs ns') : SGs X T fl (.Starred e p :: es) (gsCons g gs) (ns ++ ns') :=
  pgs_imp (t := gCons (tG (gx X T) fl g ns) (tGs (gx X T) fl gs ns')) ⟨fun pins s σ H vs us Q I r h => by
    obtain ⟨v, vr, e1, h⟩ := h
    subst e1
    cases r with
    | cons r rr =>
      show wpAny _ _ (assignInOrder (assign e X.env :: (assignEach es X.env).map (·.2)) _) _ _ _
      exact assignInOrder_cons (thn (h1.run pins s σ H _ _ _ I r h) fun _ s1 ⟨σ1, H1, I1, q1⟩ => h2.run pins s1 σ1 H1 _ _ Q I1 rr q1)⟩ fun vs σ H Q q => gsCons_go q
def gStar (i : Nat) (gs : Tgs) : Tg := fun d ρ h => match d with
  | .lst ds => if i ≤ ds.length then gs (ds.take i ++ [.lst (ds.drop i)]) ρ h else none
  | _ => none
theorem Le.addFZ {w : Wd} {H : Hp} {Z : Addr → Prop} {p : Addr} {o : HO} (hp : H p = none) : Le (w.onZ Z) H ((w.addF p).onZ Z) (upd H p o) :=
  ⟨fun _ h => .inl h, fun _ h => h, fun _ _ h => h, fun _ _ _ h => upd_keep hp h, fun _ _ _ h => upd_keep hp h, fun _ _ h => upd_keep hp h, fun _ _ _ h => upd_keep hp h⟩
theorem sg_starL {X : Cx} {T : Tb} {fl : Bool} {es : List Expr} {gs : Tgs} {pos : Pos} {i kk : Nat} {ns : List Nat} (hc : X.calm = true) (h : SGs X T fl es gs ns) (hn : (assignEach es X.env).length = i + 1 := by rfl) (hst : (assignEach es X.env).findIdx? (·.1) = some i := by rfl) :
    SG X T fl (.Tuple es kk pos) (gStar i gs) ns :=
  pg_imp (pg_starL hc h hn hst) fun v σ H Q ⟨Z, w, ρ, h, d, ρ', h', S, R, r, e, k⟩ => by
    cases r with
    | @lst a xs ds f h1 r1 =>
      have e' : (if i ≤ ds.length then gs (ds.take i ++ [.lst (ds.drop i)]) ρ h else none) = some (ρ', h') := e
      by_cases hl : i ≤ ds.length
      · rw [if_pos hl] at e'
        refine ⟨a, xs, rfl, .of h1, by rw [r1.length]; exact hl, fun q hq => ?_⟩
        have r2 := r1.le (Le.addF (o := .lst (xs.drop i)) hq)
        refine ⟨Z, w.addF q, ρ, h, _, ρ', h', S.le (Le.addF hq), R.addF hq, (r2.take i).append (.cons (.lst (.inr rfl) upd_same (r2.drop i)) .nil), e', fun σ' w' H' L' R' S' v' => k σ' w' H' ?_ R' S' v'⟩
        exact (Le.addFZ hq).trans L'
      · rw [if_neg hl] at e'; cases e'
    | _ => cases e
def sAsg (f : Den D) (g : Tg) : SDen := fun ρ h => sBind (f ρ h) ρ fun d h1 => match g d ρ h1 with
  | some (ρ', h') => .ok .next ρ' h'
  | none => .bad
def sPar (f : Den (List D)) (i j : Nat) : SDen := fun ρ h => sBind (f ρ h) ρ fun ds h1 => match ds with
  | [d, e] => .ok .next ((ρ.set i (.v d)).set j (.v e)) h1
  | _ => .bad
/-- name, other = value, a new object -/
def sParO (f g : Den D) (i j : Nat) : SDen := fun ρ h => sBind (f ρ h) ρ fun d h1 => sBind (g ρ h1) ρ fun e h2 => .ok .next ((ρ.set i (.v d)).set j (.own e)) h2
section
variable {X : Cx} {T : Tb} {W : WX} {tg e a b : Expr} {f f' : Den D} {t : Den (List D)} {g : Tg} {pos : Pos} {ns : List Nat}
theorem ss_asg (he : ∀ Z, SE X T Z W e f) (hg : SG X T false tg g ns) (hs : swapsWithSole [tg] e pos.line X.env = pure false := by rfl) (hw : swappedStores [tg] e X.env = pure none := by rfl)
    (h1 : (assignEach [tg] X.env).map (·.2) = [assign tg X.env] := by rfl) : SS X T W (.Assign [tg] e pos) (sAsg f g) := fun w0 H0 =>
  ps_imp (ps_asg (he w0.L) hg hs hw h1) fun D σ H ⟨w, ρ, h, S, R, L, p⟩ => sstep_E S R L p fun w1 H1 h1 d x e1 S1 R1 L1 r1 p1 => by
    cases hg : g d ρ h1 with
    | none => rw [hg] at p1; exact p1.elim
    | some q =>
      obtain ⟨ρ', h'⟩ := q
      rw [hg] at p1
      exact ⟨w0.L, w1, ρ, h1, d, ρ', h', S1, R1, r1, hg, fun σ' w' H' L' R' S' _ => p1 w' σ' H' (L1.thenZ L'.ofZF) R' S'⟩
theorem ss_par {i j : Nat} {x y : Str} {px py pt : Pos} {kt k2 pt2} (hc : X.calm = true) (hN : X.N.Nodup) (hi : X.N[i]? = some x) (hj : X.N[j]? = some y) (hij : i ≠ j)
    (hx : X.env.scope.names.lookup x = some .local) (hy : X.env.scope.names.lookup y = some .local) (ha : ∀ Z, SA X T Z W [a, b] t)
    (hw : swappedStores [.Tuple [.Name x px, .Name y py] kt pt] (.Tuple [a, b] k2 pt2) X.env = pure (some [x, y]))
    (hs : swapsWithSole [.Tuple [.Name x px, .Name y py] kt pt] (.Tuple [a, b] k2 pt2) pos.line X.env = pure false := by rfl) : SS X T W (.Assign [.Tuple [.Name x px, .Name y py] kt pt] (.Tuple [a, b] k2 pt2) pos) (sPar t i j) := fun w0 H0 =>
  ps_imp (ps_par hc hN hi hj hij hx hy (ha w0.L) hw hs) fun D σ H ⟨w, ρ, h, S, R, L, p⟩ => sstep_A S R L p fun w1 H1 h1 ds xs e1 S1 R1 L1 r1 p1 => by
    match ds, r1, p1 with
    | [d, e], r1, p1 =>
      obtain ⟨v, u, rfl, q1, q2⟩ := reps2 r1
      exact ⟨v, u, rfl, p1.now ((S1.setv q1).setv q2) R1 L1⟩
    | [], _, p1 => exact p1.elim
    | [_], _, p1 => exact p1.elim
    | _ :: _ :: _ :: _, _, p1 => exact p1.elim
theorem ss_parO {i j : Nat} {x y : Str} {px py pt : Pos} {kt k2 pt2} (hc : X.calm = true) (hN : X.N.Nodup) (hi : X.N[i]? = some x) (hj : X.N[j]? = some y) (hij : i ≠ j)
    (hx : X.env.scope.names.lookup x = some .local) (hy : X.env.scope.names.lookup y = some .local) (ha : ∀ Z, SE X T Z W a f) (hb : ∀ Z, SF X T Z W b f')
    (hw : swappedStores [.Tuple [.Name x px, .Name y py] kt pt] (.Tuple [a, b] k2 pt2) X.env = pure (some [x, y]))
    (hs : swapsWithSole [.Tuple [.Name x px, .Name y py] kt pt] (.Tuple [a, b] k2 pt2) pos.line X.env = pure false := by rfl)
    (h1 : starEach [a, b] X.env = (false, eval a X.env) :: starEach [b] X.env := by rfl) (h2 : starEach [b] X.env = (false, eval b X.env) :: starEach [] X.env := by rfl) :
    SS X T W (.Assign [.Tuple [.Name x px, .Name y py] kt pt] (.Tuple [a, b] k2 pt2) pos) (sParO f f' i j) := fun w0 H0 =>
  ps_imp (ps_par hc hN hi hj hij hx hy (pa_cons (ha w0.L) (pa_cons (hb w0.L) pa_nil h2) h1) hw hs) fun D σ H ⟨w, ρ, h, S, R, L, p⟩ => sstep_E S R L p fun w1 H1 h1 d v e1 S1 R1 L1 r1 p1 =>
    ⟨w1, ρ, h1, S1, R1, (Post.of_s S1 L1 p1).imp fun w2 H2 h2 d2 e2 R2 p2 a hL nL ho => ⟨v, .ref a, rfl, by
      have S2 := (S1.le e2).setv (i := i) (r1.le e2)
      refine p2.now (S2.seto hL (fun z => nL (L1.L a z)) ho fun k e' hk hne hz => ?_) R2 (L1.trans e2)
      rw [List.getElem?_set] at hk hz
      by_cases hik : i = k
      · rw [if_pos hik] at hk; split at hk <;> cases hk
      · rw [if_neg hik] at hk hz
        obtain ⟨b, q1, q2, _⟩ := S1.own k e' hk
        rw [hz] at q1; cases q1; exact nL q2⟩⟩
end

def viewL (i : Nat) (ρ : Rho) (h : Hl) : Bool := match ρ[i]? with
  | some (.own (.lst _)) => true
  | some (.v (.ref r)) => match h[r]? with
    | some (.lst _) => true
    | _ => false
  | _ => false
def appD : D → D → Option D
  | .lst ds, d => if ds.length < 16777216 then some (.lst (ds ++ [d])) else none
  | _, _ => none
/-- x.append(e) -/
def sApp (i : Nat) (f : Den D) : SDen := fun ρ h => if viewL i ρ h then sBind (f ρ h) ρ fun d h1 => match chg i (fun o => appD o d) ρ h1 with
  | some (ρ', h') => .ok .next ρ' h'
  | none => .bad else .bad
theorem viewL_go {G : Gx} {Z : Addr → Prop} {w : Wd} {H : Hp} {h : Hl} {ρ : Rho} {σ : L2.St} {i : Nat} (S : SRel G Z w H ρ σ) (R : HRel G w H h) (hv : viewL i ρ h = true) : ∃ a xs, σ[i]? = some (some (.ref a)) ∧ H a = some (.lst xs) := by
  unfold viewL at hv
  cases e : ρ[i]? with
  | none => rw [e] at hv; cases hv
  | some s =>
    rw [e] at hv
    cases s with
    | no => cases hv
    | x c fs => cases hv
    | own d =>
      obtain ⟨a, h1, h2, h3, h4⟩ := S.own i d e
      cases d with
      | lst ds => obtain ⟨xs, h5, _⟩ := h4; exact ⟨a, xs, h1, h5⟩
      | _ => cases hv
    | v d =>
      cases d with
      | ref r =>
        simp only at hv
        obtain ⟨x, h1, h2⟩ := S.val i _ e
        cases h2 with
        | @ref a r hm =>
          obtain ⟨u, e1, e2⟩ := R.live r a hm
          rw [e1] at hv
          cases u with
          | lst ds => obtain ⟨xs, h5, _⟩ := e2; exact ⟨a, xs, h1, h5⟩
          | ins c fs => cases hv
      | _ => cases hv
section
variable {X : Cx} {T : Tb} {W : WX} {e : Expr} {f : Den D} {pos apos cpos p : Pos}
theorem ss_app {i : Nat} {x : Str} (hN : X.N[i]? = some x) (hv : Vis X.env.scope x) (he : ∀ Z, SE X T Z W e f) (hs : swapsWith (.Call (.Attribute (.Name x p) "append" apos) [e] [] cpos) none pos.line X.env = pure false := by rfl)
    (hd : (x == ("__debug__" : Str)) = false := by decide) (hcd : (x == ("__classdict__" : Str)) = false := by decide)
    (hbase : attributeBase (.Name x p) "append" X.env (eval (.Name x p) X.env) = eval (.Name x p) X.env := by rfl)
    (hfew : ((backTo cpos (starEach [e] X.env)).all (fun x => !x.1) && (backToKw cpos (keywordEach [] X.env)).all (fun x => x.1.isSome)
      && decide (([e] : List Expr).length + ([] : List Keyword).length + (if ([] : List Keyword).isEmpty then 0 else 1) < 30)) = true := by rfl)
    (hline : (apos.endLine == cpos.line) = true := by rfl) (hst : starEach [e] X.env = (false, eval e X.env) :: starEach [] X.env := by rfl) :
    SS X T W (.Expr (.Call (.Attribute (.Name x p) "append" apos) [e] [] cpos) pos) (sApp i f) := fun w0 H0 =>
  ps_imp (ps_expr (pe_bm PySem.F.plainAttrs_list PySem.F.slot_list_append PySem.F.type_list_append mt_append (pe_var hN hv hd hcd) (pa_cons (he w0.L) pa_nil hst) hbase hfew hline hst) hs) fun D σ H ⟨w, ρ, h, S, R, L, p⟩ => by
    unfold sApp at p
    split at p
    · rename_i hvw
      obtain ⟨a, xs, hx, ha⟩ := viewL_go S R hvw
      refine ⟨_, hx, .inl ⟨rfl, xs, .of ha⟩, ?_⟩
      refine sstep_E S R L p fun w1 H1 h1 d v e1 S1 R1 L1 r1 p1 => ?_
      cases hc : chg i (fun o => appD o d) ρ h1 with
      | none => rw [hc] at p1; exact p1.elim
      | some q =>
        obtain ⟨ρ', h'⟩ := q
        rw [hc] at p1
        obtain ⟨b, d0, d1, o, eb, hf, ho, hao, mu, fin⟩ := chg_go S1 R1 hx hc
        cases eb
        cases d0 with
        | lst ds =>
          obtain ⟨ys, h5, h6⟩ := ho
          simp only [appD] at hf
          split at hf
          · rename_i hl
            cases hf
            obtain ⟨f1, f2, f3, f4⟩ := fin (.lst (ys ++ [v])) (fun _ z => by cases z) fun sf => ⟨_, upd_same, (h6.soft sf).append (.cons (r1.soft sf) .nil)⟩
            exact ⟨a, ys, v, rfl, rfl, h5, by rw [szl, h6.length]; exact hl, p1.now f2 f1 (f3 L1 (by
              by_cases hL : w1.L a
              · exact .inl fun z => f4 ⟨hL, z⟩
              · exact .inr hL))⟩
          · cases hf
        | _ => simp only [appD, reduceCtorEq] at hf
    · exact p.elim
end
end Pf
end
section
set_option maxRecDepth 100000
namespace Pf
open PySem PySem.Spec PyProof.Rows L2 LamX

def dFn (o : List D → Option D) (t : Den (List D)) : Den D := fun ρ h => (t ρ h).bind fun ds h1 => optR (o ds) h1
/-- the plain function tells the rule -/
def FnR1 (G : Gx) (r : List V → Hp → VK → Prop) (o : List D → Option D) : Prop := ∀ (w : Wd) (H : Hp) (h : Hl) (xs : List V) (ds : List D) (z : D) (Q : VK) (EX : Value → Option Addr → Hp → Prop),
  HRel G w H h → Reps G w H xs ds → o ds = some z → Post G w H (.ok z h) (QD G Q) EX → r xs H Q
section
variable {X : Cx} {T : Tb} {Z : Addr → Prop} {W : WX} {e : Expr} {es : List Expr} {t : Den (List D)} {pos p : Pos} {x : Str} {r : List V → Hp → VK → Prop} {o : List D → Option D} {id Ty : String}
theorem fn_go {G : Gx} (k : FnR1 G r o) {σ : L2.St} {H : Hp} {Q : VK} (q : tE G Z W (dFn o t) σ H Q) : tCB r (tAr G Z W t) σ H Q := by
  obtain ⟨w, ρ, h, S, R, p⟩ := q
  refine step_A S R p fun w1 H1 h1 d x e1 S1 R1 r1 p1 => ?_
  obtain ⟨z, hz, p2⟩ := post_opt' p1
  exact k w1 H1 h1 x d z Q _ R1 r1 hz p2
theorem se_fnB (hc : CallR X (.builtin id) r) (k : FnR1 (gx X T) r o) (hg : Gl X x) (hm : X.mg x = none) (ha : SA X T Z W (e :: es) t) (hv : bootBuiltins x = some (.builtin id) := by rfl) (hn : x ≠ "__name__" := by decide) (hdb : (x == ("__debug__" : Str)) = false := by decide)
    (he : starEach (e :: es) X.env = (false, eval e X.env) :: starEach es X.env := by rfl) (hpl : (backTo pos (starEach es X.env)).any (·.1) = false := by rfl) : SE X T Z W (.Call (.Name x p) (e :: es) [] pos) (dFn o t) :=
  pe_imp (pe_callB hc hg hm hv ha hn hdb he hpl) fun σ H Q q => fn_go k q
theorem se_fnT (hc : CallR X (.type Ty) r) (k : FnR1 (gx X T) r o) (hg : Gl X x) (hm : X.mg x = none) (ha : SA X T Z W (e :: es) t) (hv : bootBuiltins x = some (.type Ty) := by rfl) (hn : x ≠ "__name__" := by decide) (hdb : (x == ("__debug__" : Str)) = false := by decide)
    (he : starEach (e :: es) X.env = (false, eval e X.env) :: starEach es X.env := by rfl) (hpl : (backTo pos (starEach es X.env)).any (·.1) = false := by rfl) : SE X T Z W (.Call (.Name x p) (e :: es) [] pos) (dFn o t) :=
  pe_imp (pe_callTy hc hg hm hv ha hn hdb he hpl) fun σ H Q q => fn_go k q
theorem se_ty {n : String} (hg : Gl X x) (hm : X.mg x = none) (hv : bootBuiltins x = some (.type n) := by rfl) (hn : x ≠ "__name__" := by decide) (hd : (x == ("__debug__" : Str)) = false := by decide) : SE X T Z W (.Name x pos) (dC (.ty n)) :=
  pe_imp (pe_bltn (v := .ty n) hg hm hv rfl hn hd) fun σ H Q ⟨w, ρ, h, S, R, p⟩ => p.now R _ (.ty n)
end

inductive Ty where
  | b (n : String) | o (c : Str)
  deriving DecidableEq
def tyD : D → Option Ty
  | .non => some (.b "NoneType")
  | .bl _ => some (.b "bool")
  | .int _ => some (.b "int")
  | .str _ => some (.b "str")
  | .tup _ => some (.b "tuple")
  | .kup _ => some (.b "tuple")
  | .lst _ => some (.b "list")
  | .scr _ => some (.b "list")
  | .dct _ _ => some (.b "dict")
  | .ins c _ => some (.o c)
  | _ => none
def tyVal (mg : Str → Option Value) : Ty → Option Value
  | .b n => some (.type n)
  | .o c => match mg c with
    | some (.ref C) => some (.ref C)
    | _ => none
/-- instances of the class at C are told by isinstance -/
structure InsT (K : PySem.W.Frag) (C : Addr) : Prop where
  cl : Cls K C
  ha : PySem.W.findIn K (.ref C) "__class__" = some (some (.builtin "object.__class__"))
  hn : PySem.W.specialIn K (.builtin "object.__class__") "__get__" = some (some (.builtin "getset_descriptor.__get__"))
  htk : PySem.W.takesIn K (.builtin "object.__class__") = some true
  hm : PySem.W.mroIn K C (.type "object") = some true
/-- what isinstance says of types -/
structure IsiT (G : Gx) (tab : Ty → Ty → Option Bool) : Prop where
  kit : ∀ a b r u v, tab a b = some r → tyVal G.mg a = some u → tyVal G.mg b = some v → PySem.W.kitOne G.K u v = some r
  ins : ∀ c b r C, tab (.o c) b = some r → G.mg c = some (.ref C) → InsT G.K C
def tyC : D → Option Ty
  | .ty n => some (.b n)
  | .cls c => some (.o c)
  | _ => none
def isiAny (tab : Ty → Ty → Option Bool) (a : Ty) : List D → Option Bool
  | [] => some false
  | c :: cs => match (tyC c).bind (tab a) with
    | some true => some true
    | some false => isiAny tab a cs
    | none => none
def isiAll (cs : List D) : Bool := cs.all fun c => (tyC c).isSome
def isiO (tab : Ty → Ty → Option Bool) (x : D) : D → Option Bool
  | .ty n => (tyD x).bind fun a => tab a (.b n)
  | .cls c => (tyD x).bind fun a => tab a (.o c)
  | .tup cs => if isiAll cs && !cs.isEmpty then (tyD x).bind fun a => isiAny tab a cs else none
  | _ => none
def isiF (tab : Ty → Ty → Option Bool) : List D → Option D
  | [x, c] => (isiO tab x c).map .bl
  | _ => none
inductive TyY (K : PySem.W.Frag) (H : Hp) : V → Value → Prop where
  | x {v : V} {t : Value} (h : TyX K H v t) : TyY K H v t
  | fT {a : Addr} {o : Obj} {kvs : List (List Key × V)} (e : H a = some (.frz o (.dT kvs))) : TyY K H (.ref a) (.type "dict")
theorem kit_ofY {X : Cx} {pins : List (Addr × Obj)} {σ : L2.St} {H : Hp} {s : Shared} {x : V} {u t : Value} (I : Inv X pins σ H s) (rx : RelV x u) (ty : TyY X.K H x t) : ∃ P : Heap → Prop, PySem.W.KitX X.K u t P ∧ P s.heap ∧ u ≠ .builtin "__main__.__loader__#opaque" := by
  cases ty with
  | x h => exact kit_of I rx h
  | @fT a o kvs ea =>
    cases (show u = Value.ref a from rx)
    obtain ⟨hs, hgd, hx, es, ep, hdt, hsz, ent⟩ := I.frzT ea
    exact ⟨_, PySem.W.kitx_dict, ⟨o, hgd, hx.1⟩, fun z => nomatch z⟩
def rIsiY (K : PySem.W.Frag) : List V → Hp → VK → Prop := fun xs H Q =>
  (∃ (x c : V) (t u : Value) (b : Bool), xs = [x, c] ∧ ClsV c u ∧ TyY K H x t ∧ PySem.W.kitOne K t u = some b ∧ Q (.bl b) H) ∨
  ∃ (x : V) (tp : Addr) (cs : List V) (t : Value) (us : List Value) (b : Bool), xs = [x, .ref tp] ∧ H tp = some (.tup cs) ∧ Paired ClsV cs us ∧ TyY K H x t ∧ PySem.W.kitAny K t us = some b ∧ Q (.bl b) H
theorem call_isiY {X : Cx} : CallR X (.builtin "isinstance") (rIsiY X.K) := by
  intro pins s σ H xs us Q I r h
  rcases h with ⟨x, c, t, u, b, rfl, k, ty, e, q⟩ | ⟨x, tp, cs, t, ws, b, rfl, hT, k, ty, e, q⟩
  · obtain ⟨u1, u2, rfl, r1, r2⟩ := vals2 r
    have e2 := k.eq r2
    subst e2
    obtain ⟨P, Z, p, hx⟩ := kit_ofY I r1 ty
    exact PySem.W.kia_one Z I.kIn p e hx fun tk => ⟨.bl b, H, I.tok tk, rfl, q⟩
  · obtain ⟨u1, u2, rfl, r1, r2⟩ := vals2 r
    cases (show u2 = Value.ref tp from r2)
    obtain ⟨P, Z, p, hx⟩ := kit_ofY I r1 ty
    obtain ⟨_, its, rv, o, h1, h2, n, h3⟩ := (show ObjOk X.prog X.w H s.heap tp (.tup cs) from I.hok tp _ hT)
    have e3 := ClsV.all k rv
    subst e3
    obtain ⟨oc, od, dt, sl⟩ := o
    simp only at h2 h3
    subst h2 h3
    exact PySem.W.kia_tup Z I.kIn p h1 e hx fun tk => ⟨.bl b, H, I.tok tk, rfl, q⟩
section
variable {G : Gx} {w : Wd} {H : Hp} {tab : Ty → Ty → Option Bool}
theorem Rep.tyY {v : V} {d : D} {a : Ty} (r : Rep G w H v d) (h : tyD d = some a) (hi : ∀ c C, a = .o c → G.mg c = some (.ref C) → InsT G.K C) : ∃ t, tyVal G.mg a = some t ∧ TyY G.K H v t := by
  cases r with
  | non => cases h; exact ⟨_, rfl, .x (.base .non)⟩
  | bl b => cases h; exact ⟨_, rfl, .x (.base (.bl b))⟩
  | int i => cases h; exact ⟨_, rfl, .x (.base (.int i))⟩
  | str z => cases h; exact ⟨_, rfl, .x (.base (.str z))⟩
  | tup h1 _ => cases h; exact ⟨_, rfl, .x (.base (.tup h1))⟩
  | kup h1 _ =>
    cases h
    rcases h1 H with (h2 | ⟨o, h2⟩) | ⟨o, its, n, h2, h3, _⟩
    · exact ⟨_, rfl, .x (.base (.tup h2))⟩
    · exact ⟨_, rfl, .x (.fTuple h2)⟩
    · exact ⟨_, rfl, .x (.kTuple h2 h3)⟩
  | lst _ h1 _ => cases h; exact ⟨_, rfl, .x (.base (.lst h1))⟩
  | dK _ h1 _ => cases h; exact ⟨_, rfl, .x (.fDict h1)⟩
  | dT _ h1 _ => cases h; exact ⟨_, rfl, .fT h1⟩
  | @ins a' C dx fs c ds _ h0 h1 _ =>
    cases h
    have f := hi c C rfl h0
    exact ⟨.ref C, by simp only [tyVal, h0], .x (.base (.ins h1 f.cl f.ha f.hn f.htk f.hm))⟩
  | ref _ => cases h
  | cls _ => cases h
  | ty _ => cases h
  | scr _ h1 => cases h; exact ⟨_, rfl, .x (.base (.frz h1))⟩
theorem Rep.tyC {v : V} {d : D} {b : Ty} (r : Rep G w H v d) (h : tyC d = some b) : ∃ u, tyVal G.mg b = some u ∧ ClsV v u := by
  cases r with
  | ty n => cases h; exact ⟨_, rfl, .ty n⟩
  | cls h0 => cases h; exact ⟨_, by simp only [tyVal, h0], .own _⟩
  | _ => cases h
theorem isi_any (F : IsiT G tab) {a : Ty} {t : Value} (ht : tyVal G.mg a = some t) : ∀ {xs : List V} {cs : List D} {b : Bool}, Reps G w H xs cs → isiAll cs = true → isiAny tab a cs = some b → ∃ us, Paired ClsV xs us ∧ PySem.W.kitAny G.K t us = some b
  | _, _, b, .nil, _, h => by cases h; exact ⟨[], .nil, rfl⟩
  | _, _, b, .cons (d := c) (ds := cs) r1 r2, ha, h => by
    unfold isiAll at ha
    rw [List.all_cons, Bool.and_eq_true] at ha
    obtain ⟨bt, hb⟩ := Option.isSome_iff_exists.mp ha.1
    obtain ⟨u, hu, k⟩ := r1.tyC hb
    unfold isiAny at h
    rw [hb, Option.bind_some] at h
    have all : ∀ {xs : List V} {cs : List D}, Reps G w H xs cs → isiAll cs = true → ∃ us, Paired ClsV xs us := fun {xs cs} r => by
      intro ha
      induction cs generalizing xs with
      | nil => cases r; exact ⟨[], .nil⟩
      | cons c cs ih =>
        cases r with
        | cons r1 r2 =>
          unfold isiAll at ha
          rw [List.all_cons, Bool.and_eq_true] at ha
          obtain ⟨bt, hb⟩ := Option.isSome_iff_exists.mp ha.1
          obtain ⟨u, hu, k⟩ := r1.tyC hb
          obtain ⟨us, q⟩ := ih r2 ha.2
          exact ⟨u :: us, .cons k q⟩
    cases e : tab a bt with
    | none => rw [e] at h; cases h
    | some bb =>
      rw [e] at h
      have kk := F.kit a bt bb t u e ht hu
      cases bb with
      | true =>
        cases h
        obtain ⟨us, q⟩ := all r2 ha.2
        exact ⟨u :: us, .cons k q, kitAny_cons (r := true) kk (fun z => by cases z) fun _ => rfl⟩
      | false =>
        obtain ⟨us, q1, q2⟩ := isi_any F ht r2 ha.2 h
        exact ⟨u :: us, .cons k q1, kitAny_cons kk (fun _ => q2) fun z => by cases z⟩
theorem ok_isi (F : IsiT G tab) : FnR1 G (rIsiY G.K) (isiF tab) := by
  intro w H h xs ds z Q EX R r hz p
  unfold isiF at hz
  split at hz
  · rename_i x c
    obtain ⟨v, u, rfl, r1, r2⟩ := reps2 r
    obtain ⟨b, hb, rfl⟩ := Option.map_eq_some_iff.mp hz
    have q := p.now R _ (.bl b)
    have one : ∀ bt, tyC c = some bt → (tyD x).bind (fun a => tab a bt) = some b → rIsiY G.K [v, u] H Q := fun bt hc hb => by
      obtain ⟨a, ha, hab⟩ := Option.bind_eq_some_iff.mp hb
      obtain ⟨t, ht, ty⟩ := r1.tyY ha fun c C e hC => F.ins c bt b C (by rw [← e]; exact hab) hC
      obtain ⟨u', hu, k⟩ := r2.tyC hc
      exact .inl ⟨v, u, t, u', b, rfl, k, ty, F.kit a bt b t u' hab ht hu, q⟩
    unfold isiO at hb
    split at hb
    · exact one _ rfl hb
    · exact one _ rfl hb
    · rename_i cs
      split at hb
      · rename_i hall
        rw [Bool.and_eq_true] at hall
        obtain ⟨hall, hne⟩ := hall
        obtain ⟨a, ha, hab⟩ := Option.bind_eq_some_iff.mp hb
        cases r2 with
        | @tup tp ys _ h1 rs =>
          have hi : ∀ c C, a = .o c → G.mg c = some (.ref C) → ∀ cs : List D, isiAny tab a cs = some b → cs ≠ [] → InsT G.K C := fun c C e hC cs hcs hne => by
            cases cs with
            | nil => exact absurd rfl hne
            | cons c0 cs =>
              unfold isiAny at hcs
              cases e0 : (Pf.tyC c0).bind (tab a) with
              | none => rw [e0] at hcs; cases hcs
              | some bb =>
                obtain ⟨bt, _, h3⟩ := Option.bind_eq_some_iff.mp e0
                exact F.ins c bt bb C (by rw [← e]; exact h3) hC
          cases cs with
          | nil => cases hne
          | cons c0 cs =>
            obtain ⟨t, ht, ty⟩ := r1.tyY ha fun c C e hC => hi c C e hC _ hab (by simp)
            obtain ⟨us, k1, k2⟩ := isi_any F ht rs hall hab
            exact .inr ⟨v, tp, ys, t, us, b, rfl, h1, k1, ty, k2, q⟩
      · cases hb
    · cases hb
  · cases hz
end
section
variable {X : Cx} {T : Tb} {Z : Addr → Prop} {W : WX} {e : Expr} {es : List Expr} {t : Den (List D)} {pos p : Pos} {tab : Ty → Ty → Option Bool}
theorem se_isi (F : IsiT (gx X T) tab) (hg : Gl X "isinstance") (hm : X.mg "isinstance" = none) (ha : SA X T Z W (e :: es) t) (he : starEach (e :: es) X.env = (false, eval e X.env) :: starEach es X.env := by rfl) (hpl : (backTo pos (starEach es X.env)).any (·.1) = false := by rfl) :
    SE X T Z W (.Call (.Name "isinstance" p) (e :: es) [] pos) (dFn (isiF tab) t) := se_fnB call_isiY (ok_isi F) hg hm ha rfl (by decide) (by decide) he hpl
end
end Pf
end
section
set_option maxRecDepth 100000
namespace Pf
open PySem PySem.Spec PyProof.Rows L2 LamX

def szD (n : Nat) : Bool := decide (n ≤ 16777216)
def seqD : D → Option (List D)
  | .lst ds => some ds
  | .tup ds => some ds
  | .kup ds => some ds
  | .scr ns => some (ns.map .int)
  | _ => none
def listF : List D → Option D
  | [d] => (seqD d).map .lst
  | _ => none
def tupleF : List D → Option D
  | [.lst ds] => some (.tup ds)
  | [.tup ds] => some (.tup ds)
  | [.kup ds] => some (.kup ds)
  | _ => none
def blD : D → Option Bool
  | .bl b => some b
  | _ => none
def blsD : List D → Option (List Bool)
  | [] => some []
  | d :: ds => match blD d, blsD ds with
    | some b, some bs => some (b :: bs)
    | _, _ => none
def allF : List D → Option D
  | [.lst ds] => (blsD ds).map fun bs => .bl (bs.all id)
  | _ => none
def anyF : List D → Option D
  | [.lst ds] => (blsD ds).map fun bs => .bl (bs.any id)
  | _ => none
def intF : List D → Option D
  | [.int i] => some (.int i)
  | [.bl k] => some (.int (b2n k))
  | _ => none
def absF : List D → Option D
  | [.int i] => some (.int (if i < 0 then -i else i))
  | _ => none
def divmodF : List D → Option D
  | [.int i, .int j] => if 0 < j ∧ j < 1073741824 then some (.tup [.int (i / j), .int (i % j)]) else none
  | _ => none
def maxF : List D → Option D
  | [.int i, .int j] => some (.int (if j > i then j else i))
  | _ => none
def minF : List D → Option D
  | [.int i, .int j] => some (.int (if j < i then j else i))
  | _ => none
section
variable {G : Gx} {w : Wd} {H : Hp}
theorem Rep.seq {v : V} {d : D} {ds : List D} (r : Rep G w H v d) (h : seqD d = some ds) : ∃ p xs, v = .ref p ∧ (SqL G.K H p xs ∨ SqT G.K H p xs) ∧ Reps G w H xs ds := by
  cases r with
  | @tup a xs ds' h1 r1 => cases h; exact ⟨a, xs, rfl, .inr (.of h1), r1⟩
  | @kup a xs ds' h1 r1 => cases h; exact ⟨a, xs, rfl, .inr (h1 _), r1⟩
  | @lst a xs ds' f h1 r1 => cases h; exact ⟨a, xs, rfl, .inl (.of h1), r1⟩
  | @scr a o ns f h1 => cases h; exact ⟨a, _, rfl, .inl (.inl (.inr ⟨o, h1⟩)), Reps.ints ns⟩
  | _ => cases h
theorem Reps.bls : ∀ {xs : List V} {ds : List D} {bs : List Bool}, Reps G w H xs ds → blsD ds = some bs → xs = bs.map V.bl
  | _, _, _, .nil, h => by cases h; rfl
  | _, _, bs, .cons (d := d) (ds := ds) a b, h => by
    unfold blsD at h
    cases e : blD d with
    | none => rw [e] at h; cases h
    | some c =>
      cases e2 : blsD ds with
      | none => rw [e, e2] at h; cases h
      | some cs =>
        rw [e, e2] at h
        cases h
        cases a <;> first | cases e | skip
        rw [Reps.bls b e2]; rfl
end
section
variable {X : Cx} {G : Gx}
theorem ok_listF : FnR1 G (fun xs H Q => ∃ p ys, xs = [.ref p] ∧ (SqL G.K H p ys ∨ SqT G.K H p ys) ∧ ∀ l, H l = none → Q (.ref l) (upd H l (.lst ys))) listF := by
  intro w H h xs ds z Q EX R r hz p
  unfold listF at hz
  split at hz
  · obtain ⟨v, rfl, r1⟩ := reps1 r
    obtain ⟨ds', hd, rfl⟩ := Option.map_eq_some_iff.mp hz
    obtain ⟨p', ys, rfl, hs, rs⟩ := r1.seq hd
    exact ⟨p', ys, rfl, hs, post_lst p R rs⟩
  · cases hz
theorem ok_tupleF : FnR1 G (fun xs H Q => ∃ p ys, xs = [.ref p] ∧ ((SqL G.K H p ys ∧ ∀ l, H l = none → Q (.ref l) (upd H l (.tup ys))) ∨ (SqT G.K H p ys ∧ Q (.ref p) H))) tupleF := by
  intro w H h xs ds z Q EX R r hz p
  unfold tupleF at hz
  split at hz
  · obtain ⟨v, rfl, r1⟩ := reps1 r
    cases hz
    cases r1 with
    | @lst a xs ds' f h1 r1 => exact ⟨a, xs, rfl, .inl ⟨.of h1, post_tup p R r1⟩⟩
  · obtain ⟨v, rfl, r1⟩ := reps1 r
    cases hz
    cases r1 with
    | @tup a xs ds' h1 r1 => exact ⟨a, xs, rfl, .inr ⟨.of h1, p.now R _ (.tup h1 r1)⟩⟩
  · obtain ⟨v, rfl, r1⟩ := reps1 r
    cases hz
    cases r1 with
    | @kup a xs ds' h1 r1 => exact ⟨a, xs, rfl, .inr ⟨h1 _, p.now R _ (.kup h1 r1)⟩⟩
  · cases hz
theorem ok_allF : FnR1 G (rAll G.K) allF := by
  intro w H h xs ds z Q EX R r hz p
  unfold allF at hz
  split at hz
  · obtain ⟨v, rfl, r1⟩ := reps1 r
    obtain ⟨bs, hb, rfl⟩ := Option.map_eq_some_iff.mp hz
    cases r1 with
    | @lst a xs ds' f h1 r1 => exact ⟨a, bs, rfl, by rw [← r1.bls hb]; exact .of h1, p.now R _ (.bl _)⟩
  · cases hz
theorem ok_anyF : FnR1 G (rAny G.K) anyF := by
  intro w H h xs ds z Q EX R r hz p
  unfold anyF at hz
  split at hz
  · obtain ⟨v, rfl, r1⟩ := reps1 r
    obtain ⟨bs, hb, rfl⟩ := Option.map_eq_some_iff.mp hz
    cases r1 with
    | @lst a xs ds' f h1 r1 => exact ⟨a, bs, rfl, by rw [← r1.bls hb]; exact .of h1, p.now R _ (.bl _)⟩
  · cases hz
theorem ok_intF : FnR1 G (fun xs H Q => (∃ i, xs = [.int i] ∧ Q (.int i) H) ∨ ∃ k, xs = [.bl k] ∧ Q (.int (if k then 1 else 0)) H) intF := by
  intro w H h xs ds z Q EX R r hz p
  unfold intF at hz
  split at hz
  · obtain ⟨v, rfl, r1⟩ := reps1 r
    cases hz; cases r1
    exact .inl ⟨_, rfl, p.now R _ (.int _)⟩
  · obtain ⟨v, rfl, r1⟩ := reps1 r
    cases hz; cases r1
    exact .inr ⟨_, rfl, p.now R _ (.int _)⟩
  · cases hz
theorem ok_absF : FnR1 G (fun xs H Q => ∃ i, xs = [.int i] ∧ Q (.int (if i < 0 then -i else i)) H) absF := by
  intro w H h xs ds z Q EX R r hz p
  unfold absF at hz
  split at hz
  · obtain ⟨v, rfl, r1⟩ := reps1 r
    cases hz; cases r1
    exact ⟨_, rfl, p.now R _ (.int _)⟩
  · cases hz
theorem ok_divmodF : FnR1 G (fun xs H Q => ∃ i j, xs = [.int i, .int j] ∧ CDiv i j ∧ ∀ p, H p = none → Q (.ref p) (upd H p (.tup [.int (i / j), .int (i % j)]))) divmodF := by
  intro w H h xs ds z Q EX R r hz p
  unfold divmodF at hz
  split at hz
  · obtain ⟨v, u, rfl, r1, r2⟩ := reps2 r
    split at hz
    · rename_i hj
      cases hz; cases r1; cases r2
      exact ⟨_, _, rfl, hj, post_tup p R (.cons (.int _) (.cons (.int _) .nil))⟩
    · cases hz
  · cases hz
theorem ok_maxF : FnR1 G (fun xs H Q => ∃ i j, xs = [.int i, .int j] ∧ Q (.int (if j > i then j else i)) H) maxF := by
  intro w H h xs ds z Q EX R r hz p
  unfold maxF at hz
  split at hz
  · obtain ⟨v, u, rfl, r1, r2⟩ := reps2 r
    cases hz; cases r1; cases r2
    exact ⟨_, _, rfl, p.now R _ (.int _)⟩
  · cases hz
theorem ok_minF : FnR1 G (fun xs H Q => ∃ i j, xs = [.int i, .int j] ∧ Q (.int (if j < i then j else i)) H) minF := by
  intro w H h xs ds z Q EX R r hz p
  unfold minF at hz
  split at hz
  · obtain ⟨v, u, rfl, r1, r2⟩ := reps2 r
    cases hz; cases r1; cases r2
    exact ⟨_, _, rfl, p.now R _ (.int _)⟩
  · cases hz
end

def isStrD : D → Bool
  | .str _ => true
  | _ => false
def isLstD : D → Bool
  | .lst _ => true
  | _ => false
def dMt (g : D → Bool) (o : D → List D → Option D) (f : Den D) (t : Den (List D)) : Den D := fun ρ h => (f ρ h).bind fun d h1 => if g d then (t ρ h1).bind fun ds h2 => optR (o d ds) h2 else .bad
def MtOk (G : Gx) (r : V → List V → Hp → VK → Prop) (o : D → List D → Option D) : Prop := ∀ (w : Wd) (H : Hp) (h : Hl) (x : V) (xs : List V) (d : D) (ds : List D) (z : D) (Q : VK) (EX : Value → Option Addr → Hp → Prop),
  HRel G w H h → Rep G w H x d → Reps G w H xs ds → o d ds = some z → Post G w H (.ok z h) (QD G Q) EX → r x xs H Q
theorem mt_go {G : Gx} {Z : Addr → Prop} {W : WX} {g : D → Bool} {o : D → List D → Option D} {f : Den D} {t : Den (List D)} {r : V → List V → Hp → VK → Prop} {Ty : String} (k : MtOk G r o)
    (ty : ∀ (w : Wd) (H : Hp) (x : V) (d : D), Rep G w H x d → g d = true → tyV G.K Ty x H) {σ : L2.St} {H : Hp} {Q : VK} (q : tE G Z W (dMt g o f t) σ H Q) : tBM G.K Ty r (tE G Z W f) (tAr G Z W t) σ H Q := by
  obtain ⟨w, ρ, h, S, R, p⟩ := q
  refine step_E S R p fun w1 H1 h1 d x e1 S1 R1 r1 p1 => ?_
  by_cases hg : g d = true
  · rw [if_pos hg] at p1
    refine ⟨ty w1 H1 x d r1 hg, step_A S1 R1 p1 fun w2 H2 h2 ds xs e2 S2 R2 r2 p2 => ?_⟩
    obtain ⟨z, hz, p3⟩ := post_opt' p2
    exact k w2 H2 h2 x xs d ds z Q _ R2 (r1.le e2) r2 hz p3
  · rw [if_neg hg] at p1; exact p1.elim
section
variable {X : Cx} {T : Tb} {Z : Addr → Prop} {W : WX} {ob e : Expr} {es : List Expr} {f : Den D} {t : Den (List D)} {apos cpos : Pos} {o : D → List D → Option D} {r : V → List V → Hp → VK → Prop} {name : Str} {id : String}
theorem se_mtS (k : MtOk (gx X T) r o) (slot : Slot "str" name id) (hty : typeOf (.builtin id) = pure (.type "method_descriptor")) (hm : MtR X id r) (ho : SE X T Z W ob f) (ha : SA X T Z W (e :: es) t)
    (hbase : attributeBase ob name X.env (eval ob X.env) = eval ob X.env := by rfl)
    (hfew : ((backTo cpos (starEach (e :: es) X.env)).all (fun x => !x.1) && (backToKw cpos (keywordEach [] X.env)).all (fun x => x.1.isSome)
      && decide ((e :: es).length + ([] : List Keyword).length + (if ([] : List Keyword).isEmpty then 0 else 1) < 30)) = true := by rfl)
    (hline : (apos.endLine == cpos.line) = true := by rfl) (hs : starEach (e :: es) X.env = (false, eval e X.env) :: starEach es X.env := by rfl) (hplain : (backTo cpos (starEach es X.env)).any (·.1) = false := by rfl) :
    SE X T Z W (.Call (.Attribute ob name apos) (e :: es) [] cpos) (dMt isStrD o f t) :=
  pe_imp (pe_bm PySem.F.plainAttrs_str slot hty hm ho ha hbase hfew hline hs hplain) fun σ H Q q => mt_go k (fun w H x d r hg => by cases r <;> first | exact (rfl : "str" = "str") | cases hg) q
theorem se_mtL (k : MtOk (gx X T) r o) (slot : Slot "list" name id) (hty : typeOf (.builtin id) = pure (.type "method_descriptor")) (hm : MtR X id r) (ho : SE X T Z W ob f) (ha : SA X T Z W (e :: es) t)
    (hbase : attributeBase ob name X.env (eval ob X.env) = eval ob X.env := by rfl)
    (hfew : ((backTo cpos (starEach (e :: es) X.env)).all (fun x => !x.1) && (backToKw cpos (keywordEach [] X.env)).all (fun x => x.1.isSome)
      && decide ((e :: es).length + ([] : List Keyword).length + (if ([] : List Keyword).isEmpty then 0 else 1) < 30)) = true := by rfl)
    (hline : (apos.endLine == cpos.line) = true := by rfl) (hs : starEach (e :: es) X.env = (false, eval e X.env) :: starEach es X.env := by rfl) (hplain : (backTo cpos (starEach es X.env)).any (·.1) = false := by rfl) :
    SE X T Z W (.Call (.Attribute ob name apos) (e :: es) [] cpos) (dMt isLstD o f t) :=
  pe_imp (pe_bm PySem.F.plainAttrs_list slot hty hm ho ha hbase hfew hline hs hplain) fun σ H Q q => mt_go k (fun w H x d r hg => by
    cases r <;> first | cases hg | skip
    rename_i a xs ds h1 h2 r1
    exact .inl ⟨rfl, xs, .of h2⟩) q
end
def strD : D → Option Str
  | .str x => some x
  | _ => none
def strsD : List D → Option (List Str)
  | [] => some []
  | d :: ds => match strD d, strsD ds with
    | some b, some bs => some (b :: bs)
    | _, _ => none
def splitO : D → List D → Option D
  | .str a, [.str b] => if (b.length == 0) = false ∧ a.length + 2 ≤ 16777216 then some (.lst ((Txt.split a b).map .str)) else none
  | _, _ => none
def partO : D → List D → Option D
  | .str a, [.str b] => if (b.length == 0) = false ∧ a.length ≤ 16777216 then some (.tup [.str (Txt.partition a b).1, .str (Txt.partition a b).2.1, .str (Txt.partition a b).2.2]) else none
  | _, _ => none
def joinO : D → List D → Option D
  | .str a, [d] => match (seqD d).bind strsD with
    | some ys => if (ys.map (·.length)).sum + ys.length * a.length ≤ 16777216 then some (.str (Txt.join a ys)) else none
    | none => none
  | _, _ => none
def startsO : D → List D → Option D
  | .str a, [.str b] => some (.bl (Txt.startswith a b))
  | _, _ => none
def scountO : D → List D → Option D
  | .str a, [.str b] => some (.int (Txt.count a b))
  | _, _ => none
def lcountO : D → List D → Option D
  | .lst ds, [x] => if flatD x && ds.all flatD then some (.int (ds.countP fun y => eqF y x : Nat)) else none
  | _, _ => none
def lindexO : D → List D → Option D
  | .lst ds, [x] => if flatD x && ds.all flatD then (ds.findIdx? fun y => eqF y x).map fun j => .int (j : Nat) else none
  | _, _ => none
section
variable {G : Gx} {w : Wd} {H : Hp}
theorem Reps.strs : ∀ {xs : List V} {ds : List D} {bs : List Str}, Reps G w H xs ds → strsD ds = some bs → xs = bs.map V.str
  | _, _, _, .nil, h => by cases h; rfl
  | _, _, bs, .cons (d := d) (ds := ds) a b, h => by
    unfold strsD at h
    cases e : strD d with
    | none => rw [e] at h; cases h
    | some c =>
      cases e2 : strsD ds with
      | none => rw [e, e2] at h; cases h
      | some cs =>
        rw [e, e2] at h
        cases h
        cases a <;> first | cases e | skip
        rw [Reps.strs b e2]; rfl
theorem str_reps : ∀ ys : List Str, Reps G w H (ys.map V.str) (ys.map D.str)
  | [] => .nil
  | y :: ys => .cons (.str y) (str_reps ys)
theorem ok_splitO : MtOk G (fun x xs H Q => ∃ a b, x = .str a ∧ xs = [.str b] ∧ (b.length == 0) = false ∧ a.length + 2 ≤ sizeLine ∧ rNewStrs (Txt.split a b) H Q) splitO := by
  intro w H h x xs d ds z Q EX R rx r hz p
  unfold splitO at hz
  split at hz
  · obtain ⟨v, rfl, r1⟩ := reps1 r
    split at hz
    · rename_i hc
      cases hz; cases rx; cases r1
      exact ⟨_, _, rfl, rfl, hc.1, by rw [szl]; exact hc.2, post_lst p R (str_reps _)⟩
    · cases hz
  · cases hz
theorem ok_partO : MtOk G (fun x xs H Q => ∃ a b, x = .str a ∧ xs = [.str b] ∧ (b.length == 0) = false ∧ a.length ≤ sizeLine ∧
    ∀ p, H p = none → Q (.ref p) (upd H p (.tup [.str (Txt.partition a b).1, .str (Txt.partition a b).2.1, .str (Txt.partition a b).2.2]))) partO := by
  intro w H h x xs d ds z Q EX R rx r hz p
  unfold partO at hz
  split at hz
  · obtain ⟨v, rfl, r1⟩ := reps1 r
    split at hz
    · rename_i hc
      cases hz; cases rx; cases r1
      exact ⟨_, _, rfl, rfl, hc.1, by rw [szl]; exact hc.2, post_tup p R (.cons (.str _) (.cons (.str _) (.cons (.str _) .nil)))⟩
    · cases hz
  · cases hz
theorem ok_joinO : MtOk G (fun x xs H Q => ∃ a p, ∃ ys : List Str, x = .str a ∧ xs = [.ref p] ∧ (SqL G.K H p (ys.map V.str) ∨ SqT G.K H p (ys.map V.str)) ∧
    (ys.map (·.length)).sum + ys.length * a.length ≤ 16777216 ∧ Q (.str (Txt.join a ys)) H) joinO := by
  intro w H h x xs d ds z Q EX R rx r hz p
  unfold joinO at hz
  split at hz
  · rename_i a d
    obtain ⟨v, rfl, r1⟩ := reps1 r
    split at hz
    · rename_i ys hy
      obtain ⟨ds', h1, h2⟩ := Option.bind_eq_some_iff.mp hy
      obtain ⟨q, us, rfl, hs, rs⟩ := r1.seq h1
      split at hz
      · rename_i hl
        cases hz; cases rx
        have e := rs.strs h2
        subst e
        exact ⟨_, q, ys, rfl, rfl, hs, hl, p.now R _ (.str _)⟩
      · cases hz
    · cases hz
  · cases hz
theorem ok_startsO : MtOk G (fun x xs H Q => ∃ a b, x = .str a ∧ xs = [.str b] ∧ Q (.bl (Txt.startswith a b)) H) startsO := by
  intro w H h x xs d ds z Q EX R rx r hz p
  unfold startsO at hz
  split at hz
  · obtain ⟨v, rfl, r1⟩ := reps1 r
    cases hz; cases rx; cases r1
    exact ⟨_, _, rfl, rfl, p.now R _ (.bl _)⟩
  · cases hz
theorem ok_scountO : MtOk G (fun x xs H Q => ∃ a b, x = .str a ∧ xs = [.str b] ∧ Q (.int (Txt.count a b)) H) scountO := by
  intro w H h x xs d ds z Q EX R rx r hz p
  unfold scountO at hz
  split at hz
  · obtain ⟨v, rfl, r1⟩ := reps1 r
    cases hz; cases rx; cases r1
    exact ⟨_, _, rfl, rfl, p.now R _ (.int _)⟩
  · cases hz
end
/-- list.count of flat items -/
def rCntF (K : PySem.W.Frag) : V → List V → Hp → VK → Prop := fun x xs H Q => ∃ (p : Addr) (ys : List V) (y : V), x = .ref p ∧ xs = [y] ∧ SqL K H p ys ∧ flatV y = true ∧ ys.all flatV = true ∧ Q (.int (ys.countP fun z => eqV z y : Nat)) H
theorem countP_eqU {y : V} : ∀ {ys : List V} {us : List Value}, Vals ys us → ys.all flatV = true → us.countP (eqU y) = ys.countP fun z => eqV z y
  | _, _, .nil, _ => rfl
  | _, _, .cons (a := z) (b := u) r h, f => by
    rw [List.all_cons, Bool.and_eq_true] at f
    rw [List.countP_cons, List.countP_cons, countP_eqU h f.2, eqU_of r f.1]
theorem mt_countF {X : Cx} : MtR X "list.count" (rCntF X.K) := by
  intro pins s σ H x xs v us Q I rx rxs h
  obtain ⟨p, ys, y, rfl, rfl, hs, fy, fys, q⟩ := h
  cases rx
  obtain ⟨u, rfl, ru⟩ := rxs.one
  obtain ⟨its, rv, ⟨⟨cls, dd, data, sl⟩, n, ho, hc, hdn, hd⟩, hlen⟩ := I.list hs
  simp only at hc hd
  subst hc hd
  refine call_meets PySem.F.slot_list_count ⟨_, ho, rfl⟩ PySem.F.entry_list_count (PySem.F.args_list_count_2 _ _)
    (SeqAt.list_countAt p its.toArray n dd sl u (eqU y)) ⟨ho, fun u' hu' => mem_eqAt ru fy rv fys u' (by simpa using hu'), ?_⟩
  have ec : its.toArray.toList.countP (eqU y) = ys.countP fun z => eqV z y := by
    rw [List.toList_toArray]; exact countP_eqU rv fys
  refine ⟨.int (ys.countP fun z => eqV z y : Nat), H, I.tok _, ⟨s.toks, ?_⟩, q⟩
  show Value.int ((its.toArray.toList.countP (eqU y) : Nat) : Int) s.toks = Value.int _ s.toks
  rw [ec]
section
variable {G : Gx} {w : Wd} {H : Hp}
theorem Reps.countF {x : V} {d : D} (rx : Rep G w H x d) (hx : flatD d = true) : ∀ {v : List V} {ds : List D}, Reps G w H v ds → ds.all flatD = true → (v.countP fun z => eqV z x) = ds.countP fun y => Pf.eqF y d
  | _, _, .nil, _ => rfl
  | _, _, .cons a b, h => by
    rw [List.all_cons, Bool.and_eq_true] at h
    rw [List.countP_cons, List.countP_cons, Reps.countF rx hx b h.2, a.eqF rx h.1 hx]
theorem ok_lcountO : MtOk G (rCntF G.K) lcountO := by
  intro w H h x xs d ds z Q EX R rx r hz p
  unfold lcountO at hz
  split at hz
  · obtain ⟨v, rfl, r1⟩ := reps1 r
    split at hz
    · rename_i hf
      rw [Bool.and_eq_true] at hf
      cases hz
      cases rx with
      | @lst a ys ds' f h1 rs => exact ⟨a, ys, v, rfl, rfl, .of h1, r1.flat hf.1, rs.flat hf.2, by rw [rs.countF r1 hf.1 hf.2]; exact p.now R _ (.int _)⟩
    · cases hz
  · cases hz
theorem ok_lindexO : MtOk G (rIndex G.K) lindexO := by
  intro w H h x xs d ds z Q EX R rx r hz p
  unfold lindexO at hz
  split at hz
  · rename_i ds' y0
    obtain ⟨v, rfl, r1⟩ := reps1 r
    split at hz
    · rename_i hf
      rw [Bool.and_eq_true] at hf
      obtain ⟨j, hj, rfl⟩ := Option.map_eq_some_iff.mp hz
      cases rx with
      | @lst a ys ds' f h1 rs =>
        rw [List.findIdx?_eq_some_iff_getElem] at hj
        obtain ⟨hlt, h2, h3⟩ := hj
        have hd : ds'[j]? = some ds'[j] := List.getElem?_eq_getElem hlt
        obtain ⟨u, hu, ru⟩ := rs.get hd
        have fl : ∀ (m : Nat) (y : D), ds'[m]? = some y → flatD y = true := fun m y e => List.all_eq_true.mp hf.2 y (List.mem_of_getElem? e)
        refine ⟨a, ys, v, j, u, rfl, rfl, .of h1, r1.flat hf.1, rs.flat hf.2, hu, by rw [ru.eqF r1 (fl _ _ hd) hf.1]; exact h2, fun m z' hm hz' => ?_, p.now R _ (.int _)⟩
        obtain ⟨y, hy, ry⟩ := rs.getV hz'
        rw [ry.eqF r1 (fl _ _ hy) hf.1]
        obtain ⟨hm1, hm2⟩ := List.getElem?_eq_some_iff.mp hy
        have := h3 m hm
        rw [← hm2]
        simpa using this
    · cases hz
  · cases hz
end
end Pf
end
section
set_option maxRecDepth 100000
namespace L2
open PySem PySem.Spec PyProof.Rows
def mergeT (kvs more : List (List Key × V)) : List (List Key × V) := more.foldl (fun acc kv => putK acc kv.1 kv.2) kvs
theorem length_mergeT : ∀ (more kvs : List (List Key × V)), (mergeT kvs more).length ≤ kvs.length + more.length
  | [], kvs => by show kvs.length ≤ kvs.length + 0; omega
  | p :: r, kvs => by
    have h1 := length_mergeT r (putK kvs p.1 p.2)
    have h2 := length_putK kvs p.1 p.2
    show (mergeT (putK kvs p.1 p.2) r).length ≤ _
    rw [List.length_cons]; omega
theorem KT.merge {H : Hp} : ∀ {more : List (List Key × V)} {rs : List (List Key × Addr × Value)} {kvs : List (List Key × V)} {xs : List (List Key × Addr × Value)}, KT H more rs → KT H kvs xs → KT H (mergeT kvs more) (storedAllH xs rs) := by
  intro more rs kvs xs r
  induction r generalizing kvs xs with
  | nil => intro q; exact q
  | @cons p q ps qs h t ih =>
    intro r0
    have e : KT H (putK kvs p.1 p.2) (storedH xs q.1 q.2.1 q.2.2) := by
      have := r0.put p.1 h.2.1 h.2.2
      rw [← h.1]; exact this
    exact ih e
/-- a display's pair is a key's tuple and a value -/
abbrev KPs (H : Hp) : List (V × V) → List (List Key × V) → Prop := Paired fun q kv => (∃ b, q.1 = .ref b ∧ H b = some (.tup (kv.1.map kV))) ∧ q.2 = kv.2
theorem carriesT {P : Program} {w : World} {H : Hp} {h : Heap} (ok : HOk P w H h) : ∀ {ps : List (V × V)} {kvs : List (List Key × V)} {ws : List (Value × Value)}, KPs H ps kvs → VV ps ws → ∃ rs, CarriesH (tupleKind (mixKind P w)) h ws rs ∧ KT H kvs rs
  | _, _, _, .nil, r => by cases r; exact ⟨[], trivial, .nil⟩
  | _, _, _, .cons (a := q) (b := kv) k ks, r => by
    cases r with
    | @cons a b as bs hh t =>
      obtain ⟨⟨p, e1, e2⟩, e3⟩ := k
      obtain ⟨rs, c, z⟩ := carriesT ok ks t
      obtain ⟨b1, b2⟩ := b
      obtain ⟨q1, q2⟩ := q
      simp only at e1 e3 hh
      subst e1 e3
      have h1 : b1 = Value.ref p := hh.1
      subst h1
      exact ⟨(kv.1, p, b2) :: rs, ⟨rfl, rfl, key_of ok e2, c⟩, .cons ⟨rfl, e2, hh.2⟩ z⟩
/-- {k: v, ..} with keys tuples of ints and texts -/
def tDispT (trs : List (TE × TE)) : TE := fun σ H Q => ∀ p, H p = none → tPairs trs σ (upd H p (.dT [])) fun ps H2 => H2 p = some (.dT []) ∧ ∃ kvs : List (List Key × V), KPs H2 ps kvs ∧ kvs.length ≤ 15 ∧ Q (.ref p) (upd H2 p (.dT (mergeT [] kvs)))
theorem pe_dispT {X : Cx} {pos : Pos} {keys : List (Option Expr)} {values : List Expr} {trs : List (TE × TE)} (hu : X.A.units + 1 < cLine) (h : PPs X pos keys values trs) (hall : keys.all (·.isSome) = true) (hl : keys.length = values.length) (h0 : keys ≠ [])
    (h15 : keys.length ≤ 15) : PE X (.Dict keys values pos) (tDispT trs) := by
  refine ⟨fun pins s σ H Q I q => ?_⟩
  have hn := I.hok.fresh (Nat.le_refl s.heap.objs.size)
  have I1 := I.laid (a := s.heap.objs.size) (o := .dT []) (h' := s.heap.push { cls := .type "dict", data := .dict #[] }) (t' := s.toks) (fun _ _ q => Heap.get?_push_of_some _ q) (Nat.le_refl _) (dt_empty s.heap I.big)
  have hlen := pairTrees_length keys values X.env pos hall hl
  have hne : pairTrees keys values X.env pos ≠ [] := fun he => by
    rw [he] at hlen
    exact h0 (List.length_eq_zero_iff.mp hlen.symm)
  rw [arm_eval_Dict, zip_pairTrees keys values X.env pos hall hl, dictDisplay_pairs _ hne (by omega)]
  refine wpAny_bind (wpAny_standAt (wpAny_bind (wpAny_subDictH (knd := tupleKind (mixKind X.prog X.w)) (show X.A.units < cLine by omega) (by omega) ?_)))
  refine thn (h.run pins _ σ _ _ I1 (q _ hn)) fun ws s2 ⟨ps, H2, I2, rel, e, kvs, kp, lk, q2⟩ => ?_
  obtain ⟨rs, c, rk⟩ := carriesT I2.hok kp rel
  obtain ⟨z, hd, xs0, r0, dd⟩ := dt_of I2.hok e
  cases r0
  refine ⟨rs, c, dd, fun h' tk dd' hs => wpAny_pure ⟨.ref s.heap.objs.size, _, ?_, rfl, q2⟩⟩
  obtain ⟨o, es, ep, hq, h2, h3, h4, _, h5⟩ := dd'
  have hz : (mergeT [] kvs).length ≤ sizeLine := by
    have h1 := length_mergeT kvs []
    rw [List.length_nil] at h1
    rw [sizeLine_eq]; omega
  refine d_write I2 (by rw [e]; exact True.intro) hs ⟨o, hq⟩ ⟨hz, hd, _, ((rk.merge (kvs := []) (xs := []) .nil).keeps fun b ys eb => ?_), o, es, ep, hq, h2, h3, h4, h5⟩
  rw [upd_ne (ne_of eb e (fun z => nomatch z))]
  exact eb
/-- d.update(d2), keys tuples -/
def rUpdT : V → List V → Hp → VK → Prop := fun x xs H Q => ∃ (a b : Addr) (kvs more : List (List Key × V)), x = .ref a ∧ xs = [.ref b] ∧ a ≠ b ∧ H a = some (.dT kvs) ∧ Rd H b (.dT more) ∧ kvs ≠ [] ∧ kvs.length + more.length ≤ sizeLine ∧ Q .non (upd H a (.dT (mergeT kvs more)))
theorem mt_updT {X : Cx} (hu : X.A.units + 1 < cLine) : MtR X "dict.update" rUpdT := by
  intro pins s σ H x xs v us Q I rx rxs h
  obtain ⟨a, b, kvs, more, rfl, rfl, hab, hH, hb, hne, hz, q⟩ := h
  obtain rfl : v = Value.ref a := rx
  obtain ⟨u, rfl, ru⟩ := rxs.one
  obtain rfl : u = Value.ref b := ru
  obtain ⟨z1, hd1, xs1, r1, dd1⟩ := dt_of I.hok hH
  obtain ⟨z2, hd2, xs2, r2, dd2⟩ := dt_rd I.hok hb
  have l1 := Paired.length r1
  have l2 := Paired.length r2
  refine call_update_dictH (tupleKind_room_in1 hu) hab hd2 dd1 dd2 (.inl fun e => hne (by rw [e] at l1; exact List.length_eq_zero_iff.mp l1)) (by omega) fun h' dd' _ hs => ?_
  obtain ⟨o, es, ep, hq, h2, h3, h4, _, h5⟩ := dd'
  refine ⟨.non, _, d_write (ob := .dT (mergeT kvs more)) I (by rw [hH]; exact True.intro) hs ⟨o, hq⟩ ⟨Nat.le_trans (length_mergeT more kvs) hz, hd1, _, ((r2.merge r1).keeps fun c ys ec => ?_), o, es, ep, hq, h2, h3, h4, h5⟩, rfl, q⟩
  rw [upd_ne (ne_of ec hH (fun z => nomatch z))]
  exact ec
end L2
namespace Pf
open PySem PySem.Spec PyProof.Rows L2 LamX

def dPairs : List (Den D × Den D) → Den (List (D × D))
  | [] => fun _ h => .ok [] h
  | (k, v) :: r => fun ρ h => (k ρ h).bind fun d h1 => (v ρ h1).bind fun e h2 => (dPairs r ρ h2).bind fun ps h3 => .ok ((d, e) :: ps) h3
inductive RepP (G : Gx) (w : Wd) (H : Hp) : List (V × V) → List (D × D) → Prop
  | nil : RepP G w H [] []
  | cons {x y : V} {d e : D} {ps : List (V × V)} {qs : List (D × D)} : Rep G w H x d → Rep G w H y e → RepP G w H ps qs → RepP G w H ((x, y) :: ps) ((d, e) :: qs)
def kvD (t : Bool) : List (D × D) → Option (List (DK × D))
  | [] => some []
  | (k, v) :: r => match dkD k, kvD t r with
    | some dk, some kvs => if isT dk = t then some ((dk, v) :: kvs) else none
    | _, _ => none
def mergeA (kvs more : List (DK × D)) : List (DK × D) := more.foldl (fun acc kv => putA acc kv.1 kv.2) kvs
def dDisp (t : Bool) (fs : List (Den D × Den D)) : Den D := fun ρ h => (dPairs fs ρ h).bind fun ps h1 => optR ((kvD t ps).bind fun kvs => if kvs.length ≤ 15 then some (.dct t (mergeA [] kvs)) else none) h1
abbrev trsOf (G : Gx) (Z : Addr → Prop) (W : WX) (fs : List (Den D × Den D)) : List (TE × TE) := fs.map fun q => (tE G Z W q.1, tE G Z W q.2)
theorem RepP.le {G : Gx} {w w' : Wd} {H H' : Hp} (e : Le w H w' H') : ∀ {ps : List (V × V)} {qs : List (D × D)}, RepP G w H ps qs → RepP G w' H' ps qs
  | _, _, .nil => .nil
  | _, _, .cons a b c => .cons (a.le e) (b.le e) (RepP.le e c)
theorem pairs_go {G : Gx} {Z : Addr → Prop} {W : WX} : ∀ {fs : List (Den D × Den D)} {β : Type} {g : List (D × D) → Hl → Res β} {Q : Wd → Hp → Hl → β → Prop} {w : Wd} {ρ : Rho} {h : Hl} {σ : L2.St} {H : Hp} {K : List (V × V) → Hp → Prop}, SRel G Z w H ρ σ → HRel G w H h →
    Post G w H ((dPairs fs ρ h).bind g) Q (fun c d H' => W c d σ H') →
    (∀ w1 H1 h1 ps qs, Le w H w1 H1 → SRel G Z w1 H1 ρ σ → HRel G w1 H1 h1 → RepP G w1 H1 ps qs → Post G w1 H1 (g qs h1) Q (fun c d H' => W c d σ H') → K ps H1) → tPairs (trsOf G Z W fs) σ H K
  | [], _, g, Q, w, ρ, h, σ, H, K, S, R, p, k => k w H h [] [] (Le.refl _ _) S R .nil p
  | (a, b) :: fs, β, g, Q, w, ρ, h, σ, H, K, S, R, p, k => by
    have e : (dPairs ((a, b) :: fs) ρ h).bind g = (a ρ h).bind fun d h1 => (b ρ h1).bind fun e h2 => (dPairs fs ρ h2).bind fun ps h3 => g ((d, e) :: ps) h3 := by
      show ((a ρ h).bind _).bind g = _
      cases a ρ h with
      | ok d h1 =>
        simp only [Res.bind_ok]
        cases b ρ h1 with
        | ok e h2 =>
          simp only [Res.bind_ok]
          cases dPairs fs ρ h2 <;> rfl
        | exc c f h2 => rfl
        | bad => rfl
      | exc c f h1 => rfl
      | bad => rfl
    rw [e] at p
    exact step_E S R p fun w1 H1 h1 d x e1 S1 R1 r1 p1 => step_E S1 R1 p1 fun w2 H2 h2 e y e2 S2 R2 r2 p2 => pairs_go S2 R2 p2 fun w3 H3 h3 ps qs e3 S3 R3 rp p3 =>
      k w3 H3 h3 _ _ ((e1.trans e2).trans e3) S3 R3 (.cons (r1.le (e2.trans e3)) (r2.le e3) rp) p3
/-- .. in a bigger world; what is wanted is told from the old one -/
theorem pairs_own {G : Gx} {Z : Addr → Prop} {W : WX} {fs : List (Den D × Den D)} {β : Type} {g : List (D × D) → Hl → Res β} {Q : Wd → Hp → Hl → β → Prop} {w w0 : Wd} {ρ : Rho} {h : Hl} {σ : L2.St} {H H0 : Hp} {K : List (V × V) → Hp → Prop}
    (p : Post G w H ((dPairs fs ρ h).bind g) Q (fun c d H' => W c d σ H')) (e0 : Le w H w0 H0) (S0 : SRel G Z w0 H0 ρ σ) (R0 : HRel G w0 H0 h)
    (k : ∀ w1 H1 h1 ps qs, Le w0 H0 w1 H1 → SRel G Z w1 H1 ρ σ → HRel G w1 H1 h1 → RepP G w1 H1 ps qs → Post G w H (g qs h1) Q (fun c d H' => W c d σ H') → K ps H1) : tPairs (trsOf G Z W fs) σ H0 K := by
  cases hd : dPairs fs ρ h with
  | ok qs h1 =>
    rw [hd] at p
    exact pairs_go (g := fun ps h => Res.ok ps h) (Q := fun _ _ h' ps => h' = h1 ∧ ps = qs) S0 R0 (by rw [hd]; exact fun _ _ _ _ => ⟨rfl, rfl⟩) fun w1 H1 h1' ps qs' e1 S1 R1 rp p1 => by
      obtain ⟨rfl, rfl⟩ := p1.now R1
      exact k w1 H1 _ ps _ e1 S1 R1 rp p
  | exc c f h1 =>
    rw [hd] at p
    exact pairs_go (g := fun ps h => Res.ok ps h) (Q := fun _ _ _ _ => False) S0 R0 (by rw [hd]; exact Post.le (Q := fun _ _ _ _ => False) (r := Res.exc c f h1) p e0) fun w1 H1 h1' ps qs' e1 S1 R1 rp p1 => (p1.now R1).elim
  | bad => rw [hd] at p; exact p.elim
theorem RepP.kvK {G : Gx} {w : Wd} {H : Hp} : ∀ {ps : List (V × V)} {qs : List (D × D)} {kvs : List (DK × D)}, RepP G w H ps qs → kvD false qs = some kvs → ∃ vs : List (Key × V), ps = vs.map (fun kv => (kV kv.1, kv.2)) ∧ RepK G w H vs kvs
  | _, _, _, .nil, h => by cases h; exact ⟨[], rfl, .nil⟩
  | _, _, kvs, .cons (d := d) (e := e) (qs := qs) a b c, h => by
    unfold kvD at h
    cases e1 : dkD d with
    | none => rw [e1] at h; cases h
    | some dk =>
      cases e2 : kvD false qs with
      | none => rw [e1, e2] at h; cases h
      | some r =>
        rw [e1, e2] at h
        simp only at h
        split at h
        · rename_i hk
          cases h
          obtain ⟨vs, h1, h2⟩ := RepP.kvK c e2
          cases dk with
          | t as => cases hk
          | k k => exact ⟨(k, _) :: vs, by rw [List.map_cons, h1, dkD_k a e1], .cons b h2⟩
        · cases h
theorem RepP.kvT {G : Gx} {w : Wd} {H : Hp} : ∀ {ps : List (V × V)} {qs : List (D × D)} {kvs : List (DK × D)}, RepP G w H ps qs → kvD true qs = some kvs → ∃ vs : List (List Key × V), KPs H ps vs ∧ RepT G w H vs kvs
  | _, _, _, .nil, h => by cases h; exact ⟨[], .nil, .nil⟩
  | _, _, kvs, .cons (d := d) (e := e) (qs := qs) a b c, h => by
    unfold kvD at h
    cases e1 : dkD d with
    | none => rw [e1] at h; cases h
    | some dk =>
      cases e2 : kvD true qs with
      | none => rw [e1, e2] at h; cases h
      | some r =>
        rw [e1, e2] at h
        simp only at h
        split at h
        · rename_i hk
          cases h
          obtain ⟨vs, h1, h2⟩ := RepP.kvT c e2
          cases dk with
          | k k => cases hk
          | t k => exact ⟨(k, _) :: vs, .cons ⟨dkD_t a e1, rfl⟩ h1, .cons b h2⟩
        · cases h
theorem RepK.mergeA {G : Gx} {w : Wd} {H : Hp} : ∀ {more : List (Key × V)} {ds : List (DK × D)} {kvs : List (Key × V)} {es : List (DK × D)}, RepK G w H more ds → RepK G w H kvs es → RepK G w H (mergeK kvs more) (Pf.mergeA es ds)
  | _, _, _, _, .nil, r => r
  | _, _, _, _, .cons (k := k) (v := v) (d := d) (vs := vs) (ds := ds) a b, r => (RepK.mergeA b (r.put k a) : RepK G w H (mergeK (putK _ k v) vs) (Pf.mergeA (putA _ (.k k) d) ds))
theorem RepT.mergeA {G : Gx} {w : Wd} {H : Hp} : ∀ {more : List (List Key × V)} {ds : List (DK × D)} {kvs : List (List Key × V)} {es : List (DK × D)}, RepT G w H more ds → RepT G w H kvs es → RepT G w H (mergeT kvs more) (Pf.mergeA es ds)
  | _, _, _, _, .nil, r => r
  | _, _, _, _, .cons (k := k) (v := v) (d := d) (vs := vs) (ds := ds) a b, r => (RepT.mergeA b (r.put k a) : RepT G w H (mergeT (putK _ k v) vs) (Pf.mergeA (putA _ (.t k) d) ds))
section
variable {X : Cx} {T : Tb} {Z : Addr → Prop} {W : WX} {pos : Pos} {keys : List (Option Expr)} {values : List Expr} {fs : List (Den D × Den D)} {k v : Expr} {f g : Den D} {n : Nat}
abbrev SPs (X : Cx) (T : Tb) (Z : Addr → Prop) (W : WX) (pos : Pos) (keys : List (Option Expr)) (values : List Expr) (fs : List (Den D × Den D)) : Prop := PPs X pos keys values (trsOf (gx X T) Z W fs)
theorem sps_nil : SPs X T Z W pos [] [] [] := pps_nil
theorem sps_cons (hk : SE X T Z W k f) (hv : SE X T Z W v g) (hr : SPs X T Z W pos keys values fs) : SPs X T Z W pos (some k :: keys) (v :: values) ((f, g) :: fs) := pps_cons hk hv hr
theorem sf_disp (h : SPs X T Z W pos keys values fs) (hall : keys.all (·.isSome) = true := by rfl) (hl : keys.length = values.length := by rfl) (h0 : keys ≠ [] := by exact List.cons_ne_nil _ _) (h15 : keys.length ≤ 15 := by decide) : SF X T Z W (.Dict keys values pos) (dDisp false fs) :=
  pe_imp (pe_disp h hall hl h0 h15) fun σ H Q ⟨w, ρ, h, S, R, p⟩ q hq =>
    pairs_own p (Le.addL hq) (S.le (Le.addL hq)) (R.addL hq) fun w1 H1 h1 ps qs e1 S1 R1 rp p1 => by
      have l1 : w1.L q := e1.L q (.inr rfl)
      have l2 : H1 q = some (.dK []) := e1.hL q _ (.inr rfl) upd_same
      obtain ⟨z, hz, p2⟩ := post_opt' p1
      obtain ⟨kvs, hk, hz⟩ := Option.bind_eq_some_iff.mp hz
      split at hz
      · rename_i hn
        cases hz
        obtain ⟨vs, h1, h2⟩ := rp.kvK hk
        have sf : Soft (gx X T) w1 H1 w1 (upd H1 q (.dK (mergeK [] vs))) := soft_mut (fun f => R1.FL q f l1) l2 trivial
        have h2' : RepK (gx X T) w1 (upd H1 q (.dK (mergeK [] vs))) vs kvs := h2.soft sf
        refine ⟨l2, vs, h1, by rw [h2.length]; exact hn, ?_⟩
        have wq : ¬ w.L q := (R.fresh hq).2.1
        exact p2 w1 _ (((Le.addL hq).trans e1).mutL R1 l1 wq l2 trivial) (R1.mutL l1 l2 trivial) q l1 wq ⟨_, upd_same, h2'.mergeA .nil⟩
      · cases hz
theorem sf_dispT (hr : RmU X.A) (h : SPs X T Z W pos keys values fs) (hall : keys.all (·.isSome) = true := by rfl) (hl : keys.length = values.length := by rfl) (h0 : keys ≠ [] := by exact List.cons_ne_nil _ _) (h15 : keys.length ≤ 15 := by decide) : SF X T Z W (.Dict keys values pos) (dDisp true fs) :=
  pe_imp (pe_dispT (hu1 hr) h hall hl h0 h15) fun σ H Q ⟨w, ρ, h, S, R, p⟩ q hq =>
    pairs_own p (Le.addL hq) (S.le (Le.addL hq)) (R.addL hq) fun w1 H1 h1 ps qs e1 S1 R1 rp p1 => by
      have l1 : w1.L q := e1.L q (.inr rfl)
      have l2 : H1 q = some (.dT []) := e1.hL q _ (.inr rfl) upd_same
      obtain ⟨z, hz, p2⟩ := post_opt' p1
      obtain ⟨kvs, hk, hz⟩ := Option.bind_eq_some_iff.mp hz
      split at hz
      · rename_i hn
        cases hz
        obtain ⟨vs, h1, h2⟩ := rp.kvT hk
        have sf : Soft (gx X T) w1 H1 w1 (upd H1 q (.dT (mergeT [] vs))) := soft_mut (fun f => R1.FL q f l1) l2 trivial
        have h2' : RepT (gx X T) w1 (upd H1 q (.dT (mergeT [] vs))) vs kvs := h2.soft sf
        refine ⟨l2, vs, h1, by rw [h2.length]; exact hn, ?_⟩
        have wq : ¬ w.L q := (R.fresh hq).2.1
        exact p2 w1 _ (((Le.addL hq).trans e1).mutL R1 l1 wq l2 trivial) (R1.mutL l1 l2 trivial) q l1 wq ⟨_, upd_same, h2'.mergeA .nil⟩
      · cases hz
end

def dGetB (f g k : Den D) : Den D := fun ρ h => (f ρ h).bind fun d h1 => if isDct d then (g ρ h1).bind fun e h2 => (k ρ h2).bind fun z h3 => optR ((lookD d e).map fun o => o.getD z) h3 else .bad
def dGetC (f g : Den D) : Den D := fun ρ h => (f ρ h).bind fun d h1 => if isDct d then (g ρ h1).bind fun e h2 => optR ((lookD d e).map fun o => o.getD .non) h2 else .bad
theorem View.isDct {G : Gx} {w : Wd} {H : Hp} {v : V} {d : D} (x : View G w H v d) (h : isDct d = true) : ∃ a, v = .ref a ∧ IsD H a := by
  rcases x with x | ⟨a, rfl, _, ho⟩
  · exact x.isD h
  · cases d with
    | dct t kvs => cases t <;> (obtain ⟨vs, h1, _⟩ := ho; first | exact ⟨a, rfl, .inl ⟨vs, .inl h1⟩⟩ | exact ⟨a, rfl, .inr ⟨vs, .inl h1⟩⟩)
    | _ => cases h
theorem View.lookD {G : Gx} {w : Wd} {H : Hp} {v y : V} {d e : D} {o : Option D} (x : View G w H v d) (hd : Pf.isDct d = true) (ry : Rep G w H y e) (h : Pf.lookD d e = some o) :
    ∃ a ov, v = .ref a ∧ DGet H a y ov ∧ ((o = none ∧ ov = none) ∨ ∃ z u, o = some z ∧ ov = some u ∧ Rep G w H u z) := by
  have lk : Look G w H v d := x.imp id fun ⟨a, h1, _, h3⟩ => ⟨a, h1, h3⟩
  exact lk.isD ry h
section
variable {X : Cx} {T : Tb} {Z : Addr → Prop} {W : WX} {o e e2 : Expr} {f g k : Den D} {apos cpos : Pos} {n : Nat}
theorem se_get1 (hr : RmU X.A) (ho : SV X T Z W o f) (he : SE X T Z W e g) (m : M1 X o "get" apos e cpos) : SE X T Z W (.Call (.Attribute o "get" apos) [e] [] cpos) (dGetC f g) :=
  pe_imp (pe_dget1 (hu1 hr) ho he m) fun σ H Q ⟨w, ρ, h, S, R, p⟩ => step_V S R p fun w1 H1 h1 d x e1 S1 R1 r1 p1 => by
    by_cases hd : isDct d = true
    · rw [if_pos hd] at p1
      obtain ⟨a, rfl, ha⟩ := r1.isDct hd
      refine ⟨a, rfl, ha, step_E S1 R1 p1 fun w2 H2 h2 e y e2 S2 R2 r2 p2 => ?_⟩
      obtain ⟨z, hz, p3⟩ := post_opt' p2
      obtain ⟨oo, ho, rfl⟩ := Option.map_eq_some_iff.mp hz
      obtain ⟨b, ov, eb, g, hh⟩ := (r1.le e2).lookD hd r2 ho
      cases eb
      refine ⟨ov, g, ?_⟩
      rcases hh with ⟨rfl, rfl⟩ | ⟨z, u, rfl, rfl, ru⟩
      · exact p3.now R2 _ .non
      · exact p3.now R2 _ ru
    · rw [if_neg hd] at p1; exact p1.elim
theorem se_get2 (hr : RmU X.A) (ho : SV X T Z W o f) (he : SE X T Z W e g) (hx : SE X T Z W e2 k) (m : M2 X o "get" apos e e2 cpos) : SE X T Z W (.Call (.Attribute o "get" apos) [e, e2] [] cpos) (dGetB f g k) :=
  pe_imp (pe_dget2 (hu1 hr) ho he hx m) fun σ H Q ⟨w, ρ, h, S, R, p⟩ => step_V S R p fun w1 H1 h1 d x e1 S1 R1 r1 p1 => by
    by_cases hd : isDct d = true
    · rw [if_pos hd] at p1
      obtain ⟨a, rfl, ha⟩ := r1.isDct hd
      refine ⟨a, rfl, ha, step_E S1 R1 p1 fun w2 H2 h2 e y e2 S2 R2 r2 p2 => step_E S2 R2 p2 fun w3 H3 h3 e' y' e3 S3 R3 r3 p3 => ?_⟩
      obtain ⟨z, hz, p4⟩ := post_opt' p3
      obtain ⟨oo, ho, rfl⟩ := Option.map_eq_some_iff.mp hz
      obtain ⟨b, ov, eb, g, hh⟩ := (r1.le (e2.trans e3)).lookD hd (r2.le e3) ho
      cases eb
      refine ⟨ov, g, ?_⟩
      rcases hh with ⟨rfl, rfl⟩ | ⟨z, u, rfl, rfl, ru⟩
      · exact p4.now R3 _ r3
      · exact p4.now R3 _ ru
    · rw [if_neg hd] at p1; exact p1.elim
/-- x.update(e): both with keys tuples -/
def updD : D → D → Option D
  | .dct true kvs, .dct true more => if kvs ≠ [] ∧ kvs.length + more.length ≤ 16777216 then some (.dct true (mergeA kvs more)) else none
  | _, _ => none
def isOwnT (i : Nat) (ρ : Rho) : Bool := match ρ[i]? with
  | some (.own (.dct true _)) => true
  | _ => false
def sUpd (i : Nat) (f : Den D) : SDen := fun ρ h => if isOwnT i ρ then sBind (f ρ h) ρ fun d h1 => match chg i (fun o => updD o d) ρ h1 with
  | some (ρ', h') => .ok .next ρ' h'
  | none => .bad else .bad
end
section
variable {X : Cx} {T : Tb} {W : WX} {e : Expr} {f : Den D} {pos apos cpos p : Pos} {n : Nat}
theorem ss_upd {i : Nat} {x : Str} (hr : RmU X.A) (hN : X.N[i]? = some x) (hv : Vis X.env.scope x) (he : ∀ Z, SE X T Z W e f) (hs : swapsWith (.Call (.Attribute (.Name x p) "update" apos) [e] [] cpos) none pos.line X.env = pure false := by rfl)
    (hd : (x == ("__debug__" : Str)) = false := by decide) (hcd : (x == ("__classdict__" : Str)) = false := by decide)
    (hbase : attributeBase (.Name x p) "update" X.env (eval (.Name x p) X.env) = eval (.Name x p) X.env := by rfl)
    (hfew : ((backTo cpos (starEach [e] X.env)).all (fun x => !x.1) && (backToKw cpos (keywordEach [] X.env)).all (fun x => x.1.isSome)
      && decide (([e] : List Expr).length + ([] : List Keyword).length + (if ([] : List Keyword).isEmpty then 0 else 1) < 30)) = true := by rfl)
    (hline : (apos.endLine == cpos.line) = true := by rfl) (hst : starEach [e] X.env = (false, eval e X.env) :: starEach [] X.env := by rfl) :
    SS X T W (.Expr (.Call (.Attribute (.Name x p) "update" apos) [e] [] cpos) pos) (sUpd i f) := fun w0 H0 =>
  ps_imp (ps_expr (pe_bm PySem.F.plainAttrs_dict PySem.F.slot_dict_update PySem.F.type_dict_update (mt_updT (hu1 hr)) (pe_var hN hv hd hcd) (pa_cons (he w0.L) pa_nil hst) hbase hfew hline hst) hs) fun D σ H ⟨w, ρ, h, S, R, L, p⟩ => by
    unfold sUpd at p
    split at p
    · rename_i hvw
      unfold isOwnT at hvw
      split at hvw
      · rename_i kvs0 hi0
        obtain ⟨a, hx, hL0, hZ0, vs0, ha, _⟩ := S.own i _ hi0
        refine ⟨_, hx, .inr (.inr (.inl ⟨rfl, .inr ⟨vs0, ha⟩⟩)), ?_⟩
        refine sstep_E S R L p fun w1 H1 h1 d v e1 S1 R1 L1 r1 p1 => ?_
        cases hc : chg i (fun o => updD o d) ρ h1 with
        | none => rw [hc] at p1; exact p1.elim
        | some q =>
          obtain ⟨ρ', h'⟩ := q
          rw [hc] at p1
          obtain ⟨b, d0, d1, o, eb, hf, ho, hao, mu, fin⟩ := chg_go S1 R1 hx hc
          cases eb
          unfold updD at hf
          split at hf
          · split at hf
            · rename_i kvs more hl
              cases hf
              obtain ⟨vs, h5, h6⟩ := ho
              cases r1 with
              | @dT b o0 ms _ fb hb rb =>
                have hab : a ≠ b := fun z => R1.FL b fb (z ▸ e1.L a hL0)
                obtain ⟨f1, f2, f3, f4⟩ := fin (.dT (mergeT vs ms)) (fun _ z => by cases z) fun sf => ⟨_, upd_same, (rb.soft sf).mergeA (h6.soft sf)⟩
                refine ⟨a, b, vs, ms, rfl, rfl, hab, h5, .inr ⟨o0, hb⟩, fun z => ?_, by rw [szl, h6.length, rb.length]; exact hl.2, p1.now f2 f1 (f3 L1 (by
                  by_cases hL : w1.L a
                  · exact .inl fun z => f4 ⟨hL, z⟩
                  · exact .inr hL))⟩
                · subst z
                  have := h6.length
                  exact hl.1 (List.length_eq_zero_iff.mp this.symm)
            · cases hf
          · cases hf
      · cases hvw
    · exact p.elim
end
end Pf
end
section
set_option maxRecDepth 100000
namespace L2N
open PySem PySem.Spec PyProof.Rows L2

/-- what the clause 'except (x, y, z) as n' wishes of an exception of the body -/
def wAsT (K : PySem.W.Frag) (cs : List Value) (i : Nat) (ts : Addr → Value → Option Addr → TS) (Wout : WX) (D : Ends) : WX := fun cls d σ H =>
  ∃ b, PySem.W.exmAny K cls cs = some b ∧ (b = true → ∀ a, H a = none → ts a cls d { nx := fun σ' H' => D.nx (σ'.set i none) H', rt := D.rt, bk := fun σ' H' => D.bk (σ'.set i none) H', ct := fun σ' H' => D.ct (σ'.set i none) H' } (σ.set i (some (.ref a))) H) ∧
    (b = false → Wout cls d σ H)
theorem flying_keeps {B h h' : Heap} {l : List Env} {a : Addr} {Z : Obj → Prop} (x : HandSPX.FlyingZ B l a Z h) (k : ∀ b o, h.get? b = some o → h'.get? b = some o) : HandSPX.FlyingZ B l a Z h' := by
  obtain ⟨k1, k2, k3, oe, vs, T, oT, ts, he, hz, hd, h1, h2, h3, h4, h5, h6⟩ := x
  exact ⟨fun b o e => k b o (k1 b o e), k2, k3.of_keeps fun b o e _ => ⟨o, k b o e, rfl⟩, oe, vs, T, oT, ts, k _ _ he, hz, hd, h1, h2, h3, k _ _ h4, h5, h6⟩
section
variable {X : Cx} {x y z n : Str} {cx cy cz : Value} {i : Nat} {body suite : List Stmt} {b₀ : Stmt} {px py pz tp pos pos' : Pos} {kk : Nat} {tb : WX → TS} {ts : Addr → Value → Option Addr → TS} {Wout : WX}
theorem ps_try_as3 (hs : X.stack = X.env :: X.outer) (hf : X.env.frame = some X.env.locals) (hN : X.N.Nodup) (hi : X.N[i]? = some n) (hln : X.env.kindOf n = some .local) (hx : Names X x cx) (hy : Names X y cy) (hz : Names X z cz) (tk : Takes X Wout)
    (hb : ∀ (W : WX) (pn : List (Addr × Obj)) (xe : Value → Shared → Prop), Takes (X.tr pn xe) W → PassesOwn (model X.prog X.w) X.A X.env xe → PSs (X.tr pn xe) body (tb W))
    (hsu : ∀ (a : Addr) (oe : Obj) (cls : Value) (d : Option Addr) (pn : List (Addr × Obj)), Zn cls d oe → (∃ vs, oe.data = .fields vs) → PSs (X.suite a ((a, oe) :: pn)) (b₀ :: suite) (ts a cls d)) :
    PS X (.Try body [.ExceptHandler (some (.Tuple [.Name x px, .Name y py, .Name z pz] kk tp)) (some n) (b₀ :: suite) pos'] [] [] pos) (fun D σ H => tb (wAsT X.K [cx, cy, cz] i ts Wout D) D σ H) := by
  refine ⟨fun pins s σ H D I h => ?_⟩
  have ok := I.ok
  have hfr : X.A.frames = some (X.env :: X.outer) := by rw [ok.frames, hs]
  have hloc : Loc X.env.scope n := .inl hln
  refine wpAny_Try_except ?_
  refine wpAny_mono ((hb (wAsT X.K [cx, cy, cz] i ts Wout D) (X.pn ++ pins) (fun e s₁ => wpAny (model X.prog X.w) X.A (noteFrame e X.env) (fun _ s₂ => wpAny (model X.prog X.w) X.A (setFlight e none) (fun _ s₃ =>
    wpAny (model X.prog X.w) X.A (handleBy e X.env [.ExceptHandler (some (.Tuple [.Name x px, .Name y py, .Name z pz] kk tp)) (some n) (b₀ :: suite) pos']) (SP X pins D) X.xe s₃) X.xe s₂) X.xe s₁) (fun u s' xx => ?_) PassesOwn.looking).run [] s σ H D (I.toTry _) h) (fun f s1 hsp => ?_) (fun e s1 he => he)
  · obtain ⟨a, B, sI, pins', σ', H', cls, d, rfl, J', nb, up, sky, na, os, ag, b, hb1, hyes, hno⟩ := xx
    have J : Inv X pins σ' H' sI := J'.ofTry ok
    have sky' : Sky B (X.env :: X.outer) a (Zn cls d) X.env.locals s'.heap := by rw [← hs]; exact sky
    show wpAny (model X.prog X.w) X.A (noteFrame (.ref a) X.env) _ _ _
    refine Sky.land Zn.steady hfr hf sky' fun h3 fl3 up3 => ?_
    have J3 : Inv X pins σ' H' { s' with heap := h3 } := J.landed nb fl3.1 (up.trans up3) os ag
    obtain ⟨oe3, vs3, he3, hz3, hd3⟩ := fl3.there
    have notFr : ∀ {h : Heap} {o : Obj} {vs : Array Value}, h.FunFrames B (X.env :: X.outer) → h.get? a = some o → o.data = .fields vs → a ∉ frs (X.env :: X.outer) := fun {h o vs} ff e dd hm => by
      obtain ⟨_, o', e', hnf⟩ := ff.mem hm
      rw [e] at e'; cases e'
      exact hnf _ dd
    have nfr := notFr fl3.2.2.1 he3 hd3
    have nL : a ≠ X.env.locals := fun z => nfr (List.mem_filterMap.mpr ⟨X.env, List.mem_cons_self, by rw [hf, z]⟩)
    have nF : a ∉ X.fs := fun hm => by
      obtain ⟨e, he, q⟩ := List.mem_filterMap.mp hm
      exact nfr (List.mem_filterMap.mpr ⟨e, List.mem_cons_of_mem _ he, q⟩)
    have S3 := J3.suite he3 hd3 na nL nF
    have test : ∀ {x : Str} {c : Value} {np : Pos} {Q : Value → Shared → Prop} {E : Value → Shared → Prop}, Names X x c → Q c { s' with heap := h3 } → wpAny (model X.prog X.w) (X.A.mark (some (.ref a))) (eval (.Name x np) X.env) Q E { s' with heap := h3 } := fun {x c np Q E} hc q => by
      obtain ⟨hg, hdbg, hm | ⟨hm, hv, hnn⟩⟩ := hc
      · exact ld_glob (X := X.suite a ((a, oe3) :: (X.pn ++ pins))) S3 hg hm q hdbg
      · exact ld_blt (X := X.suite a ((a, oe3) :: (X.pn ++ pins))) S3 hg hm hv q hnn hdbg
    refine wpAny_handleBy_cons (codeAny_handlers_test ?_) (by intro q; cases q)
    refine wpAny_Tuple_spliced ?_
    show wpAny _ _ (spliced [(false, eval (.Name x px) X.env), (false, eval (.Name y py) X.env), (false, eval (.Name z pz) X.env)]) _ _ _
    refine Calls.spliced_cons (test hx (Calls.spliced_cons (test hy (Calls.spliced_cons (test hz (Calls.spliced_nil ⟨by rw [sizeLine_eq]; exact (by decide : 3 ≤ 16777216), ?_⟩))))))
    generalize hh3 : h3.push ({ cls := .type "tuple", data := .seq [cx, cy, cz].toArray } : Obj) = h3'
    have kp : ∀ b o, h3.get? b = some o → h3'.get? b = some o := fun b o e => by rw [← hh3]; exact Heap.get?_push_of_some _ e
    have htp : h3'.get? h3.objs.size = some { cls := .type "tuple", data := .seq [cx, cy, cz].toArray } := by rw [← hh3]; exact Heap.get?_push_size _ rfl
    have fl3' := flying_keeps fl3 kp
    have up3' : s'.heap.UpToSlots h3' := up3.trans (Heap.UpToSlots.of_keeps kp)
    have J3' : Inv X pins σ' H' { s' with heap := h3' } := J.landed nb fl3'.1 (up.trans up3') os ag
    have LT : PySem.W.Looks (model X.prog X.w) h3' (typeOf (.ref a)) cls := fun A Q E s k q => wpAny_typeOf_ref (k _ _ (kp _ _ he3)) (by rw [hz3.1]; exact q)
    have LM := PySem.W.exm_tup3 (M := model X.prog X.w) (J3'.kIn) LT htp hb1
    show wpAny _ _ (excMatches (.ref a) (.ref h3.objs.size)) _ _ { s' with heap := h3' }
    refine LM.here ?_
    cases b with
    | true =>
      refine codeAny_handlers_suite_as ?_
      refine HandSPX.lands_againZ fl3' fun h4 fl4 up4 => ?_
      have J4 : Inv X pins σ' H' { s' with heap := h4 } := J.landed nb fl4.1 ((up.trans up3').trans up4) os ag
      obtain ⟨oe4, vs4, he4, hz4, hd4⟩ := fl4.there
      have S4 := J4.suite he4 hd4 na nL nF
      refine store_ok (X := X.suite a ((a, oe4) :: (X.pn ++ pins))) (v := .ref a) S4 hN hi hloc rfl (fun s5 S5 => ?_) (.inr hln)
      refine wpAny_mono ((hsu a oe4 cls d (X.pn ++ pins) hz4 ⟨_, hd4⟩).run [] s5 _ H' _ S5 (hyes rfl a na)) (fun f s6 hsp => ?_) (fun _ _ z => False.elim z)
      have end_ : ∀ {σ6 : St} {H6 : Hp} {Q : Shared → Prop}, Inv (X.suite a ((a, oe4) :: (X.pn ++ pins))) [] σ6 H6 s6 → (∀ s7, Inv X pins (σ6.set i none) H6 s7 → Q s7) →
          wpAny (model X.prog X.w) X.A (do bindName X.env n .none; unbindBehindTheSuite X.env n pos') (fun _ s7 => Q s7) X.xe s6 := fun {σ6 H6 Q} S6 hq => gone_ok (S6.unsuite ok) hN hi hln hq
      cases f with
      | next => obtain ⟨σ6, H6, S6, q6⟩ := hsp; exact end_ S6 fun s7 J7 => ⟨_, _, J7, q6⟩
      | brk => obtain ⟨σ6, H6, S6, q6⟩ := hsp; exact end_ S6 fun s7 J7 => ⟨_, _, J7, q6⟩
      | cont => obtain ⟨σ6, H6, S6, q6⟩ := hsp; exact end_ S6 fun s7 J7 => ⟨_, _, J7, q6⟩
      | ret u => obtain ⟨v6, σ6, H6, S6, r6, q6⟩ := hsp; exact end_ S6 fun s7 J7 => ⟨_, _, _, J7, r6, q6⟩
    | false =>
      show wpAny _ X.A (handleBy (.ref a) X.env []) _ _ _
      refine wpAny_handleBy_nil ?_
      obtain ⟨k1, k2, k3, oe, vs, T, oT, ts', he, hz, hd, h1, hr⟩ := id fl3'
      unfold PySem.passOn
      refine wpAny_bind (wpAny_field he hd h1 ?_)
      rw [if_neg (show ¬ ((Value.ref T == Value.none) = true) from by simp)]
      have fin : wpAny (model X.prog X.w) X.A (setFlight (.ref a) X.env.frame) (fun _ s4 => wpAny (model X.prog X.w) X.A (throw (.ref a) : Sem Flow) (SP X pins D) X.xe s4) X.xe { s' with heap := h3' } := by
        rw [hf]
        refine HandSPX.setFlight_upZ fl3' fun h4 hh4 up4 => wpAny_throw (tk _ _ ?_)
        exact ⟨a, B, sI, pins, σ', H', cls, d, rfl, J, nb, (up.trans up3').trans up4, .inr (.inr (by rw [hs]; exact hh4)), na, os, ag, hno rfl⟩
      first
        | exact wpAny_bind (wpAny_pure (wpAny_bind fin))
        | exact wpAny_bind fin
  · cases f with
    | next => obtain ⟨σ', H', J', q⟩ := hsp; exact wpAny_execs_nil ⟨σ', H', J'.ofTry ok, q⟩
    | brk => obtain ⟨σ', H', J', q⟩ := hsp; exact ⟨σ', H', J'.ofTry ok, q⟩
    | cont => obtain ⟨σ', H', J', q⟩ := hsp; exact ⟨σ', H', J'.ofTry ok, q⟩
    | ret u => obtain ⟨v, σ', H', J', r, q⟩ := hsp; exact ⟨v, σ', H', J'.ofTry ok, r, q⟩
end
end L2N
end
section
set_option maxRecDepth 100000
set_option maxHeartbeats 4000000
namespace L2N
open PySem PySem.Spec PyProof.Rows L2
section
variable {X : Cx} {o e : Expr} {es : List Expr} {to te : TE} {ta : TA} {f : Str} {p p' p1 p2 pos : Pos}
theorem mk_endN {pins : List (Addr × Obj)} {σ : L2.St} {H1 H2 : Hp} {Q : XK} {hp hp2 h2 : Heap} {g1 g2 : Array GenState} {d1 d2 : Drawn} {t1 t2 : Nat} {os1 os2 : OsState} {a C d : Addr} {fs : List (Str × V)} (T : Raises X (.ref C)) (I1 : Inv X pins σ H1 ⟨hp, g1, d1, t1, os1⟩)
    (ha : hp.objs.size ≤ a) (k : ∀ b o, hp.get? b = some o → hp2.get? b = some o) (un : Un (frs X.stack) [] (upd H1 a (exo a C none)) H2 hp2 h2) (hok : HOk X.prog X.w H2 h2) (ho : os2 = os1) (hb : AllBare g2)
    (ea : H2 a = some (exo a C (some d))) (ed : H2 d = some (exd d fs)) (hd1 : H1 d = none) (q : Q (.ref C) (some d) (upd (del H2 a) d (.xd fs))) : MkP X pins σ Q (.ref a) ⟨h2, g2, d2, t2, os2⟩ := by
  obtain ⟨t0, G, J, kG, ge, hoe, na⟩ := mk_end0 (d2 := d2) (t2 := t2) I1 ha k un hok ho hb ea ed hd1
  exact ⟨a, _, _, ⟨G, g2, d2, t2, os2⟩, _, .ref C, some d, rfl, J, kG, ge, hoe, ⟨rfl, rfl, fun vs e => by cases e; rfl⟩, rfl, rfl, na, rfl, hb, T, q⟩
theorem pmk_oexN {CX : CXT} {x : Str} {C fI : Addr} {k : Nat} {fd : FuncData} {ps : List Str} {sp : Sp} {ds : List Value} {dvs : List V} (T : OexC X.K C) (iC : PySem.W.findIn X.K (.ref C) "__init__" = some (some (.ref fI))) (tI : PySem.W.typeIn X.K (.ref fI) = some (.type "function"))
    (F1 : FnOk X.prog X.w X.K X.mg X.base CX k fI fd ps sp) (hr : Room (k + 1) X.A) (hb : Binds X.K fd ps ds) (hd : Vals dvs ds) (hx : Passes CX X (fun _ _ _ => False)) (hg : Gl X x) (hm : X.mg x = some (.ref C)) (ha : PA X (e :: es) ta)
    (hdb : (x == ("__debug__" : Str)) = false := by decide) (he : starEach (e :: es) X.env = (false, eval e X.env) :: starEach es X.env := by rfl) (hpl : (backTo pos (starEach es X.env)).any (·.1) = false := by rfl) :
    PMk X (.Call (.Name x p) (e :: es) [] pos) (tMkO C sp dvs ta) := by
  intro pins s σ H Q I h
  obtain ⟨nm, q, N, bs, bm, sn, sub, ab, col, dd, k0, k1, k2, k3, k5, hC, hbm⟩ := T.cls
  refine wpAny_Call_Name_kw (ld_glob I hg hm ?_ hdb)
  refine PySem.W.callWith_K (h₀ := X.base) I.ok.mod.kin T.kC (thn (ha.run pos pins s σ H _ I h) fun us s1 ⟨vs, H1, I1, r1, hz, q1⟩ => ⟨I1.kIn, ?_⟩) he hpl
  show wpAny _ _ (call (.ref C) us) _ _ _
  obtain ⟨hp, g, dr, tk, os⟩ := s1
  have hsz : hp.objs.size ≤ hp.objs.size + 1 := Nat.le_succ _
  have hn : H1 (hp.objs.size + 1) = none := I1.hok.fresh hsz
  have hq := q1 (hp.objs.size + 1) hn
  have kk : ∀ b o, hp.get? b = some o → ((hp.push (PySem.W.kdv_tup us)).push (PySem.HandSPX.excO C hp.objs.size)).get? b = some o := fun b o e => Heap.get?_push_of_some _ (Heap.get?_push_of_some _ e)
  have hget : ((hp.push (PySem.W.kdv_tup us)).push (PySem.HandSPX.excO C hp.objs.size)).get? (hp.objs.size + 1) = some (PySem.HandSPX.excO C hp.objs.size) := by heap_get
  have I2 : Inv X pins σ (upd H1 (hp.objs.size + 1) (exo (hp.objs.size + 1) C none)) ⟨(hp.push (PySem.W.kdv_tup us)).push (PySem.HandSPX.excO C hp.objs.size), g, dr, tk, os⟩ :=
    I1.laid (t' := tk) (a := hp.objs.size + 1) (o := exo (hp.objs.size + 1) C none) (h' := (hp.push (PySem.W.kdv_tup us)).push (PySem.HandSPX.excO C hp.objs.size)) kk hsz (exo_ok hget)
  have r2 : Vals (V.ref (hp.objs.size + 1) :: (vs ++ dvs)) (Value.ref (hp.objs.size + 1) :: (us ++ ds)) := .cons rfl (r1.append hd)
  have hl : (Value.ref (hp.objs.size + 1) :: us ++ ds).length = ps.length := by
    have e := r2.length
    rw [F1.len _ _ _ _ hq] at e
    exact e.symm
  have hus : us.length ≤ sizeLine := by
    rw [← Paired.length r1, sizeLine_eq]
    omega
  refine wpAny_call (PySem.HandSPX.call_own F.excBase_ValueError (fun Y => PySem.HandSPX.refsVE_contains Y bm hbm) (I1.kIn _ _ hC) (PySem.W.looks_findIn I1.kIn iC) (fun self => PySem.W.bind_fn I1.kIn self tI) hus
    (codeAny_mono (F1.run _ X.stack _ _ ⟨Value.ref (hp.objs.size + 1) :: us, []⟩ (Value.ref (hp.objs.size + 1) :: (us ++ ds)) _ _ (fun _ _ _ => False) (hr.make C us []) (I2.env0.make C us []) (hb _ (Value.ref (hp.objs.size + 1) :: us) I2.kIn hl) r2 hq) fun r s' hq' => ?_))
  cases r with
  | error er => exact hx pins σ _ _ er s' I2 hq'
  | ok fl =>
    cases fl with
    | ret u =>
      obtain ⟨v, H2, os2, bare2, un2, hok2, rv, ev, d, fs, ea, ed, hd1, q2⟩ := hq'
      subst ev
      obtain ⟨h2, g2, d2, t2, os'⟩ := s'
      exact ⟨rv, mk_endN (raises_own T.exC T.tyC) I1 hsz kk un2 hok2 os2 bare2 ea ed hd1 q2⟩
    | next => exact False.elim hq'
    | brk => exact False.elim hq'
    | cont => exact False.elim hq'
end
end L2N
namespace Pf
open PySem PySem.Spec PyProof.Rows L2 LamX

def iBody (f : Str) (q1 q2 q3 q4 : Pos) : List Stmt := [.Assign [.Attribute (.Name "self" q1) f q2] (.Name f q3) q4]
def spInit (K : PySem.W.Frag) (f : Str) : Sp := fun vs H Q E => ∃ a C v, vs = [.ref a, v] ∧ H a = some (exo a C none) ∧ OexC K C ∧ PySem.W.findIn K (.ref C) f = some none ∧ ∀ dx, H dx = none → dx ≠ a → Q .non (upd (upd H dx (exd dx [(f, v)])) a (exo a C (some dx)))
theorem ok_init {P : Program} {w : World} {K : PySem.W.Frag} {mg : Str → Option Value} {base : Heap} {x qual f : Str} {params : Arguments} {scope : Scope} {fI : Addr} {fd : FuncData} {q1 q2 q3 q4 : Pos} (F : FunD K x qual params (iBody f q1 q2 q3 q4) scope [] [] fI fd) (S : FnScope ["self", f] ["self", f] scope)
    (v0 : Vis scope "self") (v1 : Vis scope f) (hd : (f == ("__debug__" : Str)) = false) (hcd : (f == ("__classdict__" : Str)) = false)
    (hs : ∀ (cdv : Value) (fa : Addr) (sz : Nat), swapsWith (.Name f q3) (some (.Attribute (.Name "self" q1) f q2)) q4.line (envOfC qual scope sz fa cdv) = pure false) : FnOk P w K mg base CX0 1 fI fd ["self", f] (spInit K f) := by
  refine F.ok S (fun vs H Q E h => ?_) (fun cdv A outer s H vs Q E hr h => ?_)
  · obtain ⟨a, C, v, rfl, _⟩ := h; rfl
  · obtain ⟨a, C, v, rfl, ha, T, no, k⟩ := h
    refine ⟨tOst K f (tVar 0) (tVar 1), pss_one (ps_ost (pe_var (i := 0) rfl v0) (pe_var (i := 1) rfl v1 hd hcd) (hs _ _ _)), ?_⟩
    exact ⟨v, rfl, .ref a, rfl, a, C, rfl, T, no, .inl ⟨ha, fun dx h1 h2 => k dx h1 h2⟩⟩
/-- an own exception class c with the one field f -/
structure ExcU (P : Program) (w : World) (base : Heap) (G : Gx) (c f : Str) : Prop where
  is : ∃ C fI fd, G.mg c = some (.ref C) ∧ OexC G.K C ∧ PySem.W.findIn G.K (.ref C) "__init__" = some (some (.ref fI)) ∧ PySem.W.typeIn G.K (.ref fI) = some (.type "function") ∧ PySem.W.findIn G.K (.ref C) f = some none ∧
    FnOk P w G.K G.mg base CX0 1 fI fd ["self", f] (spInit G.K f) ∧ Binds G.K fd ["self", f] []
def sRaise (c f : Str) (g : Den D) : SDen := fun ρ h => sBind (g ρ h) ρ fun d h1 => .exc c [(f, d)] ρ h1
theorem xd_heap {H : Hp} {a dx : Addr} {u v : HO} {fs : List (Str × V)} {w : HO} (ha : H a = none) (hne : dx ≠ a) : upd (del (upd (upd (upd H a u) dx v) a w) a) dx (.xd fs) = upd H dx (.xd fs) := by
  funext b
  by_cases hb : b = dx
  · rw [hb, upd_same, upd_same]
  · rw [upd_ne hb, upd_ne hb]
    by_cases hba : b = a
    · rw [hba, del_same, ha]
    · rw [del_ne hba, upd_ne hba, upd_ne hb, upd_ne hba]
section
variable {X : Cx} {T : Tb} {W : WX} {e : Expr} {g : Den D} {pos p pos2 : Pos} {c f : Str} {n : Nat}
theorem ss_raise (U : ExcU X.prog X.w X.base (gx X T) c f) (hc : X.calm = true) (hr : Room 2 X.A) (hg : Gl X c) (tk : L2N.Takes X W) (he : ∀ Z, SE X T Z W e g) (hdb : (c == ("__debug__" : Str)) = false := by decide)
    (hst : starEach [e] X.env = (false, eval e X.env) :: starEach [] X.env := by rfl) (hpl : (backTo pos (starEach [] X.env)).any (·.1) = false := by rfl) :
    SS X T W (.Raise (some (.Call (.Name c p) [e] [] pos)) none pos2) (sRaise c f g) := fun w0 H0 => by
  obtain ⟨C, fI, fd, hm, O, iC, tI, no, F1, hb⟩ := U.is
  refine ps_imp (L2N.ps_raise hc tk (L2N.pmk_oexN O iC tI F1 hr hb .nil pass0 hg hm (pa_cons (he w0.L) pa_nil hst) hdb hst hpl)) fun D σ H ⟨w, ρ, h, S, R, L, p⟩ => ?_
  refine sstep_E S R L p fun w1 H1 h1 d v e1 S1 R1 L1 r1 p1 => ⟨(by decide : 1 ≤ 1000), fun a ha => ⟨a, C, v, rfl, upd_same, O, no, fun dx h2 h3 => ⟨rfl, dx, [(f, v)], upd_same, ?_, ?_, ?_⟩⟩⟩
  · rw [upd_ne h3, upd_same]
  · rw [upd_ne h3] at h2; exact h2
  · have hd : H1 dx = none := by rw [upd_ne h3] at h2; exact h2
    rw [xd_heap ha h3]
    exact p1 (w1.addF dx) σ _ C dx [(f, v)] (L1.trans (Le.addF hd)) (R1.addF hd) (S1.le (Le.addF hd)) hm upd_same (.cons (r1.le (Le.addF hd)) .nil) (.inr rfl)
end
end Pf
end
section
set_option maxRecDepth 100000
namespace Pf
open PySem PySem.Spec PyProof.Rows L2 LamX

section
variable {K : PySem.W.Frag} {mg : Str → Option Value} {T T' : Tb} {w : Wd} {H : Hp}
mutual
theorem Rep.reT : ∀ {v : V} {d : D}, Rep ⟨K, mg, T⟩ w H v d → Rep ⟨K, mg, T'⟩ w H v d
  | _, _, .non => .non
  | _, _, .bl b => .bl b
  | _, _, .int i => .int i
  | _, _, .str x => .str x
  | _, _, .tup h r => .tup h (Reps.reT r)
  | _, _, .kup h r => .kup h (Reps.reT r)
  | _, _, .lst f h r => .lst f h (Reps.reT r)
  | _, _, .dK f h r => .dK f h (RepK.reT r)
  | _, _, .dT f h r => .dT f h (RepT.reT r)
  | _, _, .ins f g h r => .ins f g h (RepF.reT r)
  | _, _, .ref h => .ref h
  | _, _, .cls h => .cls h
  | _, _, .ty n => .ty n
  | _, _, .scr f h => .scr f h
theorem Reps.reT : ∀ {v : List V} {d : List D}, Reps ⟨K, mg, T⟩ w H v d → Reps ⟨K, mg, T'⟩ w H v d
  | _, _, .nil => .nil
  | _, _, .cons a b => .cons (Rep.reT a) (Reps.reT b)
theorem RepK.reT : ∀ {v : List (Key × V)} {d : List (DK × D)}, RepK ⟨K, mg, T⟩ w H v d → RepK ⟨K, mg, T'⟩ w H v d
  | _, _, .nil => .nil
  | _, _, .cons a b => .cons (Rep.reT a) (RepK.reT b)
theorem RepT.reT : ∀ {v : List (List Key × V)} {d : List (DK × D)}, RepT ⟨K, mg, T⟩ w H v d → RepT ⟨K, mg, T'⟩ w H v d
  | _, _, .nil => .nil
  | _, _, .cons a b => .cons (Rep.reT a) (RepT.reT b)
theorem RepF.reT : ∀ {v : List (Str × V)} {d : List (Str × D)}, RepF ⟨K, mg, T⟩ w H v d → RepF ⟨K, mg, T'⟩ w H v d
  | _, _, .nil => .nil
  | _, _, .cons a b => .cons (Rep.reT a) (RepF.reT b)
end
theorem ORep.reT {a : Addr} {o : O} (x : ORep ⟨K, mg, T⟩ w H a o) : ORep ⟨K, mg, T'⟩ w H a o := by
  cases o with
  | lst ds => obtain ⟨xs, h1, h2⟩ := x; exact ⟨xs, h1, h2.reT⟩
  | ins c fs => obtain ⟨C, dx, vs, h0, h1, h2⟩ := x; exact ⟨C, dx, vs, h0, h1, h2.reT⟩
theorem OwnRep.reT {a : Addr} {d : D} (x : OwnRep ⟨K, mg, T⟩ w H a d) : OwnRep ⟨K, mg, T'⟩ w H a d := by
  cases d with
  | lst ds => obtain ⟨xs, h1, h2⟩ := x; exact ⟨xs, h1, h2.reT⟩
  | dct t kvs => cases t <;> (obtain ⟨vs, h1, h2⟩ := x; exact ⟨vs, h1, h2.reT⟩)
  | ins c fs => obtain ⟨C, dx, vs, h0, h1, h2⟩ := x; exact ⟨C, dx, vs, h0, h1, h2.reT⟩
  | _ => exact x.elim
theorem HRel.reT {h : Hl} (R : HRel ⟨K, mg, T⟩ w H h) (ht : T'.tabs = T.tabs) : HRel ⟨K, mg, T'⟩ w H h where
  live := fun r a e => let ⟨o, h1, h2⟩ := R.live r a e; ⟨o, h1, h2.reT⟩
  all := R.all
  inj := R.inj
  mF := R.mF
  FL := R.FL
  there := R.there
  ntb := R.ntb
  tabs := by show Tabs T'.tabs H; rw [ht]; exact R.tabs
end
def isX : Sl → Bool
  | .x _ _ => true
  | _ => false
def noX (ρ : Rho) : Bool := ρ.all fun s => !isX s
theorem noX_at {ρ : Rho} (h : noX ρ = true) {i : Nat} {c : Str} {fs : List (Str × D)} : ρ[i]? ≠ some (.x c fs) := fun e => by
  have := List.all_eq_true.mp h _ (List.mem_of_getElem? e)
  cases this
/-- the exception's slot is filled -/
theorem SRel.setx {K : PySem.W.Frag} {mg : Str → Option Value} {T : Tb} {Z : Addr → Prop} {w : Wd} {H : Hp} {ρ : Rho} {σ : L2.St} {i : Nat} {a C dx : Addr} {c : Str} {vs : List (Str × V)} {fs : List (Str × D)} (S : SRel ⟨K, mg, T⟩ Z w H ρ σ) (hT : T.xc = none)
    (hm : mg c = some (.ref C)) (hF : w.F dx) (hd : H dx = some (.xd vs)) (r : RepF ⟨K, mg, T⟩ w H vs fs) : SRel ⟨K, mg, ⟨T.tabs, some (a, C, dx)⟩⟩ Z w H (ρ.set i (.x c fs)) (σ.set i (some (.ref a))) where
  len := by rw [List.length_set, List.length_set]; exact S.len
  val := fun j e h => by
    rw [List.getElem?_set] at h ⊢
    by_cases hj : i = j
    · subst hj; rw [if_pos rfl] at h; split at h <;> cases h
    · rw [if_neg hj] at h ⊢
      obtain ⟨x, h1, h2⟩ := S.val j e h
      exact ⟨x, h1, h2.reT⟩
  own := fun j e h => by
    rw [List.getElem?_set] at h ⊢
    by_cases hj : i = j
    · subst hj; rw [if_pos rfl] at h; split at h <;> cases h
    · rw [if_neg hj] at h ⊢
      obtain ⟨b, h1, h2, h3, h4⟩ := S.own j e h
      exact ⟨b, h1, h2, h3, h4.reT⟩
  sep := fun j k e e' b h1 h2 h3 h4 => by
    rw [List.getElem?_set] at h1 h2 h3 h4
    by_cases hj : i = j
    · subst hj; rw [if_pos rfl] at h1; split at h1 <;> cases h1
    · by_cases hk : i = k
      · subst hk; rw [if_pos rfl] at h2; split at h2 <;> cases h2
      · rw [if_neg hj] at h1 h3
        rw [if_neg hk] at h2 h4
        exact S.sep j k e e' b h1 h2 h3 h4
  exn := fun j c' fs' h => by
    rw [List.getElem?_set] at h
    by_cases hj : i = j
    · subst hj
      rw [if_pos rfl] at h
      split at h
      · rename_i hl
        cases h
        refine ⟨a, C, dx, vs, rfl, ?_, hF, hd, hm, r.reT⟩
        rw [List.getElem?_set_self (by rw [← S.len]; exact hl)]
      · cases h
    · rw [if_neg hj] at h
      obtain ⟨_, _, _, _, h1, _⟩ := S.exn j c' fs' h
      rw [show (Gx.mk K mg T).T.xc = T.xc from rfl, hT] at h1
      cases h1
/-- .. and emptied -/
theorem SRel.unx {K : PySem.W.Frag} {mg : Str → Option Value} {T T' : Tb} {Z : Addr → Prop} {w : Wd} {H : Hp} {ρ : Rho} {σ : L2.St} {i : Nat} (S : SRel ⟨K, mg, T'⟩ Z w H ρ σ) (hn : noX (ρ.set i .no) = true) : SRel ⟨K, mg, T⟩ Z w H (ρ.set i .no) (σ.set i none) :=
  have S1 := SRel.drop S i
  { len := S1.len
    val := fun j e h => let ⟨x, h1, h2⟩ := S1.val j e h; ⟨x, h1, h2.reT⟩
    own := fun j e h => let ⟨b, h1, h2, h3, h4⟩ := S1.own j e h; ⟨b, h1, h2, h3, h4.reT⟩
    sep := S1.sep
    exn := fun j c fs h => absurd h (noX_at hn) }
def sTry (i : Nat) (body : SDen) (ex : Str → Option Bool) (suite : SDen) : SDen := fun ρ h => match body ρ h with
  | .exc c fs ρ1 h1 => match ex c with
    | some true => match suite (ρ1.set i (.x c fs)) h1 with
      | .ok fl ρ2 h2 => if noX (ρ2.set i .no) then .ok fl (ρ2.set i .no) h2 else .bad
      | _ => .bad
    | some false => .exc c fs ρ1 h1
    | none => .bad
  | r => r
/-- the suite's own end -/
theorem try_go {K : PySem.W.Frag} {mg : Str → Option Value} {T : Tb} {w0 : Wd} {H0 : Hp} {W : WX} {i : Nat} {b suite : SDen} {ex : Str → Option Bool} {cs : List Value} {Dn : Ends} {σ : L2.St} {H : Hp} (hT : T.xc = none)
    (hex : ∀ c r C, ex c = some r → mg c = some (.ref C) → PySem.W.exmAny K (.ref C) cs = some r) (q : tS ⟨K, mg, T⟩ w0 H0 W (sTry i b ex suite) Dn σ H) :
    tS ⟨K, mg, T⟩ w0 H0 (L2N.wAsT K cs i (fun a cls d D σ H => ∃ C dx, cls = .ref C ∧ d = some dx ∧ tS ⟨K, mg, ⟨T.tabs, some (a, C, dx)⟩⟩ w0 H0 (fun _ _ _ _ => False) suite D σ H) W Dn) b Dn σ H := by
  obtain ⟨w, ρ, h, S, R, L, p⟩ := q
  refine ⟨w, ρ, h, S, R, L, ?_⟩
  unfold sTry at p
  revert p
  cases b ρ h with
  | ok fl ρ1 h1 => exact fun p => p
  | bad => exact fun p => p
  | exc c fs ρ1 h1 =>
    intro p w1 σ1 H1 C dx vs L1 R1 S1 hm hd rf hF
    simp only at p
    cases e : ex c with
    | none => rw [e] at p; exact p.elim
    | some r =>
      rw [e] at p
      refine ⟨r, hex c r C e hm, fun hr a ha => ?_, fun hr => ?_⟩
      · subst hr
        refine ⟨C, dx, rfl, rfl, w1, ρ1.set i (.x c fs), h1, S1.setx hT hm hF hd rf, R1.reT rfl, L1, ?_⟩
        simp only at p
        revert p
        cases suite (ρ1.set i (.x c fs)) h1 with
        | bad => exact fun p => p
        | exc c2 f2 r2 h2 => exact fun p => p.elim
        | ok fl ρ2 h2 =>
          intro p
          simp only at p
          split at p
          · rename_i hn
            intro w2 σ2 H2 L2' R2 S2
            have p2 := p w2 (σ2.set i none) H2 L2' (R2.reT rfl) (S2.unx hn)
            cases fl with
            | next => exact p2
            | brk => exact p2
            | cont => exact p2
            | ret d => exact fun v rv => p2 v rv.reT
          · exact p.elim
      · subst hr
        exact p w1 σ1 H1 C dx vs L1 R1 S1 hm hd rf hF
section
variable {X : Cx} {T : Tb} {W : WX} {x y z n : Str} {cx cy cz : Value} {i : Nat} {body suite : List Stmt} {b₀ : Stmt} {px py pz tp pos pos' : Pos} {kk : Nat} {b s : SDen} {ex : Str → Option Bool}
theorem ss_try3 (hT : T.xc = none) (hs : X.stack = X.env :: X.outer) (hf : X.env.frame = some X.env.locals) (hN : X.N.Nodup) (hi : X.N[i]? = some n) (hln : X.env.kindOf n = some .local) (hx : Names X x cx) (hy : Names X y cy) (hz : Names X z cz) (tk : L2N.Takes X W)
    (hex : ∀ c r C, ex c = some r → X.mg c = some (.ref C) → PySem.W.exmAny X.K (.ref C) [cx, cy, cz] = some r)
    (hb : ∀ (W : WX) (pn : List (Addr × Obj)) (xe : Value → Shared → Prop), L2N.Takes (X.tr pn xe) W → PassesOwn (model X.prog X.w) X.A X.env xe → SB (X.tr pn xe) T W body b)
    (hsu : ∀ (a C dx : Addr) (oe : Obj) (pn : List (Addr × Obj)), L2N.Zn (.ref C) (some dx) oe → (∃ vs, oe.data = .fields vs) → SB (X.suite a ((a, oe) :: pn)) ⟨T.tabs, some (a, C, dx)⟩ (fun _ _ _ _ => False) (b₀ :: suite) s) :
    SS X T W (.Try body [.ExceptHandler (some (.Tuple [.Name x px, .Name y py, .Name z pz] kk tp)) (some n) (b₀ :: suite) pos'] [] [] pos) (sTry i b ex s) := fun w0 H0 =>
  ps_imp (L2N.ps_try_as3 (tb := fun W => tS (gx X T) w0 H0 W b) (ts := fun a cls d D σ H => ∃ C dx, cls = .ref C ∧ d = some dx ∧ tS (gx X ⟨T.tabs, some (a, C, dx)⟩) w0 H0 (fun _ _ _ _ => False) s D σ H) hs hf hN hi hln hx hy hz tk
    (fun W pn xe t1 t2 => hb W pn xe t1 t2 w0 H0)
    (fun a oe cls d pn hzn hfl => ⟨fun pins s σ H D I ⟨C, dx, e1, e2, q⟩ => by
      subst e1 e2
      exact (hsu a C dx oe pn hzn hfl w0 H0).run pins s σ H D I q⟩)) fun D σ H q => try_go hT hex q
end
end Pf
end
section
set_option maxRecDepth 100000
namespace Pf
open PySem PySem.Spec PyProof.Rows L2 LamX

/-- what the written part says of an exception class whose instances are read -/
structure ExcA (K : PySem.W.Frag) (C : Addr) : Prop where
  ga : PySem.W.findIn K (.ref C) "__getattribute__" = some (some (.builtin "BaseException.__getattribute__"))
  gg : PySem.W.findIn K (.ref C) "__getattr__" = some none
  ex : PySem.W.subIn K (.ref C) (.type "BaseException") = some true
  hd : PySem.W.hasDictIn K C = true
  ci : (PySem.W.clsIn K C).isSome = true
  ha : PySem.W.findIn K (.ref C) "__class__" = some (some (.builtin "object.__class__"))
  hn : PySem.W.specialIn K (.builtin "object.__class__") "__get__" = some (some (.builtin "getset_descriptor.__get__"))
  ht : PySem.W.takesIn K (.builtin "object.__class__") = some true
  hm : PySem.W.mroIn K C (.type "object") = some true
def dExF (cs : List Str) (i : Nat) (f : Str) : Den D := fun ρ h => match ρ[i]? with
  | some (.x c fs) => if c ∈ cs then optR (fs.lookup f) h else .bad
  | _ => .bad
def dExI (tab : Str → Str → Option Bool) (i : Nat) (c2 : Str) : Den D := fun ρ h => match ρ[i]? with
  | some (.x c fs) => optR ((tab c c2).map .bl) h
  | _ => .bad
section
variable {X : Cx} {T : Tb} {Z : Addr → Prop} {W : WX} {a C dx : Addr} {oe : Obj} {pn : List (Addr × Obj)} {n f c2 : Str} {i : Nat} {pos p p1 p2 : Pos} {cs : List Str} {tab : Str → Str → Option Bool}
/-- the pinned object is an instance of C with the dict dx -/
theorem suite_inst {pins : List (Addr × Obj)} {s : Shared} {σ : L2.St} {H : Hp} {vs : List (Str × V)} (hz : L2N.Zn (.ref C) (some dx) oe) (hf : ∃ vs, oe.data = .fields vs) (I : Inv (X.suite a ((a, oe) :: pn)) pins σ H s) (hx : H dx = some (.xd vs)) :
    ∃ od, PySem.W.InstAt s.heap a oe C (some od) ∧ ∀ f v, vs.lookup f = some v → ∃ u, PySem.W.lookIn f od = some (some u) ∧ RelV v u := by
  obtain ⟨ha, _⟩ := I.pin (a, oe) (List.mem_append_left _ List.mem_cons_self)
  obtain ⟨fv, hd⟩ := hf
  have hx' : ObjOk X.prog X.w H s.heap dx (.xd vs) := I.hok dx _ hx
  obtain ⟨mA, hns, hr⟩ := hx'
  obtain ⟨od, ho, hl⟩ := lookIn_ns hns
  refine ⟨od, ⟨ha, hz.1, by unfold PySem.W.notCls; rw [hd] <;> rfl, by rw [hz.2.1]; exact ho⟩, fun f v l => ?_⟩
  obtain ⟨u, hu, ru⟩ := RelO.some_of (v := v) (o := mA f) (by rw [← l]; exact hr f)
  exact ⟨u, by rw [hl, hu], ru⟩
theorem se_given (hz : L2N.Zn (.ref C) (some dx) oe) (hf : ∃ vs, oe.data = .fields vs) (A : ∀ c ∈ cs, X.mg c = some (.ref C) → ExcA X.K C ∧ PySem.W.findIn X.K (.ref C) f = some none) (hN : X.N[i]? = some n) (hv : Vis X.env.scope n)
    (hb : attributeBase (.Name n p) f X.env (eval (.Name n p) X.env) = eval (.Name n p) X.env := by rfl) (hd : (n == ("__debug__" : Str)) = false := by decide) (hcd : (n == ("__classdict__" : Str)) = false := by decide) :
    SE (X.suite a ((a, oe) :: pn)) ⟨T.tabs, some (a, C, dx)⟩ Z W (.Attribute (.Name n p) f pos) (dExF cs i f) := by
  refine ⟨fun pins s σ H Q I hq => ?_⟩
  obtain ⟨w, ρ, h, S, R, pp⟩ := hq
  unfold dExF at pp
  split at pp
  · rename_i c fs hi
    split at pp
    · rename_i hc
      obtain ⟨d, hd', p2⟩ := post_opt' pp
      obtain ⟨a', C', dx', vs, h1, h2, h3, h4, h5, h6⟩ := S.exn i c fs hi
      have h1' : some (a, C, dx) = some (a', C', dx') := h1
      cases h1'
      obtain ⟨A1, no⟩ := A c hc h5
      obtain ⟨v, hv1, rv⟩ := h6.look hd'
      refine attr_of hb ((pe_var (X := X.suite a ((a, oe) :: pn)) hN hv hd hcd).run pins s σ H (fun x H1 => ∃ y, x = .ref a ∧ H1 = H) I ⟨_, h2, a, rfl, rfl⟩ |> fun z => thn z fun u s1 ⟨x, H1, I1, rx, y, ex, eH⟩ => ?_)
      subst ex eH
      obtain rfl : u = Value.ref a := rx
      obtain ⟨od, J, lk⟩ := suite_inst hz hf I1 h4
      obtain ⟨u, hu, ru⟩ := lk f v hv1
      exact HandSPX.exc_get I1.kIn J A1.ga A1.gg A1.ex (PySem.W.findObj_own A1.hd no rfl hu) (handed_of ru) ⟨v, H1, I1.tok _, ru, p2.now R v rv⟩
    · exact pp.elim
  · exact pp.elim
/-- isinstance(e, c2) -/
theorem call_isX (hz : L2N.Zn (.ref C) (some dx) oe) (hf : ∃ vs, oe.data = .fields vs) : CallR (X.suite a ((a, oe) :: pn)) (.builtin "isinstance") (fun xs H Q => ∃ C2 vs b, xs = [.ref a, .ref C2] ∧ ExcA X.K C ∧ H dx = some (.xd vs) ∧ PySem.W.kitOne X.K (.ref C) (.ref C2) = some b ∧ Q (.bl b) H) := by
  intro pins s σ H xs us Q I r h
  obtain ⟨C2, vs, b, rfl, A, hx, e, q⟩ := h
  obtain ⟨u1, u2, rfl, r1, r2⟩ := vals2 r
  cases (show u1 = Value.ref a from r1)
  cases (show u2 = Value.ref C2 from r2)
  obtain ⟨od, J, _⟩ := suite_inst hz hf I hx
  exact PySem.W.kia_one (PySem.W.kitx_exc A.ci A.ga A.gg A.ex A.ha A.hn A.ht A.hm) I.kIn J e (fun z => nomatch z) fun tk => ⟨.bl b, H, I.tok tk, rfl, q⟩
theorem se_isX {x : Str} (hz : L2N.Zn (.ref C) (some dx) oe) (hf : ∃ vs, oe.data = .fields vs) (ht : ∀ c b C2, tab c c2 = some b → X.mg c = some (.ref C) → X.mg c2 = some (.ref C2) → ExcA X.K C ∧ PySem.W.kitOne X.K (.ref C) (.ref C2) = some b)
    (hi : Gl X "isinstance") (hm : X.mg "isinstance" = none) (hg : Gl X c2) (g2 : GloIs (gx X T) c2 (.cls c2)) (hN : X.N[i]? = some n) (hv : Vis X.env.scope n) (hd : (n == ("__debug__" : Str)) = false := by decide) (hcd : (n == ("__classdict__" : Str)) = false := by decide)
    (hd2 : (c2 == ("__debug__" : Str)) = false := by decide) (he : starEach [.Name n p1, .Name c2 p2] X.env = (false, eval (.Name n p1) X.env) :: starEach [.Name c2 p2] X.env := by rfl) (he2 : starEach [.Name c2 p2] X.env = (false, eval (.Name c2 p2) X.env) :: starEach [] X.env := by rfl)
    (hpl : (backTo pos (starEach [.Name c2 p2] X.env)).any (·.1) = false := by rfl) :
    SE (X.suite a ((a, oe) :: pn)) ⟨T.tabs, some (a, C, dx)⟩ Z W (.Call (.Name "isinstance" p) [.Name n p1, .Name c2 p2] [] pos) (dExI tab i c2) := by
  obtain ⟨u2, v2, hm2, rv2, hr2⟩ := g2.is
  refine pe_imp (pe_callB (X := X.suite a ((a, oe) :: pn)) (call_isX hz hf) hi hm rfl (pa_cons (X := X.suite a ((a, oe) :: pn)) (pe_var hN hv hd hcd) (pa_cons (X := X.suite a ((a, oe) :: pn)) (pe_glob hg hm2 rv2 hd2) pa_nil he2) he) (by decide) (by decide) he hpl) fun σ H Q ⟨w, ρ, h, S, R, pp⟩ => ?_
  unfold dExI at pp
  split at pp
  · rename_i c fs hi
    obtain ⟨d, hd', p3⟩ := post_opt' pp
    obtain ⟨b, hb, rfl⟩ := Option.map_eq_some_iff.mp hd'
    obtain ⟨a', C', dx', vs, h1, h2, h3, h4, h5, h6⟩ := S.exn i c fs hi
    have h1' : some (a, C, dx) = some (a', C', dx') := h1
    cases h1'
    have q2 := hr2 w H
    cases q2 with
    | @cls C2 _ hm2' =>
      obtain ⟨A, hk⟩ := ht c b C2 hb h5 hm2'
      exact ⟨_, h2, C2, vs, b, rfl, A, h4, hk, p3.now R _ (.bl b)⟩
  · exact pp.elim
end
end Pf
end
section
set_option maxRecDepth 100000
namespace Pf
open PySem PySem.Spec PyProof.Rows L2 LamX

mutual
def noRef : D → Bool
  | .ref _ => false
  | .tup ds => noRefs ds
  | .kup ds => noRefs ds
  | .lst ds => noRefs ds
  | .dct _ kvs => noRefK kvs
  | .ins _ fs => noRefF fs
  | .non => true | .bl _ => true | .int _ => true | .str _ => true | .cls _ => true | .ty _ => true | .scr _ => true
def noRefs : List D → Bool
  | [] => true
  | d :: ds => noRef d && noRefs ds
def noRefK : List (DK × D) → Bool
  | [] => true
  | (_, d) :: ds => noRef d && noRefK ds
def noRefF : List (Str × D) → Bool
  | [] => true
  | (_, d) :: ds => noRef d && noRefF ds
end
def noRefO : O → Bool
  | .lst ds => noRefs ds
  | .ins _ fs => noRefF fs
/-- the world without r, what stood there stands as it is -/
def Wd.drop (w : Wd) (r : Nat) (y : Addr) : Wd := { w with m := fun q => if q = r then none else w.m q, F := fun a => w.F a ∨ a = y }
section
variable {G : Gx} {w : Wd} {H : Hp} {r : Nat} {y : Addr}
mutual
theorem Rep.dropM : ∀ {v : V} {d : D}, Rep G w H v d → noRef d = true → Rep G (w.drop r y) H v d
  | _, _, .non, _ => .non
  | _, _, .bl b, _ => .bl b
  | _, _, .int i, _ => .int i
  | _, _, .str x, _ => .str x
  | _, _, .tup h rr, n => .tup h (Reps.dropM rr (by simpa only [noRef] using n))
  | _, _, .kup h rr, n => .kup h (Reps.dropM rr (by simpa only [noRef] using n))
  | _, _, .lst f h rr, n => .lst (.inl f) h (Reps.dropM rr (by simpa only [noRef] using n))
  | _, _, .dK f h rr, n => .dK (.inl f) h (RepK.dropM rr (by simpa only [noRef] using n))
  | _, _, .dT f h rr, n => .dT (.inl f) h (RepT.dropM rr (by simpa only [noRef] using n))
  | _, _, .ins f g h rr, n => .ins (.inl f) g h (RepF.dropM rr (by simpa only [noRef] using n))
  | _, _, .ref h, n => by simp only [noRef, Bool.false_eq_true] at n
  | _, _, .cls h, _ => .cls h
  | _, _, .ty m, _ => .ty m
  | _, _, .scr f h, _ => .scr (.inl f) h
theorem Reps.dropM : ∀ {v : List V} {d : List D}, Reps G w H v d → noRefs d = true → Reps G (w.drop r y) H v d
  | _, _, .nil, _ => .nil
  | _, _, .cons a b, n => by
    simp only [noRefs, Bool.and_eq_true] at n
    exact .cons (Rep.dropM a n.1) (Reps.dropM b n.2)
theorem RepK.dropM : ∀ {v : List (Key × V)} {d : List (DK × D)}, RepK G w H v d → noRefK d = true → RepK G (w.drop r y) H v d
  | _, _, .nil, _ => .nil
  | _, _, .cons a b, n => by
    simp only [noRefK, Bool.and_eq_true] at n
    exact .cons (Rep.dropM a n.1) (RepK.dropM b n.2)
theorem RepT.dropM : ∀ {v : List (List Key × V)} {d : List (DK × D)}, RepT G w H v d → noRefK d = true → RepT G (w.drop r y) H v d
  | _, _, .nil, _ => .nil
  | _, _, .cons a b, n => by
    simp only [noRefK, Bool.and_eq_true] at n
    exact .cons (Rep.dropM a n.1) (RepT.dropM b n.2)
theorem RepF.dropM : ∀ {v : List (Str × V)} {d : List (Str × D)}, RepF G w H v d → noRefF d = true → RepF G (w.drop r y) H v d
  | _, _, .nil, _ => .nil
  | _, _, .cons a b, n => by
    simp only [noRefF, Bool.and_eq_true] at n
    exact .cons (Rep.dropM a n.1) (RepF.dropM b n.2)
end
theorem ORep.dropM {a : Addr} {o : O} (x : ORep G w H a o) (n : noRefO o = true) : ORep G (w.drop r y) H a o := by
  cases o with
  | lst ds => obtain ⟨xs, h1, h2⟩ := x; exact ⟨xs, h1, h2.dropM n⟩
  | ins c fs => obtain ⟨C, dx, vs, h0, h1, h2⟩ := x; exact ⟨C, dx, vs, h0, h1, h2.dropM n⟩
theorem HRel.dropM {h : Hl} (R : HRel G w H h) (hm : w.m r = some y) (hl : h.length = r + 1) (hn : (h.take r).all noRefO = true) : HRel G (w.drop r y) H (h.take r) where
  live := fun q a e => by
    by_cases hq : q = r
    · simp only [Wd.drop, hq, if_pos] at e; cases e
    · have e' : w.m q = some a := by simpa only [Wd.drop, if_neg hq] using e
      obtain ⟨o, h1, h2⟩ := R.live q a e'
      have hlt : q < h.length := (List.getElem?_eq_some_iff.mp h1).1
      have h1' : (h.take r)[q]? = some o := by rw [List.getElem?_take_of_lt (by omega)]; exact h1
      exact ⟨o, h1', h2.dropM (List.all_eq_true.mp hn o (List.mem_of_getElem? h1'))⟩
  all := fun q hq => by
    rw [List.length_take] at hq
    obtain ⟨a, e⟩ := R.all q (by omega)
    exact ⟨a, by simp only [Wd.drop]; rw [if_neg (by omega)]; exact e⟩
  inj := fun q q' a h1 h2 => by
    simp only [Wd.drop] at h1 h2
    split at h1
    · cases h1
    · split at h2
      · cases h2
      · exact R.inj q q' a h1 h2
  mF := fun q a e => by
    simp only [Wd.drop] at e
    split at e
    · cases e
    · rename_i hq
      exact ⟨fun z => z.elim (R.mF q a e).1 fun z => hq (R.inj q r a e (z ▸ hm)), (R.mF q a e).2⟩
  FL := fun a z => z.elim (R.FL a) fun z => by rw [z]; exact (R.mF r y hm).2
  there := fun a z => by
    rcases z with (z | z) | z
    · exact R.there a (.inl z)
    · rw [z]
      obtain ⟨o, _, h2⟩ := R.live r y hm
      obtain ⟨u, e⟩ := h2.some
      rw [e]; exact fun z => by cases z
    · exact R.there a (.inr z)
  ntb := fun a ps e => by
    refine ⟨fun z => z.elim (R.ntb a ps e).1 fun z => ?_, (R.ntb a ps e).2⟩
    subst z
    obtain ⟨o, _, h2⟩ := R.live r a hm
    cases o with
    | lst ds => obtain ⟨xs, h3, _⟩ := h2; rw [e] at h3; cases h3
    | ins c fs => obtain ⟨_, _, _, _, h3, _⟩ := h2; rw [e] at h3; cases h3
  tabs := R.tabs
theorem Le.dropM {w0 : Wd} {H0 : Hp} (e : Le w0 H0 w H) (n : ∀ a, w0.m r ≠ some a) : Le w0 H0 (w.drop r y) H :=
  ⟨fun a z => .inl (e.F a z), e.L, fun q a z => by
    have hq : q ≠ r := fun z' => n a (z' ▸ z)
    simp only [Wd.drop]
    rw [if_neg hq]; exact e.m q a z, e.hF, e.hL, e.tup, e.frz⟩
/-- a new instance, referenced as r -/
theorem made {h : Hl} {C dx : Addr} {c : Str} (R : HRel G w H h) (hy : H y = none) (hd : H dx = none) (hne : dx ≠ y) (hc : G.mg c = some (.ref C)) :
    Le w H (w.addM h.length y) (upd (upd H dx (.own y)) y (.ins C dx [])) ∧ HRel G (w.addM h.length y) (upd (upd H dx (.own y)) y (.ins C dx [])) (h ++ [.ins c []]) := by
  have nm : ∀ a, w.m h.length ≠ some a := fun a e => by
    obtain ⟨o, h1, _⟩ := R.live _ a e
    rw [List.getElem?_eq_none (Nat.le_refl _)] at h1; cases h1
  have kp : ∀ b u, H b = some u → upd (upd H dx (.own y)) y (.ins C dx []) b = some u := fun b u e => by
    rw [upd_ne (ne_of_none e hy), upd_ne (ne_of_none e hd)]; exact e
  have le : Le w H (w.addM h.length y) (upd (upd H dx (.own y)) y (.ins C dx [])) := ⟨fun _ z => z, fun _ z => z, fun q a z => by
    have hq : q ≠ h.length := fun e => nm a (e ▸ z)
    simp only [Wd.addM]; rw [if_neg hq]; exact z, fun a o _ z => kp a o z, fun a o _ z => kp a o z, fun a o z => kp a _ z, fun a o u z => kp a _ z⟩
  refine ⟨le, ?_⟩
  exact {
    live := fun q a e => by
      simp only [Wd.addM] at e
      split at e
      · rename_i hq
        cases e
        subst hq
        exact ⟨.ins c [], by simp, C, dx, [], hc, upd_same, .nil⟩
      · obtain ⟨o, h1, h2⟩ := R.live q a e
        have hlt : q < h.length := (List.getElem?_eq_some_iff.mp h1).1
        exact ⟨o, by rw [List.getElem?_append_left hlt]; exact h1, h2.le le fun u => kp a u⟩
    all := fun q hq => by
      rw [List.length_append, List.length_singleton] at hq
      by_cases hq' : q = h.length
      · exact ⟨y, by simp only [Wd.addM]; rw [if_pos hq']⟩
      · obtain ⟨a, e⟩ := R.all q (by omega)
        exact ⟨a, by simp only [Wd.addM]; rw [if_neg hq']; exact e⟩
    inj := fun q q' a h1 h2 => by
      have na : ∀ {s}, w.m s = some y → False := fun {s} e => (R.fresh hy).2.2 s e
      simp only [Wd.addM] at h1 h2
      split at h1
      · rename_i e1
        split at h2
        · rename_i e2; rw [e1, e2]
        · cases h1; exact (na h2).elim
      · split at h2
        · cases h2; exact (na h1).elim
        · exact R.inj q q' a h1 h2
    mF := fun q a e => by
      simp only [Wd.addM] at e
      split at e
      · cases e; exact ⟨(R.fresh hy).1, (R.fresh hy).2.1⟩
      · exact R.mF q a e
    FL := R.FL
    there := fun a z => by
      obtain ⟨u, e⟩ := Option.ne_none_iff_exists'.mp (R.there a z)
      rw [kp a u e]; exact fun z => by cases z
    ntb := fun a ps e => by
      by_cases h1 : a = y
      · subst h1; exact ⟨(R.fresh hy).1, (R.fresh hy).2.1⟩
      · rw [upd_ne h1] at e
        by_cases h2 : a = dx
        · subst h2; exact ⟨(R.fresh hd).1, (R.fresh hd).2.1⟩
        · rw [upd_ne h2] at e; exact R.ntb a ps e
    tabs := R.tabs.ext fun b u e => kp b u e }
end
end Pf
end
section
set_option maxRecDepth 100000
namespace Pf
open PySem PySem.Spec PyProof.Rows L2 LamX

theorem run_makeAt {X : Cx} {CX : CXT} {k : Nat} {C f : Addr} {fd : FuncData} {ps : List Str} {sp : Sp} {E : XK} {pins : List (Addr × Obj)} {σ : L2.St} {H : Hp} {s : Shared} {Q : VK} {us : List Value} {vs : List V} (M : Mk X.K C f) (F : FnOk X.prog X.w X.K X.mg X.base CX k f fd ps sp) (hr : Room (k + 1) X.A)
    (hb : Binds X.K fd ps []) (hx : PassesAt CX X σ E) (I : Inv X pins σ H s) (r : Vals vs us)
    (h : ∀ x dx, H x = none → H dx = none → dx ≠ x → sp (.ref x :: vs) (upd (upd H dx (.own x)) x (.ins C dx [])) (fun v H2 => v = .non ∧ Q (.ref x) H2) E) : wpAny (model X.prog X.w) X.A (call (.ref C) us) (EP X pins σ Q) X.xe s := by
  have hq := h (s.heap.objs.size + 1) s.heap.objs.size (I.hok.fresh (Nat.le_succ _)) (I.hok.fresh (Nat.le_refl _)) (Nat.ne_of_lt (Nat.lt_succ_self _))
  have I2 := Inv.made (C := C) I
  have r2 : Vals (V.ref (s.heap.objs.size + 1) :: vs) (Value.ref (s.heap.objs.size + 1) :: us) := .cons rfl r
  have hl : (Value.ref (s.heap.objs.size + 1) :: us).length = ps.length := by
    have e := r2.length
    rw [F.len _ _ _ _ hq] at e
    exact e.symm
  have b := hb _ (Value.ref (s.heap.objs.size + 1) :: us) I2.kIn (by rw [List.append_nil]; exact hl)
  rw [List.append_nil] at b
  refine wpAny_call (make_map (f := f) I.kIn M.makes M.init (beq_iff_eq.mp M.fn) (codeAny_mono (F.run _ X.stack _ _ ⟨Value.ref (s.heap.objs.size + 1) :: us, []⟩ (Value.ref (s.heap.objs.size + 1) :: us) _ _ E (hr.make C us []) (I2.env0.make C us []) b r2 hq) fun r s' hq' => ?_))
  cases r with
  | error e => exact hx pins _ _ e s' I2 hq'
  | ok fl =>
    cases fl with
    | ret u =>
      obtain ⟨v, H', I3, rv, ev, q3⟩ := I2.after hq'
      subst ev
      exact ⟨rv, ⟨V.ref (s.heap.objs.size + 1), H', I3, rfl, q3⟩⟩
    | next => exact False.elim hq'
    | brk => exact False.elim hq'
    | cont => exact False.elim hq'

/-- a class of the module whose __init__ is told by a plain function of a reference and the arguments -/
structure MkU (P : Program) (w : World) (base : Heap) (G : Gx) (k : Nat) (c : Str) (n : Nat) (g : List D → Hl → Res D) : Prop where
  is : ∃ C f fd ps, G.mg c = some (.ref C) ∧ Mk G.K C f ∧ FnOk P w G.K G.mg base (L2N.CX P w) k f fd ps (spF G (n + 1) g) ∧ Binds G.K fd ps []
/-- the made instance, as a value -/
def mkFin (c : Str) (r : Nat) (x : Res D) : Res D := match x with
  | .ok .non h2 => match h2[r]? with
    | some (.ins c' fs) => if c' = c ∧ h2.length = r + 1 ∧ noRefF fs = true ∧ (h2.take r).all noRefO = true then .ok (.ins c fs) (h2.take r) else .bad
    | _ => .bad
  | .ok _ _ => .bad
  | .exc e fs h2 => if h2.length = r + 1 ∧ noRefF fs = true ∧ (h2.take r).all noRefO = true then .exc e fs (h2.take r) else .bad
  | .bad => .bad
def mkV (c : Str) (g : List D → Hl → Res D) (ds : List D) (h : Hl) : Res D := mkFin c h.length (g (.ref h.length :: ds) (h ++ [.ins c []]))
def dMake (c : Str) (g : List D → Hl → Res D) (t : Den (List D)) : Den D := fun ρ h => (t ρ h).bind (mkV c g)
def dMakeV (i : Nat) (c : Str) (g : List D → Hl → Res D) (t : Den (List D)) : Den D := fun ρ h => match ρ[i]? with
  | some (.v (.cls c')) => if c' = c then dMake c g t ρ h else .bad
  | _ => .bad
theorem make_go {G : Gx} {w : Wd} {H : Hp} {h : Hl} {ds : List D} {vs : List V} {n : Nat} {c : Str} {g : List D → Hl → Res D} {C : Addr} {Q : VK} {E : XK} (hm : G.mg c = some (.ref C)) (hl : ds.length = n) (R : HRel G w H h) (r : Reps G w H vs ds)
    (p : Post G w H (mkV c g ds h) (QD G Q) E) : ∀ x dx, H x = none → H dx = none → dx ≠ x → spF G (n + 1) g (.ref x :: vs) (upd (upd H dx (.own x)) x (.ins C dx [])) (fun v H2 => v = .non ∧ Q (.ref x) H2) E := fun x dx hx hd hne => by
  obtain ⟨l1, R1⟩ := made R hx hd hne hm
  have mr : (w.addM h.length x).m h.length = some x := by simp [Wd.addM]
  have nm : ∀ a, w.m h.length ≠ some a := fun a e => by
    obtain ⟨o, h1, _⟩ := R.live _ a e
    rw [List.getElem?_eq_none (Nat.le_refl _)] at h1; cases h1
  refine ⟨by rw [List.length_cons, r.length, hl], w.addM h.length x, _, .ref h.length :: ds, R1, .cons (.ref mr) (r.le l1), ?_⟩
  unfold mkV at p
  revert p
  cases g (.ref h.length :: ds) (h ++ [.ins c []]) with
  | bad => exact fun p => p
  | exc e fs h2 =>
    intro p
    simp only [mkFin] at p
    split at p
    · rename_i hc
      intro w' H' C' dx' vs' e' R' hmc hxd rf hF
      have l2 : Le w H w' H' := l1.trans e'
      have mr' := e'.m _ _ mr
      exact p (w'.drop h.length x) H' C' dx' vs' (l2.dropM nm) (R'.dropM mr' hc.1 hc.2.2) hmc hxd (rf.dropM hc.2.1) (.inl hF)
    · exact p.elim
  | ok d h2 =>
    cases d with
    | non =>
      intro p
      simp only [mkFin] at p
      split at p
      · rename_i c' fs hr
        split at p
        · rename_i hc
          obtain ⟨rfl, hlen, hn1, hn2⟩ := hc
          intro w' H' e' R' v rv
          cases rv
          refine ⟨rfl, ?_⟩
          have l2 : Le w H w' H' := l1.trans e'
          have mr' := e'.m _ _ mr
          obtain ⟨o, h3, h4⟩ := R'.live _ _ mr'
          rw [hr] at h3
          cases h3
          obtain ⟨C2, dx2, vs2, h5, h6, h7⟩ := h4
          exact p (w'.drop h.length x) H' (l2.dropM nm) (R'.dropM mr' hlen hn2) _ (.ins (.inr rfl) h5 h6 (h7.dropM hn1))
        · exact p.elim
      · exact p.elim
    | _ => exact fun p => p.elim
section
variable {X : Cx} {T : Tb} {Z : Addr → Prop} {W : WX} {e : Expr} {es : List Expr} {t : Den (List D)} {pos p : Pos} {c : Str} {k n : Nat} {g : List D → Hl → Res D}
theorem mk_args {G : Gx} {σ : L2.St} {H : Hp} {Q : VK} (hl : ∀ ρ h ds h', t ρ h = .ok ds h' → ds.length = n) (q : tE G Z W (dMake c g t) σ H Q) :
    tAr G Z W t σ H fun vs H1 => ∃ w h ds, ds.length = n ∧ HRel G w H1 h ∧ Reps G w H1 vs ds ∧ Post G w H1 (mkV c g ds h) (QD G Q) (fun c d H' => W c d σ H') := by
  obtain ⟨w, ρ, h, S, R, p⟩ := q
  have hl' := hl ρ h
  revert p
  unfold dMake
  cases e : t ρ h with
  | ok ds h1 =>
    intro p
    refine ⟨w, ρ, h, S, R, ?_⟩
    rw [e]
    exact fun w1 H1 e1 R1 vs r => ⟨w1, h1, ds, hl' ds h1 e, R1, r, Post.le p e1⟩
  | exc c fs h1 => intro p; refine ⟨w, ρ, h, S, R, ?_⟩; rw [e]; exact p
  | bad => intro p; exact p.elim
theorem se_make (U : MkU X.prog X.w X.base (gx X T) k c n g) (hr : Room (k + 1) X.A) (hg : Gl X c) (tk : L2N.Takes X W) (ha : SA X T Z W (e :: es) t) (hl : ∀ ρ h ds h', t ρ h = .ok ds h' → ds.length = n)
    (hdb : (c == ("__debug__" : Str)) = false := by decide) (he : starEach (e :: es) X.env = (false, eval e X.env) :: starEach es X.env := by rfl) (hpl : (backTo pos (starEach es X.env)).any (·.1) = false := by rfl) :
    SE X T Z W (.Call (.Name c p) (e :: es) [] pos) (dMake c g t) := by
  obtain ⟨C, f, fd, ps, hm, M, F, hb⟩ := U.is
  refine ⟨fun pins s σ H Q I hq => ?_⟩
  refine wpAny_Call_Name_kw (ld_glob I hg hm ?_ hdb)
  refine PySem.W.callWith_K (h₀ := X.base) I.ok.mod.kin M.kp (thn (ha.run pos pins s σ H _ I (mk_args hl hq)) fun us s1 ⟨vs, H1, I1, r, w, h, ds, hn, R, rr, p⟩ => ⟨I1.kIn, ?_⟩) he hpl
  exact run_makeAt M F hr hb (L2N.passAt tk σ) I1 r (make_go hm hn R rr p)
/-- cls(..), cls a name that holds the class -/
theorem se_makeV {i : Nat} {x : Str} (U : MkU X.prog X.w X.base (gx X T) k c n g) (hr : Room (k + 1) X.A) (hN : X.N[i]? = some x) (hv : Vis X.env.scope x) (tk : L2N.Takes X W) (ha : SA X T Z W (e :: es) t) (hl : ∀ ρ h ds h', t ρ h = .ok ds h' → ds.length = n)
    (hd : (x == ("__debug__" : Str)) = false := by decide) (hcd : (x == ("__classdict__" : Str)) = false := by decide) (he : starEach (e :: es) X.env = (false, eval e X.env) :: starEach es X.env := by rfl) (hpl : (backTo pos (starEach es X.env)).any (·.1) = false := by rfl) :
    SE X T Z W (.Call (.Name x p) (e :: es) [] pos) (dMakeV i c g t) := by
  obtain ⟨C, f, fd, ps, hm, M, F, hb⟩ := U.is
  refine ⟨fun pins s σ H Q I hq => ?_⟩
  obtain ⟨w, ρ, h, S, R, pp⟩ := hq
  unfold dMakeV at pp
  split at pp
  · rename_i c' hi
    split at pp
    · rename_i hc
      subst hc
      obtain ⟨x', h1, h2⟩ := S.val i _ hi
      cases h2 with
      | @cls C' _ hm' =>
        rw [hm] at hm'
        cases hm'
        refine wpAny_Call_Name_kw (thn ((pe_var hN hv hd hcd).run pins s σ H (fun y H1 => y = .ref C ∧ H1 = H) I ⟨_, h1, rfl, rfl⟩) fun u s0 ⟨y, H0, I0, ry, ey, eH⟩ => ?_)
        subst ey eH
        obtain rfl : u = Value.ref C := ry
        refine PySem.W.callWith_K (h₀ := X.base) I0.ok.mod.kin M.kp (thn (ha.run pos pins s0 σ H0 _ I0 (mk_args hl ⟨w, ρ, h, S, R, pp⟩)) fun us s1 ⟨vs, H1, I1, r, w, h, ds, hn, R, rr, p⟩ => ⟨I1.kIn, ?_⟩) he hpl
        exact run_makeAt M F hr hb (L2N.passAt tk σ) I1 r (make_go hm hn R rr p)
    · exact pp.elim
  · exact pp.elim
end
end Pf
end
section
set_option maxRecDepth 100000
namespace Pf
open PySem PySem.Spec PyProof.Rows L2 LamX ClX

def putFD (f : Str) (v : D) : List (Str × D) → List (Str × D)
  | [] => [(f, v)]
  | (g, x) :: r => if g = f then (g, v) :: r else (g, x) :: putFD f v r
theorem RepF.putF {G : Gx} {w : Wd} {H : Hp} {f : Str} {x : V} {d : D} (r : Rep G w H x d) : ∀ {vs : List (Str × V)} {ds : List (Str × D)}, RepF G w H vs ds → RepF G w H (L2.putF f x vs) (putFD f d ds)
  | _, _, .nil => .cons r .nil
  | _, _, .cons (k := k) a b => by
    unfold L2.putF putFD
    by_cases hk : k = f
    · rw [if_pos hk, if_pos hk]; exact .cons r b
    · rw [if_neg hk, if_neg hk]; exact .cons a (RepF.putF r b)
theorem RepF.length {G : Gx} {w : Wd} {H : Hp} : ∀ {v : List (Str × V)} {d : List (Str × D)}, RepF G w H v d → v.length = d.length
  | _, _, .nil => rfl
  | _, _, .cons _ b => by simp [RepF.length b]
theorem RepF.lookN {G : Gx} {w : Wd} {H : Hp} {f : Str} : ∀ {v : List (Str × V)} {d : List (Str × D)}, RepF G w H v d → d.lookup f = none → v.lookup f = none
  | _, _, .nil, _ => rfl
  | _, _, .cons (k := k) a b, e => by
    simp only [List.lookup] at e ⊢
    split at e
    · cases e
    · exact RepF.lookN b e
def putO (cs : List Str) (f : Str) : D → D → Option D
  | .ins c fs, d => if cs.contains c ∧ fs.length < 1000 then some (.ins c (putFD f d fs)) else none
  | _, _ => none
/-- x.f = e, x a name -/
def sFput (cs : List Str) (i : Nat) (f : Str) (e : Den D) : SDen := fun ρ h => sBind (e ρ h) ρ fun d h1 => match chg i (fun o => putO cs f o d) ρ h1 with
  | some (ρ', h') => .ok .next ρ' h'
  | none => .bad
section
variable {X : Cx} {T : Tb} {W : WX} {e : Expr} {f : Str} {g : Den D} {pos pos' p : Pos} {cs : List Str}
theorem chg_slot {G : Gx} {Z : Addr → Prop} {w : Wd} {H : Hp} {h h' : Hl} {ρ ρ' : Rho} {σ : L2.St} {i : Nat} {m : D → Option D} (S : SRel G Z w H ρ σ) (hc : chg i m ρ h = some (ρ', h')) : ∃ x, σ[i]? = some (some x) := by
  unfold chg at hc
  cases e : ρ[i]? with
  | none => rw [e] at hc; cases hc
  | some s =>
    cases s with
    | no => rw [e] at hc; cases hc
    | x c fs => rw [e] at hc; cases hc
    | own d0 => obtain ⟨a, h1, _⟩ := S.own i d0 e; exact ⟨_, h1⟩
    | v d0 => obtain ⟨a, h1, _⟩ := S.val i d0 e; exact ⟨_, h1⟩
theorem ss_fput {i : Nat} {x : Str} (fo : FldOk X.K X.mg cs f) (hN : X.N[i]? = some x) (hv : Vis X.env.scope x) (he : ∀ Z, SE X T Z W e g) (hs : swapsWith e (some (.Attribute (.Name x p) f pos')) pos.line X.env = pure false := by rfl)
    (hd : (x == ("__debug__" : Str)) = false := by decide) (hcd : (x == ("__classdict__" : Str)) = false := by decide) : SS X T W (.Assign [.Attribute (.Name x p) f pos'] e pos) (sFput cs i f g) := fun w0 H0 =>
  ps_imp (ps_fld (pe_var hN hv hd hcd) (he w0.L) hs) fun D σ H ⟨w, ρ, h, S, R, L, p⟩ => sstep_E S R L p fun w1 H1 h1 d v e1 S1 R1 L1 r1 p1 => by
    cases hc : chg i (fun o => putO cs f o d) ρ h1 with
    | none => rw [hc] at p1; exact p1.elim
    | some q =>
      obtain ⟨ρ', h'⟩ := q
      rw [hc] at p1
      obtain ⟨x', hx⟩ := chg_slot S1 hc
      obtain ⟨a, d0, d1, o, rfl, hf, ho, hao, mu, fin⟩ := chg_go S1 R1 hx hc
      cases d0 with
      | ins c fs =>
        obtain ⟨C, dx, vs, h0, h5, h6⟩ := ho
        simp only [putO] at hf
        split at hf
        · rename_i hl
          cases hf
          obtain ⟨c1, c2⟩ := fo c (by simpa using hl.1) C h0
          obtain ⟨f1, f2, f3, f4⟩ := fin (.ins C dx (L2.putF f v vs)) (fun _ z => by cases z) fun sf => ⟨C, dx, _, h0, upd_same, (h6.soft sf).putF (r1.soft sf)⟩
          exact ⟨_, hx, a, C, dx, vs, rfl, h5, c1, c2, by rw [h6.length]; exact hl.2, p1.now f2 f1 (f3 L1 (by
            by_cases hL : w1.L a
            · exact .inl fun z => f4 ⟨hL, z⟩
            · exact .inr hL))⟩
        · cases hf
      | _ => simp only [putO, reduceCtorEq] at hf
end
/-- o.f, o a view -/
def dFld (cs : List Str) (f : Str) (g : Den D) : Den D := fun ρ h => (g ρ h).bind fun d h1 => optR (fldD cs f (atR d h1)) h1
section
variable {X : Cx} {T : Tb} {Z : Addr → Prop} {W : WX} {o e : Expr} {es : List Expr} {f m : Str} {g : Den D} {t : Den (List D)} {pos apos : Pos} {cs : List Str} {k n : Nat} {c : Str} {ps : List Str} {q : List D → Hl → Res D}
theorem Look.ins {G : Gx} {w : Wd} {H : Hp} {v : V} {c : Str} {fs : List (Str × D)} (x : Look G w H v (.ins c fs)) : ∃ a C dx vs, v = .ref a ∧ G.mg c = some (.ref C) ∧ H a = some (.ins C dx vs) ∧ RepF G w H vs fs := by
  rcases x with x | ⟨a, rfl, C, dx, vs, h0, h1, h2⟩
  · cases x with
    | @ins a C dx vs _ _ f h0 h1 r => exact ⟨a, C, dx, vs, rfl, h0, h1, r⟩
  · exact ⟨a, C, dx, vs, rfl, h0, h1, h2⟩
theorem se_fldV (fo : FldOk X.K X.mg cs f) (he : SV X T Z W e g) (hb : attributeBase e f X.env (eval e X.env) = eval e X.env := by rfl) : SE X T Z W (.Attribute e f pos) (dFld cs f g) :=
  pe_imp (pe_fld he hb) fun σ H Q ⟨w, ρ, h, S, R, p⟩ => step_V S R p fun w1 H1 h1 d x e1 S1 R1 r1 p1 => by
    obtain ⟨z, hz, p2⟩ := post_opt' p1
    have lk := r1.look R1
    revert hz lk
    generalize atR d h1 = d'
    intro hz lk
    cases d' with
    | ins c fs =>
      simp only [fldD] at hz
      split at hz
      · rename_i hc
        obtain ⟨a, C, dx, vs, rfl, h0, h2, h3⟩ := lk.ins
        obtain ⟨c1, c2⟩ := fo c (by simpa using hc) C h0
        obtain ⟨u, l, r⟩ := h3.look hz
        exact ⟨a, C, dx, vs, u, rfl, h2, c1, c2, l, p2.now R1 _ r⟩
      · cases hz
    | _ => simp only [fldD, reduceCtorEq] at hz

structure MethU (P : Program) (w : World) (base : Heap) (G : Gx) (k : Nat) (c m : Str) (n : Nat) (g : List D → Hl → Res D) : Prop where
  is : ∃ C f fd ps, G.mg c = some (.ref C) ∧ Cls G.K C ∧ Meth G.K C m f ∧ FnOk P w G.K G.mg base (L2N.CX P w) k f fd ps (spF G (n + 1) g) ∧ Binds G.K fd ps []
/-- it is an instance of c without an attribute of that name -/
def insOf (c m : Str) : D → Bool
  | .ins c' fs => decide (c' = c) && (fs.lookup m).isNone
  | _ => false
def dMeth (c m : Str) (q : List D → Hl → Res D) (g : Den D) (t : Den (List D)) : Den D := fun ρ h => (g ρ h).bind fun d h1 => if insOf c m (atR d h1) then (t ρ h1).bind fun ds h2 => q (d :: ds) h2 else .bad
theorem se_meth {pl : Sem Bool} (U : MethU X.prog X.w X.base (gx X T) k c m n q) (hr : Room k X.A) (tk : L2N.Takes X W) (ho : SE X T Z W o g) (ha : SA X T Z W (e :: es) t) (hl : ∀ ρ h ds h', t ρ h = .ok ds h' → ds.length = n)
    (hst : starEach (e :: es) X.env = (false, eval e X.env) :: starEach es X.env := by rfl) (hpl : (backTo pos (starEach es X.env)).any (·.1) = false := by rfl)
    (ht : eval (.Call (.Attribute o m apos) (e :: es) [] pos) X.env = (do
      let ov ← eval o X.env
      standAt apos.atName
      let (f, first) ← holding [ov] (getMethod ov m pl)
      callWith pos f first (backTo pos (starEach (e :: es) X.env)) (backToKw pos (keywordEach [] X.env))) := by rfl) :
    SE X T Z W (.Call (.Attribute o m apos) (e :: es) [] pos) (dMeth c m q g t) := by
  obtain ⟨C, fm, fd, ps, hm, hc, hM, F, hb⟩ := U.is
  refine ⟨fun pins s σ H Q I ⟨w, ρ, h, S, R, p⟩ => ?_⟩
  refine PySem.W.methodCall_KW (pl := pl) (thn (ho.run pins s σ H (fun x H1 => ∃ (a dx : Addr) (vs : List (Str × V)), x = .ref a ∧ H1 a = some (.ins C dx vs) ∧ vs.lookup m = none ∧
    tAr (gx X T) Z W t σ H1 fun us H2 => spF (gx X T) (n + 1) q (.ref a :: us) H2 Q (fun c d H' => W c d σ H')) I ?_) fun u s1 ⟨x, H1, I1, rx, a, dx, vs, ex, ea, l, qq⟩ => ?_) ht
  · refine step_E S R p fun w1 H1 h1 d x e1 S1 R1 r1 p1 => ?_
    by_cases hi : insOf c m (atR d h1) = true
    · rw [if_pos hi] at p1
      have lk := (View.look R1 (.inl r1) : Look (gx X T) w1 H1 x (atR d h1))
      revert hi lk
      generalize atR d h1 = d'
      intro hi lk
      cases d' with
      | ins c' fs =>
        simp only [insOf, Bool.and_eq_true, decide_eq_true_eq, Option.isNone_iff_eq_none] at hi
        obtain ⟨rfl, hl0⟩ := hi
        obtain ⟨a, C', dx, vs, rfl, h0, h2, h3⟩ := lk.ins
        rw [hm] at h0
        cases h0
        refine ⟨a, dx, vs, rfl, h2, h3.lookN hl0, ?_⟩
        have hl' := hl ρ h1
        revert p1
        cases e : t ρ h1 with
        | ok ds h4 =>
          intro p1
          refine ⟨w1, ρ, h1, S1, R1, ?_⟩
          rw [e]
          exact fun w2 H2 e2 R2 us r => ⟨by rw [List.length_cons, r.length, hl' ds h4 e], w2, h4, d :: ds, R2, .cons (r1.le e2) r, Post.le p1 e2⟩
        | exc c fs h4 => intro p1; refine ⟨w1, ρ, h1, S1, R1, ?_⟩; rw [e]; exact p1
        | bad => intro p1; exact p1.elim
      | _ => cases hi
    · rw [if_neg hi] at p1; exact p1.elim
  · subst ex
    obtain rfl : u = Value.ref a := rx
    refine getmeth_ok I1 ea hc hM l ?_
    refine PySem.W.callWith_K (first := [.ref a]) (h₀ := X.base) I1.ok.mod.kin hM.kp (thn (ha.run pos pins s1 σ H1 _ I1 qq) fun us s2 ⟨zs, H2, I2, r, q2⟩ => ⟨I2.kIn, ?_⟩) hst hpl
    exact run_fnSD (us := .ref a :: us) (vs := .ref a :: zs) (dvs := []) (E := fun σ c d H' => W c d σ H') F hr hb .nil (L2N.passAt tk σ) I2 (.cons rfl r) (by rw [List.append_nil]; exact q2)

structure PropU (P : Program) (w : World) (base : Heap) (G : Gx) (k : Nat) (c m : Str) (g : List D → Hl → Res D) : Prop where
  is : ∃ C p f fd ps, G.mg c = some (.ref C) ∧ Cls G.K C ∧ PropOf G.K C m p f ∧ FnOk P w G.K G.mg base (L2N.CX P w) k f fd ps (spF G 1 g) ∧ Binds G.K fd ps []
def dProp (c : Str) (q : List D → Hl → Res D) (g : Den D) : Den D := fun ρ h => (g ρ h).bind fun d h1 => if insOf c "" (atR d h1) then (match q [d] h1 with
  | .ok z h2 => .ok z h2
  | _ => .bad) else .bad
theorem takes0N {X : Cx} : L2N.Takes X (fun _ _ _ _ => False) := fun _ _ x => by
  obtain ⟨_, _, _, _, _, _, _, _, _, _, _, _, _, _, _, _, z⟩ := x
  exact z.elim
theorem se_prop (U : PropU X.prog X.w X.base (gx X T) k c m q) (hr : Room (k + 1) X.A) (ho : SE X T Z W o g) (hb : attributeBase o m X.env (eval o X.env) = eval o X.env := by rfl) : SE X T Z W (.Attribute o m pos) (dProp c q g) := by
  obtain ⟨C, p, f, fd, ps, hm, hc, hp, F, hbd⟩ := U.is
  refine pe_imp (pe_prop (E := fun _ _ _ => False) (dvs := []) ho hc hp F hr hbd .nil (L2N.passes_call (X := X.nox) (W := fun _ _ _ _ => False) takes0N fun _ _ _ _ z => z) hb) fun σ H Q ⟨w, ρ, h, S, R, p⟩ => step_E S R p fun w1 H1 h1 d x e1 S1 R1 r1 p1 => ?_
  by_cases hi : insOf c "" (atR d h1) = true
  · rw [if_pos hi] at p1
    have lk := (View.look R1 (.inl r1) : Look (gx X T) w1 H1 x (atR d h1))
    revert hi lk
    generalize atR d h1 = d'
    intro hi lk
    cases d' with
    | ins c' fs =>
      simp only [insOf, Bool.and_eq_true, decide_eq_true_eq, Option.isNone_iff_eq_none] at hi
      obtain ⟨rfl, hl0⟩ := hi
      obtain ⟨a, C', dx, vs, rfl, h0, h2, h3⟩ := lk.ins
      rw [hm] at h0
      cases h0
      refine ⟨a, dx, vs, rfl, h2, rfl, w1, h1, [d], R1, .cons r1 .nil, ?_⟩
      revert p1
      cases q [d] h1 with
      | ok z h3 => exact fun p1 => p1
      | exc c fs h3 => exact fun p1 => p1.elim
      | bad => exact fun p1 => p1.elim
    | _ => cases hi
  · rw [if_neg hi] at p1; exact p1.elim

structure CMethU (P : Program) (w : World) (base : Heap) (G : Gx) (k : Nat) (c m : Str) (n : Nat) (g : List D → Hl → Res D) : Prop where
  is : ∃ C mc p f fd ps, G.mg c = some (.ref C) ∧ CRead G.K C mc ∧ CMet G.K C mc m p f ∧ FnOk P w G.K G.mg base (L2N.CX P w) k f fd ps (spF G (n + 1) g) ∧ Binds G.K fd ps []
theorem fnR_of {P : Program} {w : World} {K : PySem.W.Frag} {mg : Str → Option Value} {base : Heap} {CX : CXT} {k : Nat} {f : Addr} {fd : FuncData} {ps : List Str} {sp : Sp} (F : FnOk P w K mg base CX k f fd ps sp) (hb : Binds K fd ps []) : FnR P w K mg base CX k f sp := fun A outer s H us vs Q E hr e0 r hq => by
  have hl : us.length = ps.length := by rw [← r.length]; exact F.len _ _ _ _ hq
  have KX : K.In s.heap := e0.mod.kin.keeps fun b o e => (e0.bs b o e).1
  have b := hb s us KX (by rw [List.append_nil]; exact hl)
  rw [List.append_nil] at b
  exact F.run A outer s H ⟨us, []⟩ us vs Q E hr e0 b r hq
/-- C.m(..), C a class by its name; what it raises is wanted whatever the slots hold -/
def dCMeth (c : Str) (q : List D → Hl → Res D) (t : Den (List D)) : Den D := fun ρ h => (t ρ h).bind fun ds h2 => q (.cls c :: ds) h2
theorem se_cmeth {pl : Sem Bool} {E : XK} {x : Str} {p : Pos} (U : CMethU X.prog X.w X.base (gx X T) k c m n q) (hr : Room k X.A) (tk : L2N.Takes X (fun c d _ H => E c d H)) (hg : Gl X c) (ha : SA X T Z (fun c d _ H => E c d H) (e :: es) t) (hl : ∀ ρ h ds h', t ρ h = .ok ds h' → ds.length = n)
    (hdb : (c == ("__debug__" : Str)) = false := by decide) (hst : starEach (e :: es) X.env = (false, eval e X.env) :: starEach es X.env := by rfl) (hpl : (backTo pos (starEach es X.env)).any (·.1) = false := by rfl)
    (ht : eval (.Call (.Attribute (.Name c p) m apos) (e :: es) [] pos) X.env = (do
      let ov ← eval (.Name c p) X.env
      standAt apos.atName
      let (f, first) ← holding [ov] (getMethod ov m pl)
      callWith pos f first (backTo pos (starEach (e :: es) X.env)) (backToKw pos (keywordEach [] X.env))) := by rfl) :
    SE X T Z (fun c d _ H => E c d H) (.Call (.Attribute (.Name c p) m apos) (e :: es) [] pos) (dCMeth c q t) := by
  obtain ⟨C, mc, pp, f, fd, ps, hm, cr, cm, F, hb⟩ := U.is
  refine pe_imp (pe_cmeth (E := E) (pe_glob (v := .ref C) hg hm rfl hdb) cr cm (fnR_of F hb) hr (L2N.passes_call (W := fun c d _ H => E c d H) tk fun _ _ _ _ z => z) ha hst hpl ht) fun σ H Q ⟨w, ρ, h, S, R, p⟩ => ⟨rfl, ?_⟩
  have hl' := hl ρ h
  revert p
  unfold dCMeth
  cases e1 : t ρ h with
  | ok ds h4 =>
    intro p
    refine ⟨w, ρ, h, S, R, ?_⟩
    rw [e1]
    exact fun w2 H2 e2 R2 us r => ⟨by rw [List.length_cons, r.length, hl' ds h4 e1], w2, h4, .cls c :: ds, R2, .cons (.cls hm) r, Post.le p e2⟩
  | exc c fs h4 => intro p; refine ⟨w, ρ, h, S, R, ?_⟩; rw [e1]; exact p
  | bad => intro p; exact p.elim
end
end Pf
end
section
set_option maxRecDepth 100000
namespace LamN
open PySem PySem.Spec PyProof.Rows L2 LamX

abbrev lamCxN (X : Cx) (A : Around) (outer : List Env) (s : Shared) (H : Hp) (E : XK) (scope : Scope) (f c' : Addr) : Cx :=
  (lamCx X A outer s H E scope f c').wish fun e s' => wpAny (model X.prog X.w) (A.deeper (lamEnv X scope s.heap.objs.size f c')) (leaving (lamEnv X scope s.heap.objs.size f c') e) (fun _ s'' => L2N.CX X.prog X.w outer H s E e s'') (fun e' s'' => L2N.CX X.prog X.w outer H s E e' s'') s'
section
variable {X : Cx} {pins : List (Addr × Obj)} {σ : L2.St} {H HZ : Hp} {s s1 : Shared}
theorem pe_actN {CXg : CXT} {Eg : XK} {Ng : List Str} {qg : Str} {sg : Scope} {g f c' : Addr} {cdg pm ctv : Value} {params : Arguments} {body : Expr} {scope : Scope} {k i : Nat} {a : Str} {pn : List (Addr × Obj)} {xe : Value → Shared → Prop} {W : WX} {tb : XK → TE} {p1 p2 : Pos}
    (I : Inv X pins σ H s) (L : LamS X.env.scope scope) (hf : s.heap.get? f = some (PySem.W.kla_obj "<lambda>" (X.env.qual ++ "<lambda>") params body scope (cloFrom X.env.cells scope.names []) pm c' ctv)) (hfn : H f = none) (hfr : f ∉ frs X.stack)
    (hbind : bindArgs (PySem.W.kla_fn "<lambda>" (X.env.qual ++ "<lambda>") params body scope (cloFrom X.env.cells scope.names []) pm (.ref c') ctv) ⟨[], []⟩ = pure [])
    (tk : L2N.Takes ((cxOf CXg X.prog X.w X.K X.mg X.base Ng qg sg g cdg X.A X.stack s H Eg).tr pn xe) W) (hr : Room (k + 1) (X.A.deeper (envOfC qg sg s.heap.objs.size g cdg)))
    (hbody : ∀ (A : Around) (outer : List Env) (s : Shared) (H : Hp) (E : XK), Room k (A.deeper (lamEnv X scope s.heap.objs.size f c')) → PE (lamCxN X A outer s H E scope f c') body (tb E))
    (hN : Ng[i]? = some a) (hv : Vis sg a) (hd : (a == ("__debug__" : Str)) = false := by decide) (hcd : (a == ("__classdict__" : Str)) = false := by decide) :
    PE ((cxOf CXg X.prog X.w X.K X.mg X.base Ng qg sg g cdg X.A X.stack s H Eg).tr pn xe) (.Call (.Name a p1) [] [] p2)
      (fun σZ HZ Q => σZ[i]? = some (some (.ref f)) ∧ HZ c' = some (CodeO c' (X.env.qual ++ "<lambda>")) ∧ tb (fun c d H => W c d σZ H) σ HZ Q) := by
  refine ⟨fun pinsZ sZ σZ HZ Q IZ h => ?_⟩
  obtain ⟨hs, hc, ht⟩ := h
  refine wpAny_Call_Name_kw (thn ((pe_var (pos := p1) (i := i) hN hv hd hcd).run pinsZ sZ σZ HZ (fun v H1 => v = .ref f ∧ H1 = HZ) IZ ⟨.ref f, hs, rfl, rfl⟩) fun u s1 ⟨v, H1, I1, r1, q1⟩ => ?_)
  obtain ⟨ev, eH⟩ := q1
  subst ev
  rw [eH] at I1
  obtain rfl : u = Value.ref f := r1
  have of1 : s1.heap.get? f = some (PySem.W.kla_obj "<lambda>" (X.env.qual ++ "<lambda>") params body scope (cloFrom X.env.cells scope.names []) pm c' ctv) := I1.base.keep f _ hf hfn hfr (fun z => nomatch (show f ∈ ([] : List Addr) from z))
  refine PySem.W.callWith_F0 ⟨_, _, _, _, of1⟩ ?_
  have un : Un (frs X.stack) [] H HZ s.heap s1.heap := I1.base
  obtain ⟨⟨oc, vs, t, hoc, hdc, hvc⟩, _, _⟩ := I1.hok c' _ hc
  have rc : codeAny (model X.prog X.w) (X.A.deeper (envOfC qg sg s.heap.objs.size g cdg)) (.call (.ref f) ⟨[], []⟩) (CR (L2N.CX X.prog X.w) (envOfC qg sg s.heap.objs.size g cdg :: X.stack) X.prog X.w HZ s1 Q (fun c d H => W c d σZ H)) s1 := by
    refine PySem.W.kla_callFunE hr.depth of1 rfl L.co L.gen rfl ⟨c', oc, vs, t, rfl, hoc, hdc, hvc⟩ ?_
    rw [hbind]
    refine wpAny_pure (wpAny_newFunctionEnv (fun y hy => (L.own y hy).2) (fun y hy => absurd hy (by simp)) (fun h₁ hns hsb => ⟨I1.nolimit.fresh _ hsb, ?_⟩) L.kind)
    show codeAny _ _ (.expr body (lamEnv X scope s1.heap.objs.size f c')) _ _
    have kp : ∀ b o, s1.heap.get? b = some o → h₁.get? b = some o := fun b o e => hsb.extBut b o (Nat.ne_of_lt (Heap.lt_size e)) (Heap.get?_push_of_some _ e)
    have J : Inv (lamCxN X (X.A.deeper (envOfC qg sg s.heap.objs.size g cdg)) (envOfC qg sg s.heap.objs.size g cdg :: X.stack) s1 HZ (fun c d H => W c d σZ H) scope f c') [] σ HZ { s1 with heap := h₁, toks := s1.toks + ([] : List (Str × Value)).length } :=
      (lam_start2 (E := fun c d H => W c d σZ H) I L I1.env0 hr.hd un hns kp).wish _
    refine PySem.W.kla_codeExpr (wpAny_mono ((hbody _ _ s1 HZ _ (hr.deeper _)).run [] _ _ HZ Q J ht) (fun v s' hq => ?_) fun e s' hq => hq)
    obtain ⟨w', H', J', rv, q⟩ := hq
    exact ⟨w', H', J'.os, J'.bare, J'.base, J'.hok, rv, q⟩
  refine wpAny_call (codeAny_mono rc fun r s' hq => ?_)
  cases r with
  | error e => exact L2N.passAt tk σZ pinsZ HZ s1 e s' I1 hq
  | ok fl =>
    cases fl with
    | ret u => exact I1.after hq
    | next => exact False.elim hq
    | brk => exact False.elim hq
    | cont => exact False.elim hq
end
/-- the def that calls what it got: a calls it; TT: what it makes of the lambda's reading -/
def GivesN (X : Cx) (Ng : List Str) (x : Str) (sg : Scope) (g : Addr) (cdg : Value) (bg : List Stmt) (a : Str) (q : Str) (j : Nat) (TT : (XK → Hp → VK → Prop) → Hp → VK → Prop) : Prop :=
  ∀ (f c' : Addr) (s : Shared) (H : Hp) (Q : VK) (tl : XK → Hp → VK → Prop), Room j (X.A.deeper (envOfC x sg s.heap.objs.size g cdg)) →
    (∀ (W : WX) (pn : List (Addr × Obj)) (xe : Value → Shared → Prop) (p1 p2 : Pos), L2N.Takes ((cxOf C8.CX0 X.prog X.w X.K X.mg X.base Ng x sg g cdg X.A X.stack s H C8.E0).tr pn xe) W →
      PE ((cxOf C8.CX0 X.prog X.w X.K X.mg X.base Ng x sg g cdg X.A X.stack s H C8.E0).tr pn xe) (.Call (.Name a p1) [] [] p2) (fun σZ HZ Q => σZ[0]? = some (some (.ref f)) ∧ HZ c' = some (CodeO c' q) ∧ tl (fun c d H => W c d σZ H) HZ Q)) →
    H c' = some (CodeO c' q) → TT tl H Q →
    ∃ t, PSs (cxOf C8.CX0 X.prog X.w X.K X.mg X.base Ng x sg g cdg X.A X.stack s H C8.E0).nox bg t ∧ t { nx := fun _ H' => Q .non H', rt := Q } (L2.start Ng [.ref f]) H
section
variable {X : Cx}
theorem pe_lamcallN {T : List (Addr × Str)} {TT : (XK → Hp → VK → Prop) → Hp → VK → Prop} {x a : Str} {g c P : Addr} {k j : Nat} {pg : Arguments} {bg : List Stmt} {sg : Scope} {dV kV doc pm cdv ct oc : Value} {an od : Option Addr} {osl : Array (Option Value)} {Ng : List Str}
    {params : Arguments} {body : Expr} {scope : Scope} {t : XK → TE} {p lpos pos : Pos} (hg : Gl X x) (hm : X.mg x = some (.ref g)) (hk : PySem.W.keepIn X.K (.ref g) = true)
    (lk : X.K.lookup g = some ⟨oc, od, .func (PySem.W.fnOf x x pg bg sg dV kV doc pm an cdv ct), osl⟩) (hcg : PySem.W.codeIn X.K cdv x = true) (hb : L2.Binds X.K (PySem.W.fnOf x x pg bg sg dV kV doc pm an cdv ct) [a] []) (Sg : FnScope Ng [a] sg) (hNg : Ng[0]? = some a) (hva : Vis sg a)
    (hG : GivesN X Ng x sg g cdv bg a (X.env.qual ++ "<lambda>") j TT) (hj : j ≤ k + 2)
    (TB : TabB X.base X.mg c P) (hcode : X.env.code = .ref c) (hmT : (P, X.env.qual ++ "<lambda>") ∈ T) (hu : ∀ p ∈ T, p.1 = P → p.2 = X.env.qual ++ "<lambda>") (hr : Room (k + 3) X.A) (L : LamS X.env.scope scope) (hdef : defaultsOf params X.env = ([], []))
    (hbind : ∀ (q : Str) (cl : List (Str × Addr)) (pm cv ctv : Value), bindArgs (PySem.W.kla_fn "<lambda>" q params body scope cl pm cv ctv) ⟨[], []⟩ = pure [])
    (hbody : ∀ (A : Around) (outer : List Env) (s : Shared) (H : Hp) (E : XK) (f c' : Addr), Room (k + 1) (A.deeper (lamEnv X scope s.heap.objs.size f c')) → PE (lamCxN X A outer s H E scope f c') body (t E))
    (hdb : (x == ("__debug__" : Str)) = false := by decide) (hd : (a == ("__debug__" : Str)) = false := by decide) (hcd : (a == ("__classdict__" : Str)) = false := by decide) :
    PE X (.Call (.Name x p) [.Lambda params body scope lpos] [] pos) (tLam T TT t) := by
  refine ⟨fun pins s σ H Q I h => ?_⟩
  obtain ⟨hT, h⟩ := h
  refine wpAny_Call_Name_kw (ld_glob I hg hm ?_ hdb)
  refine PySem.W.callWith_K (h₀ := X.base) I.ok.mod.kin hk ?_ (by rfl) (by rfl)
  show wpAny _ _ (spliced ((false, eval (.Lambda params body scope lpos) X.env) :: backTo pos (starEach [] X.env))) _ _ s
  refine Calls.spliced_cons (lam_make2 I TB hcode hmT hu hT hdef (L.has I.ok) fun f c' pm' ctv H1 s' I1 eN T1 hf hfn hfr hco => ?_)
  refine Calls.spliced_nil ⟨I1.kIn, ?_⟩
  have rc : codeAny (model X.prog X.w) X.A (.call (.ref g) ⟨[.ref f], []⟩) (CR C8.CX0 X.stack X.prog X.w H1 s' Q C8.E0) s' := by
    refine run_ofS (k := k + 2) (N := Ng) (ps := [a]) (us := [.ref f]) (vs := [.ref f]) lk hcg Sg hr I1.env0 (hb s' [.ref f] I1.kIn rfl) (.cons rfl .nil) rfl fun hr' => ?_
    obtain ⟨t', ht', hq'⟩ := hG f c' s' H1 Q (fun E H' Q' => t E σ H' Q') (hr'.mono hj) (fun W pn xe p1 p2 tk => pe_actN (k := k + 1) (i := 0) (tb := t) I1 L hf hfn hfr (hbind _ _ _ _ _) tk hr' (fun A outer s H E hr2 => hbody A outer s H E f c' hr2) hNg hva hd hcd) hco (h H1 eN T1)
    exact ⟨t', ht'.nox, hq'⟩
  refine wpAny_call (codeAny_mono rc fun r s2 hq => ?_)
  cases r with
  | error e => exact (show False from hq).elim
  | ok fl =>
    cases fl with
    | ret u => exact I1.after hq
    | next => exact False.elim hq
    | brk => exact False.elim hq
    | cont => exact False.elim hq
end
end LamN
end
section
set_option maxRecDepth 100000
namespace Pf
open PySem PySem.Spec PyProof.Rows L2 LamX LamN

abbrev Th := Hl → Res D
/-- what the def makes of the lambda's reading -/
def TTc (G : Gx) (cg : Th → Hl → Res D) : (XK → Hp → VK → Prop) → Hp → VK → Prop := fun tl H Q => ∃ w h th, HRel G w H h ∧
  (∀ (E : XK) (H' : Hp) (Q' : VK) (w' : Wd) (h' : Hl), Le w H w' H' → HRel G w' H' h' → Post G w' H' (th h') (QD G Q') E → tl E H' Q') ∧ Post G w H (cg th h) (QD G Q) (fun _ _ _ => False)
def sTh (th : Th) : SDen := fun ρ h => sBind (th h) ρ fun _ h1 => .ok .next ρ h1
def runC (N : Nat) (g : SDen) (h : Hl) : Res D := match g (List.replicate N .no) h with
  | .ok (.ret d) _ h' => .ok d h'
  | .ok .next _ h' => .ok .non h'
  | _ => .bad
theorem nos_at {N i : Nat} {s : Sl} (h : (List.replicate N Sl.no)[i]? = some s) : s = .no := by
  rw [List.getElem?_replicate] at h
  split at h
  · cases h; rfl
  · cases h
theorem SRel.nos {G : Gx} {Z : Addr → Prop} {w : Wd} {H : Hp} {σ : L2.St} {N : Nat} (h : N = σ.length) : SRel G Z w H (List.replicate N .no) σ where
  len := by rw [List.length_replicate]; exact h
  val := fun i d e => by cases nos_at e
  own := fun i d e => by cases nos_at e
  sep := fun i j d e a h1 _ _ _ => by cases nos_at h1
  exn := fun i c fs e => by cases nos_at e
theorem runC_post {G : Gx} {w : Wd} {H : Hp} {N : Nat} {g : SDen} {h : Hl} {Q : VK} (p : Post G w H (runC N g h) (QD G Q) (fun _ _ _ => False)) : PostS G w H (fun _ _ _ _ => False) (g (List.replicate N .no) h) { nx := fun _ H' => Q .non H', rt := Q } := by
  unfold runC at p
  revert p
  cases g (List.replicate N .no) h with
  | ok fl ρ h2 =>
    cases fl with
    | next => exact fun p w2 σ H2 L R2 S2 => p w2 H2 L R2 _ .non
    | ret d => exact fun p w2 σ H2 L R2 S2 v rv => p w2 H2 L R2 v rv
    | brk => exact fun p => p.elim
    | cont => exact fun p => p.elim
  | exc c fs ρ h2 => exact fun p => p.elim
  | bad => exact fun p => p.elim
def dLam (cg : Th → Hl → Res D) (lb : Den D) : Den D := fun ρ h => match cg (lb ρ) h with
  | .ok d h' => .ok d h'
  | _ => .bad
theorem HRel.ext {G : Gx} {w : Wd} {H H1 : Hp} {h : Hl} (R : HRel G w H h) (k : ExtN H H1) (t : Tabs G.T.tabs H1) : Le w H w H1 ∧ HRel G w H1 h := by
  have kf : ∀ a o, w.F a ∨ w.L a → H a = some o → H1 a = some o := fun a o f e => k a o e fun ps z => by
    subst z
    exact f.elim (R.ntb a ps e).1 (R.ntb a ps e).2
  have le : Le w H w H1 := ⟨fun _ z => z, fun _ z => z, fun _ _ z => z, fun a o f z => kf a o (.inl f) z, fun a o f z => kf a o (.inr f) z, fun a _ z => k a _ z (fun _ q => by cases q), fun a _ _ z => k a _ z (fun _ q => by cases q)⟩
  refine ⟨le, ⟨fun r a e => ?_, R.all, R.inj, R.mF, R.FL, fun a z => ?_, fun a ps e => ?_, t⟩⟩
  · obtain ⟨o, h1, h2⟩ := R.live r a e
    refine ⟨o, h1, ?_⟩
    cases o with
    | lst ds => obtain ⟨xs, h3, h4⟩ := h2; exact ⟨xs, k a _ h3 (fun _ q => by cases q), h4.le le⟩
    | ins c fs => obtain ⟨C, dx, vs, h0, h3, h4⟩ := h2; exact ⟨C, dx, vs, h0, k a _ h3 (fun _ q => by cases q), h4.le le⟩
  · obtain ⟨u, e⟩ := Option.ne_none_iff_exists'.mp (R.there a z)
    rw [kf a u z e]; exact fun z => by cases z
  · have go : ¬ (w.F a ∨ w.L a) := fun f => by
      obtain ⟨u, e'⟩ := Option.ne_none_iff_exists'.mp (R.there a f)
      have e2 := kf a u f e'
      rw [e] at e2
      cases e2
      exact f.elim (R.ntb a ps e').1 (R.ntb a ps e').2
    exact ⟨fun z => go (.inl z), fun z => go (.inr z)⟩
/-- the def of the module that calls what it got -/
structure CaughtU (X : Cx) (G : Gx) (x : Str) (qq : Str) (j : Nat) (cg : Th → Hl → Res D) : Prop where
  is : ∃ (g : Addr) (a : Str) (pg : Arguments) (bg : List Stmt) (sg : Scope) (dV kV doc pm cdv ct oc : Value) (an od : Option Addr) (osl : Array (Option Value)) (Ng : List Str), X.mg x = some (.ref g) ∧ PySem.W.keepIn X.K (.ref g) = true ∧
    X.K.lookup g = some ⟨oc, od, .func (PySem.W.fnOf x x pg bg sg dV kV doc pm an cdv ct), osl⟩ ∧ PySem.W.codeIn X.K cdv x = true ∧ L2.Binds X.K (PySem.W.fnOf x x pg bg sg dV kV doc pm an cdv ct) [a] [] ∧ FnScope Ng [a] sg ∧ Ng[0]? = some a ∧ Vis sg a ∧
    (a == ("__debug__" : Str)) = false ∧ (a == ("__classdict__" : Str)) = false ∧ GivesN X Ng x sg g cdv bg a qq j (TTc G cg)
section
variable {X : Cx} {T : Tb} {Z : Addr → Prop} {W : WX} {x : Str} {c P : Addr} {k j : Nat} {params : Arguments} {body : Expr} {scope : Scope} {p lpos pos : Pos} {cg : Th → Hl → Res D} {lb : Den D}
theorem se_lam (U : CaughtU X (gx X T) x (X.env.qual ++ "<lambda>") j cg) (hj : j ≤ k + 2) (hg : Gl X x) (TB : TabB X.base X.mg c P) (hcode : X.env.code = .ref c) (hmT : (P, X.env.qual ++ "<lambda>") ∈ T.tabs) (hu : ∀ p ∈ T.tabs, p.1 = P → p.2 = X.env.qual ++ "<lambda>")
    (hr : Room (k + 3) X.A) (L : LamS X.env.scope scope) (hdef : defaultsOf params X.env = ([], [])) (hbind : ∀ (q : Str) (cl : List (Str × Addr)) (pm cv ctv : Value), bindArgs (PySem.W.kla_fn "<lambda>" q params body scope cl pm cv ctv) ⟨[], []⟩ = pure [])
    (hbody : ∀ (A : Around) (outer : List Env) (s : Shared) (H : Hp) (E : XK) (f c' : Addr), Room (k + 1) (A.deeper (lamEnv X scope s.heap.objs.size f c')) → SE (lamCxN X A outer s H E scope f c') T Z (fun c d _ H => E c d H) body lb) (hdb : (x == ("__debug__" : Str)) = false := by decide) :
    SE X T Z W (.Call (.Name x p) [.Lambda params body scope lpos] [] pos) (dLam cg lb) := by
  obtain ⟨g, a, pg, bg, sg, dV, kV, doc, pm, cdv, ct, oc, an, od, osl, Ng, hm, hk, lk, hcg, hb, Sg, hNg, hva, h1, h2, hG⟩ := U.is
  refine pe_imp (pe_lamcallN (t := fun E => tE (gx X T) Z (fun c d _ H => E c d H) lb) hg hm hk lk hcg hb Sg hNg hva hG hj TB hcode hmT hu hr L hdef hbind hbody hdb h1 h2) fun σ H Q ⟨w, ρ, h, S, R, pp⟩ => ⟨R.tabs, fun H1 eN T1 => ?_⟩
  obtain ⟨le, R1⟩ := R.ext eN T1
  refine ⟨w, h, lb ρ, R1, fun E H' Q' w' h' e R' p' => ⟨w', ρ, h', S.le (le.trans e), R', p'⟩, ?_⟩
  unfold dLam at pp
  revert pp
  cases cg (lb ρ) h with
  | ok d h' => exact fun pp => Post.le pp le
  | exc c fs h' => exact fun pp => pp.elim
  | bad => exact fun pp => pp.elim
end
end Pf
end
section
set_option maxRecDepth 100000
namespace Pf
open PySem PySem.Spec PyProof.Rows L2 LamX LamN

def cgOf (N i : Nat) (ex : Str → Option Bool) (suite rest : SDen) : Th → Hl → Res D := fun th h => runC N (sSeq (sTry i (sTh th) ex suite) rest) h
section
variable {X : Cx} {T : Tb} {Ng : List Str} {x a q y1 y2 y3 n : Str} {sg : Scope} {g : Addr} {cdg cy1 cy2 cy3 : Value} {i j : Nat} {p1 p2 p3 py1 py2 py3 tp pos pos' : Pos} {kk : Nat} {b₀ : Stmt} {suite rest : List Stmt} {ex : Str → Option Bool} {s r : SDen}
theorem caught_gives (hT : T.xc = none) (hi : Ng[i]? = some n) (hN : Ng.Nodup) (hln : sg.names.lookup n = some .local)
    (hx : ∀ f s H, Names (cxOf C8.CX0 X.prog X.w X.K X.mg X.base Ng x sg g cdg X.A X.stack s H f) y1 cy1 ∧ Names (cxOf C8.CX0 X.prog X.w X.K X.mg X.base Ng x sg g cdg X.A X.stack s H f) y2 cy2 ∧ Names (cxOf C8.CX0 X.prog X.w X.K X.mg X.base Ng x sg g cdg X.A X.stack s H f) y3 cy3)
    (hex : ∀ c r C, ex c = some r → X.mg c = some (.ref C) → PySem.W.exmAny X.K (.ref C) [cy1, cy2, cy3] = some r) (h0 : 0 < Ng.length)
    (hsw : ∀ env, swapsWith (.Call (.Name a p1) [] [] p2) none p3.line env = pure false)
    (hsu : ∀ (s0 : Shared) (H0 : Hp), Room j (X.A.deeper (envOfC x sg s0.heap.objs.size g cdg)) → ∀ (a C dx : Addr) (oe : Obj) (pn : List (Addr × Obj)), L2N.Zn (.ref C) (some dx) oe → (∃ vs, oe.data = .fields vs) →
      SB ((cxOf C8.CX0 X.prog X.w X.K X.mg X.base Ng x sg g cdg X.A X.stack s0 H0 C8.E0).nox.suite a ((a, oe) :: pn)) ⟨T.tabs, some (a, C, dx)⟩ (fun _ _ _ _ => False) (b₀ :: suite) s)
    (hrest : ∀ (s0 : Shared) (H0 : Hp), Room j (X.A.deeper (envOfC x sg s0.heap.objs.size g cdg)) → SB (cxOf C8.CX0 X.prog X.w X.K X.mg X.base Ng x sg g cdg X.A X.stack s0 H0 C8.E0).nox T (fun _ _ _ _ => False) rest r) :
    GivesN X Ng x sg g cdg (.Try [.Expr (.Call (.Name a p1) [] [] p2) p3] [.ExceptHandler (some (.Tuple [.Name y1 py1, .Name y2 py2, .Name y3 py3] kk tp)) (some n) (b₀ :: suite) pos'] [] [] pos :: rest) a q j (TTc (gx X T) (cgOf Ng.length i ex s r)) := by
  intro f c' s0 H Q tl hr act hc ⟨w, h, th, R, real, p⟩
  have nm := hx C8.E0 s0 H
  let Y : Cx := (cxOf C8.CX0 X.prog X.w X.K X.mg X.base Ng x sg g cdg X.A X.stack s0 H C8.E0).nox
  refine ⟨_, pss_cons (L2N.ps_try_as3 (X := Y) (n := n) (i := i) (Wout := fun _ _ _ _ => False)
    (tb := fun W D σ H => σ[0]? = some (some (.ref f)) ∧ H c' = some (CodeO c' q) ∧ tl (fun c d H => W c d σ H) H (fun _ H' => D.nx σ H'))
    (ts := fun a cls d D σ H' => ∃ C dx, cls = .ref C ∧ d = some dx ∧ tS (gx X ⟨T.tabs, some (a, C, dx)⟩) w H (fun _ _ _ _ => False) s D σ H') rfl rfl hN hi hln nm.1 nm.2.1 nm.2.2 takes0N (fun W pn xe tk _ => ?_) (fun a oe cls d pn hzn hfl => ?_)) (hrest s0 H hr w H), ?_⟩
  · exact pss_one (ps_expr (act W pn xe p1 p2 tk) (hsw _))
  · exact ⟨fun pins s' σ H' D I ⟨C, dx, e1, e2, qq⟩ => by
      subst e1 e2
      exact (hsu s0 H hr a C dx oe pn hzn hfl w H).run pins s' σ H' D I qq⟩
  · have e0 : (L2.start Ng [V.ref f])[0]? = some (some (V.ref f)) := by unfold L2.start; simp
    have S0 : SRel (gx X T) w.L w H (List.replicate Ng.length .no) (L2.start Ng [V.ref f]) := SRel.nos (by unfold L2.start; simp; omega)
    refine ⟨e0, hc, ?_⟩
    have p0 := runC_post p
    have q0 : tS (gx X T) w H (fun _ _ _ _ => False) (sTry i (sTh th) ex s) _ (L2.start Ng [V.ref f]) H := ⟨w, _, h, S0, R, Le.refl _ _, PostS.seq p0⟩
    obtain ⟨w', ρ', h', S', R', L', p'⟩ := try_go (K := X.K) (mg := X.mg) (T := T) (cs := [cy1, cy2, cy3]) hT hex q0
    refine real _ H _ w' h' L' R' ?_
    have p2 := Post.of_s (r := th h') S' L' p'
    exact p2.imp fun w1 H1 h1 d e1 R1 p3 v _ => p3.now (S'.le e1) R1 (L'.trans e1)
end
end Pf
end
section
set_option maxRecDepth 100000
namespace Pf
open PySem PySem.Spec PyProof.Rows L2 LamX LamN

def pick {α : Type} (is : List Nat) (xs : List α) : List α := is.filterMap fun i => xs[i]?
theorem Vals.pick : ∀ (is : List Nat) {xs : List V} {us : List Value}, Vals xs us → Vals (Pf.pick is xs) (Pf.pick is us)
  | [], _, _, _ => .nil
  | i :: is, xs, us, r => by
    have ih := Vals.pick is r
    unfold Pf.pick at ih ⊢
    rw [List.filterMap_cons, List.filterMap_cons]
    cases e : xs[i]? with
    | none =>
      have : us[i]? = none := by rw [List.getElem?_eq_none_iff] at e ⊢; rw [← Paired.length r]; exact e
      rw [this]; exact ih
    | some x =>
      obtain ⟨u, hu, ru⟩ := r.get e
      rw [hu]
      exact .cons ru ih
theorem Reps.pick {G : Gx} {w : Wd} {H : Hp} : ∀ (is : List Nat) {xs : List V} {ds : List D}, Reps G w H xs ds → Reps G w H (Pf.pick is xs) (Pf.pick is ds)
  | [], _, _, _ => .nil
  | i :: is, xs, ds, r => by
    have ih := Reps.pick is r
    unfold Pf.pick at ih ⊢
    rw [List.filterMap_cons, List.filterMap_cons]
    cases e : ds[i]? with
    | none =>
      have : xs[i]? = none := by rw [List.getElem?_eq_none_iff] at e ⊢; rw [r.length]; exact e
      rw [this]; exact ih
    | some d =>
      obtain ⟨u, hu, ru⟩ := r.get e
      rw [hu]
      exact .cons ru ih
/-- a def called with n positional values and the keywords ks; is: the parameters' order -/
structure FnK (P : Program) (w : World) (base : Heap) (G : Gx) (k : Nat) (x : Str) (n : Nat) (ks : List Str) (is : List Nat) (g : List D → Hl → Res D) : Prop where
  is : ∃ f fd ps, G.mg x = some (.ref f) ∧ PySem.W.keepIn G.K (.ref f) = true ∧ FnOk P w G.K G.mg base (L2N.CX P w) k f fd ps (spF G ps.length g) ∧ is.length = ps.length ∧ (∀ i ∈ is, i < n + ks.length) ∧
    ∀ (s : Shared) (us ws : List Value), us.length = n → ws.length = ks.length → BindsTo s fd ⟨us, ks.zip ws⟩ (ps.zip (pick is (us ++ ws)))
def dCallK (is : List Nat) (g : List D → Hl → Res D) (t tk : Den (List D)) : Den D := fun ρ h => (t ρ h).bind fun ds h1 => (tk ρ h1).bind fun zs h2 => g (pick is (ds ++ zs)) h2
theorem pick_length {α : Type} : ∀ {is : List Nat} {xs : List α}, (∀ i ∈ is, i < xs.length) → (pick is xs).length = is.length
  | [], _, _ => rfl
  | i :: is, xs, h => by
    unfold pick
    rw [List.filterMap_cons, List.getElem?_eq_getElem (h i List.mem_cons_self)]
    show _ + 1 = _ + 1
    rw [show (List.filterMap (fun i => xs[i]?) is).length = (pick is xs).length from rfl, pick_length fun j hj => h j (List.mem_cons_of_mem _ hj)]
abbrev SK (X : Cx) (T : Tb) (Z : Addr → Prop) (W : WX) (e : List Keyword) (f : Den (List D)) : Prop := PK X e (tAr (gx X T) Z W f)
section
variable {X : Cx} {T : Tb} {Z : Addr → Prop} {W : WX} {e : Expr} {es : List Expr} {kws : List Keyword} {f : Den D} {t tk : Den (List D)} {pos p kpos : Pos} {x : Str} {nm : Option Str} {k n : Nat} {ks : List Str} {is : List Nat} {g : List D → Hl → Res D}
theorem pk_imp {t t' : TA} (h : PK X kws t) (k : ∀ σ H Q, t' σ H Q → t σ H Q) : PK X kws t' := ⟨fun pos pins s σ H Q I q => h.run pos pins s σ H Q I (k σ H Q q)⟩
theorem sk_nil : SK X T Z W [] dNil := pk_imp pk_nil fun σ H Q ⟨w, ρ, h, S, R, p⟩ => p.now R _ .nil
theorem sk_cons (ha : SE X T Z W e f) (hr : SK X T Z W kws t) : SK X T Z W (⟨nm, e, kpos⟩ :: kws) (dCons f t) :=
  pk_imp (pk_cons ha hr) fun σ H Q ⟨w, ρ, h, S, R, p⟩ => step_E S R p fun w1 H1 h1 d x e1 S1 R1 r1 p1 => step_A S1 R1 p1 fun w2 H2 h2 ds xs e2 S2 R2 r2 p2 => p2.now R2 _ (.cons (r1.le e2) r2)
theorem run_fnK {pins : List (Addr × Obj)} {σ : L2.St} {H : Hp} {s : Shared} {Q : VK} {us ws : List Value} {vs zs : List V} {ps : List Str} {fa : Addr} {fd : FuncData} {w : Wd} {h : Hl} {ds : List D} (F : FnOk X.prog X.w X.K X.mg X.base (L2N.CX X.prog X.w) k fa fd ps (spF (gx X T) ps.length g)) (hr : Room k X.A) (tk : L2N.Takes X W)
    (hl : is.length = ps.length) (hi : ∀ i ∈ is, i < n + ks.length) (hb : ∀ (s : Shared) (us ws : List Value), us.length = n → ws.length = ks.length → BindsTo s fd ⟨us, ks.zip ws⟩ (ps.zip (pick is (us ++ ws))))
    (I : Inv X pins σ H s) (r : Vals vs us) (rz : Vals zs ws) (l1 : vs.length = n) (l2 : zs.length = ks.length) (R : HRel (gx X T) w H h) (rr : Reps (gx X T) w H (vs ++ zs) ds) (p : Post (gx X T) w H (g (pick is ds) h) (QD (gx X T) Q) (fun c d H' => W c d σ H')) :
    wpAny (model X.prog X.w) X.A (call (.ref fa) us (ks.zip ws)) (EP X pins σ Q) X.xe s := by
  have r2 : Vals (pick is (vs ++ zs)) (pick is (us ++ ws)) := Vals.pick is (r.append rz)
  have hq : spF (gx X T) ps.length g (pick is (vs ++ zs)) H Q (fun c d H' => W c d σ H') := ⟨by rw [pick_length (fun i hh => by rw [List.length_append, l1, l2]; exact hi i hh), hl], w, h, pick is ds, R, Reps.pick is rr, p⟩
  refine wpAny_call (codeAny_mono (F.run X.A X.stack s H ⟨us, ks.zip ws⟩ (pick is (us ++ ws)) _ Q _ hr I.env0 (hb s us ws (r.length.symm.trans l1) (rz.length.symm.trans l2)) r2 hq) fun r s' hq => ?_)
  cases r with
  | error e => exact L2N.passAt tk σ pins H s e s' I hq
  | ok fl =>
    cases fl with
    | ret u => exact I.after hq
    | next => exact False.elim hq
    | brk => exact False.elim hq
    | cont => exact False.elim hq
theorem se_callK (U : FnK X.prog X.w X.base (gx X T) k x n ks is g) (hr : Room k X.A) (hg : Gl X x) (tk' : L2N.Takes X W) (ha : SA X T Z W (e :: es) t) (hkw : SK X T Z W kws tk) (hl : ∀ ρ h ds h', t ρ h = .ok ds h' → ds.length = n) (hl2 : ∀ ρ h ds h', tk ρ h = .ok ds h' → ds.length = ks.length)
    (hall : (backToKw pos (keywordEach kws X.env)).all (·.1.isSome) = true := by rfl) (hks : (backToKw pos (keywordEach kws X.env)).filterMap (·.1) = ks := by rfl)
    (hdb : (x == ("__debug__" : Str)) = false := by decide) (he : starEach (e :: es) X.env = (false, eval e X.env) :: starEach es X.env := by rfl)
    (hpl : ((backTo pos (starEach (e :: es) X.env)).any (·.1) || (backToKw pos (keywordEach kws X.env)).any (·.1.isNone)) = false := by rfl) :
    SE X T Z W (.Call (.Name x p) (e :: es) kws pos) (dCallK is g t tk) := by
  obtain ⟨f, fd, ps, hm, hk, F, hlen, hi, hb⟩ := U.is
  refine ⟨fun pins s σ H Q I ⟨w, ρ, h, S, R, pp⟩ => ?_⟩
  refine wpAny_Call_Name_kw (ld_glob I hg hm ?_ hdb)
  refine PySem.W.callWith_KW (h₀ := X.base) I.ok.mod.kin hk hall (thn (ha.run pos pins s σ H (fun vs H1 => vs.length = n ∧ tAr (gx X T) Z W tk σ H1 fun zs H2 => zs.length = ks.length ∧ ∃ w h ds, HRel (gx X T) w H2 h ∧ Reps (gx X T) w H2 (vs ++ zs) ds ∧ Post (gx X T) w H2 (g (pick is ds) h) (QD (gx X T) Q) (fun c d H' => W c d σ H')) I ?_) fun us s1 ⟨vs, H1, I1, r, l1, q⟩ => ?_) hpl he
  · have hl' := hl ρ h
    revert pp
    unfold dCallK
    cases e1 : t ρ h with
    | bad => exact fun pp => pp.elim
    | exc c fs h1 => intro pp; refine ⟨w, ρ, h, S, R, ?_⟩; rw [e1]; exact pp
    | ok ds h1 =>
      intro pp
      refine ⟨w, ρ, h, S, R, ?_⟩
      rw [e1]
      intro w1 H1 le1 R1 vs rv
      refine ⟨rv.length.trans (hl' ds h1 e1), ?_⟩
      have hl2' := hl2 ρ h1
      simp only [Res.bind_ok] at pp
      revert pp
      cases e2 : tk ρ h1 with
      | bad => exact fun pp => pp.elim
      | exc c fs h2 => intro pp; refine ⟨w1, ρ, h1, S.le le1, R1, ?_⟩; rw [e2]; exact fun w' H' C dx vs e => pp w' H' C dx vs (le1.trans e)
      | ok zs h2 =>
        intro pp
        refine ⟨w1, ρ, h1, S.le le1, R1, ?_⟩
        rw [e2]
        exact fun w2 H2 le2 R2 us rz => ⟨rz.length.trans (hl2' zs h2 e2), w2, h2, ds ++ zs, R2, (rv.le le2).append rz, Post.le pp (le1.trans le2)⟩
  · refine thn (hkw.run pos pins s1 σ H1 _ I1 q) fun ws s2 ⟨zs, H2, I2, rz, l2, w2, h2, ds, R2, rr, pp2⟩ => ⟨I2.kIn, ?_⟩
    rw [hks]
    exact run_fnK F hr tk' hlen hi hb I2 r rz l1 l2 R2 rr pp2
theorem se_callK0 (U : FnK X.prog X.w X.base (gx X T) k x 0 ks is g) (hr : Room k X.A) (hg : Gl X x) (tk' : L2N.Takes X W) (hkw : SK X T Z W kws tk) (hl2 : ∀ ρ h ds h', tk ρ h = .ok ds h' → ds.length = ks.length)
    (hall : (backToKw pos (keywordEach kws X.env)).all (·.1.isSome) = true := by rfl) (hks : (backToKw pos (keywordEach kws X.env)).filterMap (·.1) = ks := by rfl) (hdb : (x == ("__debug__" : Str)) = false := by decide)
    (hpl : ((backTo pos (starEach [] X.env)).any (·.1) || (backToKw pos (keywordEach kws X.env)).any (·.1.isNone)) = false := by rfl) :
    SE X T Z W (.Call (.Name x p) [] kws pos) (dCallK is g dNil tk) := by
  obtain ⟨f, fd, ps, hm, hk, F, hlen, hi, hb⟩ := U.is
  refine ⟨fun pins s σ H Q I ⟨w, ρ, h, S, R, pp⟩ => ?_⟩
  refine wpAny_Call_Name_kw (ld_glob I hg hm ?_ hdb)
  refine PySem.W.callWith_KW0 (h₀ := X.base) I.ok.mod.kin hk hall ?_ hpl
  have pp' : Post (gx X T) w H ((tk ρ h).bind fun zs h2 => g (pick is zs) h2) (QD (gx X T) Q) (fun c d H' => W c d σ H') := pp
  refine thn (hkw.run pos pins s σ H (fun zs H2 => zs.length = ks.length ∧ ∃ w h ds, HRel (gx X T) w H2 h ∧ Reps (gx X T) w H2 ([] ++ zs) ds ∧ Post (gx X T) w H2 (g (pick is ds) h) (QD (gx X T) Q) (fun c d H' => W c d σ H')) I ?_) fun ws s2 ⟨zs, H2, I2, rz, l2, w2, h2, ds, R2, rr, pp2⟩ => ⟨I2.kIn, ?_⟩
  · have hl2' := hl2 ρ h
    revert pp'
    cases e2 : tk ρ h with
    | bad => exact fun pp => pp.elim
    | exc c fs h2 => intro pp; refine ⟨w, ρ, h, S, R, ?_⟩; rw [e2]; exact pp
    | ok zs h2 =>
      intro pp
      refine ⟨w, ρ, h, S, R, ?_⟩
      rw [e2]
      exact fun w2 H2 le2 R2 us rz => ⟨rz.length.trans (hl2' zs h2 e2), w2, h2, zs, R2, rz, Post.le pp le2⟩
  · rw [hks]
    exact run_fnK (us := []) (vs := []) F hr tk' hlen hi hb I2 .nil rz rfl l2 R2 rr pp2
end
end Pf
end
section
set_option maxRecDepth 100000
set_option maxHeartbeats 1000000
namespace Pf
open PySem PySem.Spec PyProof.Rows
open Sem (wp)

def flatF (fs : List Frame) : Prop := splitAtGen fs = none
theorem flatF.nil : flatF [] := rfl
theorem flatF.tail {f : Frame} {fs : List Frame} (h : flatF (f :: fs)) : flatF fs := by
  cases f with
  | gen g k l c p => exact absurd h (by simp [flatF, splitAtGen])
  | ret a b c d e f g =>
    unfold flatF at h ⊢
    simp only [splitAtGen, Option.map_eq_none_iff] at h
    exact h
theorem flatF.append {a b : List Frame} (ha : flatF a) (hb : flatF b) : flatF (a ++ b) := by
  induction a with
  | nil => exact hb
  | cons f r ih =>
    have ht := ih ha.tail
    cases f with
    | gen g k l c p => exact absurd ha (by simp [flatF, splitAtGen])
    | ret a1 b1 c1 d1 e1 f1 g1 =>
      unfold flatF at ht ⊢
      show (splitAtGen (r ++ b)).map _ = none
      rw [ht]; rfl
theorem flatF.one {k : Result → Sem PySem.Fin} {h : Option Value} {g : Bool} {l kp : List Value} {c : Code} {p : Pos} : flatF [.ret k h g l c p kp] := rfl
/-- a generator's state that holds no other generator's frame -/
def flatG : GenState → Prop
  | .suspended _ _ _ _ fs _ => flatF fs
  | _ => True
def flatE : End → Prop
  | .susp _ _ _ _ _ _ fs => flatF fs
  | .ret _ => True
theorem flatE.gen {e : End} (h : flatE e) : flatG e.genState := by cases e <;> first | trivial | exact h

def isSusp : GenState → Bool
  | .suspended .. => true
  | _ => false
/-- one that cannot be woken, that looks the same -/
def pois : GenState → GenState
  | .suspended _ _ c p fs cl => .suspended (fun _ => .unsupported "") [] c p fs cl
  | x => x
theorem pois_seen (x : GenState) : (pois x).seen = x.seen := by cases x <;> rfl
theorem pois_bare (x : GenState) : (pois x).bare = x.bare := by cases x <;> rfl

structure Sim (G0 G1 G : Array GenState) : Prop where
  size : G1.size = G.size
  susp : ∀ (i : Nat) (x : GenState), G0[i]? = some x → isSusp x = true → G1[i]? = some (pois x) ∧ G[i]? = some x
  same : ∀ (i : Nat), (∀ x : GenState, G0[i]? = some x → isSusp x = false) → G1[i]? = G[i]? ∧ ∀ y : GenState, G1[i]? = some y → flatG y
theorem Sim.at {G0 G1 G : Array GenState} (h : Sim G0 G1 G) {i : Nat} {y : GenState} (e : G1[i]? = some y) :
    (∃ x, G0[i]? = some x ∧ isSusp x = true ∧ y = pois x ∧ G[i]? = some x) ∨ ((∀ x, G0[i]? = some x → isSusp x = false) ∧ G[i]? = some y ∧ flatG y) := by
  by_cases hx : ∃ x, G0[i]? = some x ∧ isSusp x = true
  · obtain ⟨x, hx, hs⟩ := hx
    obtain ⟨a, b⟩ := h.susp i x hx hs
    rw [a] at e; cases e
    exact .inl ⟨x, hx, hs, rfl, b⟩
  · have hn : ∀ x, G0[i]? = some x → isSusp x = false := fun x hx' => by
      cases hb : isSusp x with
      | false => rfl
      | true => exact absurd ⟨x, hx', hb⟩ hx
    obtain ⟨a, b⟩ := h.same i hn
    exact .inr ⟨hn, a ▸ e, b y e⟩
theorem Sim.set {G0 G1 G : Array GenState} (h : Sim G0 G1 G) {i : Nat} (hn : ∀ x, G0[i]? = some x → isSusp x = false) {y : GenState} (hy : flatG y) : Sim G0 (G1.setIfInBounds i y) (G.setIfInBounds i y) where
  size := by simp [h.size]
  susp := fun j x hx hs => by
    have hij : i ≠ j := fun e => by subst e; rw [hn x hx] at hs; cases hs
    rw [Array.getElem?_setIfInBounds_ne hij, Array.getElem?_setIfInBounds_ne hij]
    exact h.susp j x hx hs
  same := fun j hj => by
    by_cases hij : i = j
    · subst hij
      rw [Array.getElem?_setIfInBounds_self, Array.getElem?_setIfInBounds_self, h.size]
      refine ⟨rfl, fun z hz => ?_⟩
      split at hz
      · cases hz; exact hy
      · cases hz
    · rw [Array.getElem?_setIfInBounds_ne hij, Array.getElem?_setIfInBounds_ne hij]
      exact h.same j hj
theorem Sim.push {G0 G1 G : Array GenState} (h : Sim G0 G1 G) {y : GenState} (hy : flatG y) : Sim G0 (G1.push y) (G.push y) where
  size := by simp [h.size]
  susp := fun j x hx hs => by
    obtain ⟨a, b⟩ := h.susp j x hx hs
    have h1 : j < G1.size := (Array.getElem?_eq_some_iff.mp a).1
    have h2 : j < G.size := (Array.getElem?_eq_some_iff.mp b).1
    rw [Array.getElem?_push, Array.getElem?_push, if_neg (Nat.ne_of_lt h1), if_neg (Nat.ne_of_lt h2)]
    exact ⟨a, b⟩
  same := fun j hj => by
    rw [Array.getElem?_push, Array.getElem?_push, h.size]
    split
    · exact ⟨rfl, fun z hz => by cases hz; exact hy⟩
    · exact h.same j hj
theorem Sim.start {G : Array GenState} : Sim G (G.map pois) G where
  size := by simp
  susp := fun i x hx _ => ⟨by simp [hx], hx⟩
  same := fun i hn => by
    simp only [Array.getElem?_map]
    cases e : G[i]? with
    | none => exact ⟨rfl, fun y hy => by cases hy⟩
    | some x =>
      have := hn x e
      cases x with
      | suspended _ _ _ _ _ _ => cases this
      | fresh c => exact ⟨rfl, fun y hy => by cases hy; trivial⟩
      | running => exact ⟨rfl, fun y hy => by cases hy; trivial⟩
      | finished => exact ⟨rfl, fun y hy => by cases hy; trivial⟩
theorem Sim.bare {G0 G1 G : Array GenState} (h : Sim G0 G1 G) (hb : AllBare G1) : AllBare G := fun y hy => by
  obtain ⟨i, hi, e⟩ := Array.mem_iff_getElem.mp hy
  have hi1 : i < G1.size := h.size ▸ hi
  have e1 : G1[i]? = some G1[i] := Array.getElem?_eq_getElem hi1
  have e2 : G[i]? = some y := by rw [Array.getElem?_eq_getElem hi, e]
  have hm := hb _ (Array.getElem_mem hi1)
  rcases h.at e1 with ⟨x, _, _, z1, z2⟩ | ⟨_, z, _⟩
  · rw [z1, pois_bare] at hm
    rw [e2] at z2; cases z2; exact hm
  · rw [e2] at z
    injection z with z
    rw [z]; exact hm
theorem bare_pois {G : Array GenState} (hb : AllBare G) : AllBare (G.map pois) := fun y hy => by
  obtain ⟨x, hx, rfl⟩ := Array.mem_map.mp hy
  rw [pois_bare]; exact hb x hx

abbrev wG (s : Shared) (G : Array GenState) : Shared := { s with gens := G }
theorem no_unsupported {M : Model} {Γ : PySem.Ctx} {p : Pos} {m : String} {fs : List Frame} {s s' : Shared} {e : End} (h : Runs M Γ p (.unsupported m) fs s e s') : False := by
  generalize ht : (Sem.unsupported m : Sem PySem.Fin) = t at h
  induction h <;> first | (cases ht; done) | (subst ht; rename_i ih _; exact ih rfl) | (subst ht; rename_i ih; exact ih rfl)

theorem runs_sim {M : Model} {G0 : Array GenState} {Γ : PySem.Ctx} {p : Pos} {t : Sem PySem.Fin} {fs : List Frame} {s s' : Shared} {e : End} (h : Runs M Γ p t fs s e s') :
    flatF fs → ∀ G, Sim G0 s.gens G → flatE e ∧ ∃ G', Sim G0 s'.gens G' ∧ Runs M Γ p t fs (wG s G) e (wG s' G') := by
  induction h with
  | done => exact fun _ G hG => ⟨trivial, G, hG, .done⟩
  | raise => exact fun _ G hG => ⟨trivial, G, hG, .raise⟩
  | again hq _ ih => exact fun hf G hG => let ⟨a, G', b, c⟩ := ih hf G hG; ⟨a, G', b, .again hq c⟩
  | rule _ ih => exact fun hf G hG => let ⟨a, G', b, c⟩ := ih hf G hG; ⟨a, G', b, .rule c⟩
  | «at» _ ih => exact fun hf G hG => let ⟨a, G', b, c⟩ := ih hf G hG; ⟨a, G', b, .at c⟩
  | load ho _ ih => exact fun hf G hG => let ⟨a, G', b, c⟩ := ih hf G hG; ⟨a, G', b, .load ho c⟩
  | update ho _ ih => exact fun hf G hG => let ⟨a, G', b, c⟩ := ih hf G hG; ⟨a, G', b, .update ho c⟩
  | loadIfAlive _ ih => exact fun hf G hG => let ⟨a, G', b, c⟩ := ih hf G hG; ⟨a, G', b, .loadIfAlive c⟩
  | point _ ih => exact fun hf G hG => let ⟨a, G', b, c⟩ := ih hf G hG; ⟨a, G', b, .point c⟩
  | alloc _ ih => exact fun hf G hG => let ⟨a, G', b, c⟩ := ih hf G hG; ⟨a, G', b, .alloc c⟩
  | fresh _ ih => exact fun hf G hG => let ⟨a, G', b, c⟩ := ih hf G hG; ⟨a, G', b, .fresh c⟩
  | ask _ ih => exact fun hf G hG => let ⟨a, G', b, c⟩ := ih hf G hG; ⟨a, G', b, .ask c⟩
  | choose hn _ ih => exact fun hf G hG => let ⟨a, G', b, c⟩ := ih hf G hG; ⟨a, G', b, .choose hn c⟩
  | os _ ih => exact fun hf G hG => let ⟨a, G', b, c⟩ := ih hf G hG; ⟨a, G', b, .os c⟩
  | handled _ ih => exact fun hf G hG => let ⟨a, G', b, c⟩ := ih hf G hG; ⟨a, G', b, .handled c⟩
  | stack _ ih => exact fun hf G hG => let ⟨a, G', b, c⟩ := ih hf G hG; ⟨a, G', b, .stack c⟩
  | thread _ ih => exact fun hf G hG => let ⟨a, G', b, c⟩ := ih hf G hG; ⟨a, G', b, .thread c⟩
  | genState hg _ ih =>
    intro hf G hG
    obtain ⟨a, G', b, c⟩ := ih hf G hG
    refine ⟨a, G', b, ?_⟩
    rcases hG.at hg with ⟨x, _, _, rfl, z⟩ | ⟨_, z, _⟩
    · rw [pois_seen] at c
      exact .genState z c
    · exact .genState z c
  | newGen _ ih =>
    intro hf G hG
    obtain ⟨a, G', b, c⟩ := ih hf (G.push (.fresh _)) (hG.push trivial)
    refine ⟨a, G', b, .newGen ?_⟩
    rw [show (wG _ G).gens.size = _ from hG.size.symm]
    exact c
  | call _ _ ih1 ih2 =>
    intro hf G hG
    obtain ⟨_, G1, b1, c1⟩ := ih1 flatF.nil G hG
    obtain ⟨a, G', b, c⟩ := ih2 flatF.nil G1 b1
    exact ⟨a, G', b, .call c1 c⟩
  | callSusp _ ih =>
    intro hf G hG
    obtain ⟨a, G', b, c⟩ := ih flatF.nil G hG
    exact ⟨flatF.append a flatF.one, G', b, .callSusp c⟩
  | yield => exact fun _ G hG => ⟨flatF.nil, G, hG, .yield⟩
  | resumeFresh hg _ hq _ ih1 ih2 =>
    intro hf G hG
    rcases hG.at hg with ⟨x, _, hs, z1, z⟩ | ⟨hn, z, _⟩
    · cases x <;> cases z1 <;> cases hs
    · obtain ⟨a1, G1, b1, c1⟩ := ih1 flatF.nil _ (hG.set hn trivial)
      obtain ⟨a, G', b, c⟩ := ih2 flatF.nil _ (b1.set hn a1.gen)
      exact ⟨a, G', b, .resumeFresh z c1 hq c⟩
  | resumeSuspended hg h1 hq _ ih1 ih2 =>
    intro hf G hG
    rcases hG.at hg with ⟨x, _, hs, z1, z⟩ | ⟨hn, z, fl⟩
    · cases x with
      | suspended kx lx cx px fx clx =>
        simp only [pois, GenState.suspended.injEq] at z1
        obtain ⟨rfl, _⟩ := z1
        exact (no_unsupported h1).elim
      | _ => cases hs
    · obtain ⟨a1, G1, b1, c1⟩ := ih1 fl _ (hG.set hn trivial)
      obtain ⟨a, G', b, c⟩ := ih2 flatF.nil _ (b1.set hn a1.gen)
      exact ⟨a, G', b, .resumeSuspended z c1 hq c⟩
  | resumeJustStarted hg hv _ ih =>
    intro hf G hG
    obtain ⟨a, G', b, c⟩ := ih hf G hG
    rcases hG.at hg with ⟨x, _, hs, z1, z⟩ | ⟨hn, z, _⟩
    · cases x <;> cases z1 <;> cases hs
    · exact ⟨a, G', b, .resumeJustStarted z hv c⟩
  | resumeThrowFresh hg _ ih =>
    intro hf G hG
    rcases hG.at hg with ⟨x, _, hs, z1, z⟩ | ⟨hn, z, _⟩
    · cases x <;> cases z1 <;> cases hs
    · obtain ⟨a, G', b, c⟩ := ih hf _ (hG.set hn trivial)
      exact ⟨a, G', b, .resumeThrowFresh z c⟩
  | resumeRunning hg _ ih =>
    intro hf G hG
    obtain ⟨a, G', b, c⟩ := ih hf G hG
    rcases hG.at hg with ⟨x, _, hs, z1, z⟩ | ⟨hn, z, _⟩
    · cases x <;> cases z1 <;> cases hs
    · exact ⟨a, G', b, .resumeRunning z c⟩
  | resumeFinished hg _ ih =>
    intro hf G hG
    obtain ⟨a, G', b, c⟩ := ih hf G hG
    rcases hG.at hg with ⟨x, _, hs, z1, z⟩ | ⟨hn, z, _⟩
    · cases x <;> cases z1 <;> cases hs
    · exact ⟨a, G', b, .resumeFinished z c⟩
  | segRet _ _ ih1 ih2 =>
    intro hf G hG
    obtain ⟨_, G1, b1, c1⟩ := ih1 flatF.nil G hG
    obtain ⟨a, G', b, c⟩ := ih2 hf.tail G1 b1
    exact ⟨a, G', b, .segRet c1 c⟩
  | segGen _ _ _ _ => exact fun hf => absurd hf (by simp [flatF, splitAtGen])
  | segSuspOut hsp _ ih =>
    intro hf G hG
    obtain ⟨a, G', b, c⟩ := ih flatF.nil G hG
    exact ⟨flatF.append a hf, G', b, .segSuspOut hsp c⟩
  | segSuspGen hsp _ _ _ _ _ => exact fun hf => absurd hsp (by rw [hf]; exact fun h => nomatch h)
/-- the wakings that do not reach a sleeper -/
theorem wakes_sim {M : Model} {G0 : Array GenState} {Γ : PySem.Ctx} {p : Pos} {g : Nat} {r : Resume} {s s' : Shared} {res : GenResult} (h : Wakes M Γ p g r s res s') :
    ∀ G, Sim G0 s.gens G → ∃ G', Sim G0 s'.gens G' ∧ Wakes M Γ p g r (wG s G) res (wG s' G') := by
  intro G hG
  unfold Wakes at h
  split at h
  · exact h.elim
  · rename_i c hg
    rcases hG.at hg with ⟨x, _, hs, z1, z⟩ | ⟨hn, z, fl⟩
    · cases x <;> cases z1 <;> cases hs
    · split at h
      · obtain ⟨e1, s1, hr, hq, rfl, rfl⟩ := h
        obtain ⟨a1, G1, b1, c1⟩ := runs_sim hr flatF.nil _ (hG.set hn trivial)
        refine ⟨_, b1.set hn a1.gen, ?_⟩
        unfold Wakes
        rw [show (wG s G).gens[g]? = _ from z]
        exact ⟨e1, _, c1, hq, rfl, rfl⟩
      · obtain ⟨rfl, rfl⟩ := h
        refine ⟨G, hG, ?_⟩
        rename_i hne
        have z' : (wG s' G).gens[g]? = _ := z
        unfold Wakes
        rw [z']
        rename_i v
        cases v <;> first | exact (hne rfl).elim | exact ⟨rfl, rfl⟩
      · obtain ⟨rfl, rfl⟩ := h
        refine ⟨_, hG.set hn trivial, ?_⟩
        unfold Wakes
        rw [show (wG s G).gens[g]? = _ from z]
        exact ⟨rfl, rfl⟩
  · rename_i k0 l0 c0 p0 fs0 cl0 hg
    obtain ⟨e1, s1, hr, hq, rfl, rfl⟩ := h
    rcases hG.at hg with ⟨x, _, hs, z1, z⟩ | ⟨hn, z, fl⟩
    · cases x with
      | suspended kx lx cx px fx clx =>
        simp only [pois, GenState.suspended.injEq] at z1
        obtain ⟨rfl, _⟩ := z1
        exact (no_unsupported hr).elim
      | _ => cases hs
    · obtain ⟨a1, G1, b1, c1⟩ := runs_sim hr fl _ (hG.set hn trivial)
      refine ⟨_, b1.set hn a1.gen, ?_⟩
      unfold Wakes
      rw [show (wG s G).gens[g]? = _ from z]
      exact ⟨e1, _, c1, hq, rfl, rfl⟩
  · rename_i hg
    obtain ⟨rfl, rfl⟩ := h
    rcases hG.at hg with ⟨x, _, hs, z1, z⟩ | ⟨hn, z, fl⟩
    · cases x <;> cases z1 <;> cases hs
    · refine ⟨G, hG, ?_⟩
      unfold Wakes
      rw [show (wG s' G).gens[g]? = _ from z]
      exact ⟨rfl, rfl⟩
  · rename_i hg
    obtain ⟨rfl, rfl⟩ := h
    rcases hG.at hg with ⟨x, _, hs, z1, z⟩ | ⟨hn, z, fl⟩
    · cases x <;> cases z1 <;> cases hs
    · refine ⟨G, hG, ?_⟩
      unfold Wakes
      rw [show (wG s' G).gens[g]? = _ from z]
      exact ⟨rfl, rfl⟩

theorem wp_sim {α : Type} (M : Model) (Γ : PySem.Ctx) (G0 : Array GenState) (t : Sem α) : ∀ (Q : α → Pos → Shared → Prop) (E : Value → Pos → Shared → Prop) (p : Pos) (s : Shared) (G : Array GenState), Sim G0 s.gens G → wp M Γ t Q E p s →
    wp M Γ t (fun a p' s' => ∃ s1, Sim G0 s1.gens s'.gens ∧ s' = wG s1 s'.gens ∧ Q a p' s1) (fun e p' s' => ∃ s1, Sim G0 s1.gens s'.gens ∧ s' = wG s1 s'.gens ∧ E e p' s1) p (wG s G) := by
  induction t with
  | pure a => intro Q E p s G hG h; exact ⟨s, hG, rfl, h⟩
  | raise e => intro Q E p s G hG h; exact ⟨s, hG, rfl, h⟩
  | unsupported _ => intro Q E p s G _ h; exact h
  | finish _ => intro Q E p s G _ h; exact h
  | rule _ k ih => intro Q E p s G hG h; exact ih () Q E p s G hG h
  | «at» p' k ih => intro Q E p s G hG h; exact ih () Q E p' s G hG h
  | load a _ k ih => intro Q E p s G hG h; obtain ⟨o, ho, h⟩ := h; exact ⟨o, ho, ih o Q E p s G hG h⟩
  | update a _ f k ih => intro Q E p s G hG h; exact ⟨h.1, ih () Q E p { s with heap := s.heap.update a f } G hG h.2⟩
  | loadIfAlive a k ih => intro Q E p s G hG h; exact ih _ Q E p s G hG h
  | point _ k ih => intro Q E p s G hG h; exact ih () Q E p s G hG h
  | register _ _ => intro Q E p s G _ h; exact h
  | alloc o k ih => intro Q E p s G hG h; exact ih _ Q E p { s with heap := s.heap.push o } G hG h
  | fresh k ih => intro Q E p s G hG h; exact ih _ Q E p { s with toks := s.toks + 1 } G hG h
  | ask k ih => intro Q E p s G hG h; exact ih _ Q E p s G hG h
  | choose src m k ih => intro Q E p s G hG h; exact ⟨h.1, ih _ Q E p { s with drawn := s.drawn.bump src } G hG h.2⟩
  | os q _ k ih => intro Q E p s G hG h; exact ih _ Q E p { s with os := (Os.step s.os q).1 } G hG h
  | call c hd _ _ k ih =>
    intro Q E p s G hG h
    obtain ⟨r, s', hr, h⟩ := h
    obtain ⟨_, G', b, c'⟩ := runs_sim hr flatF.nil G hG
    exact ⟨r, _, c', ih r Q E p s' G' b h⟩
  | handled own k ih => intro Q E p s G hG h; exact ih _ Q E p s G hG h
  | genState g k ih =>
    intro Q E p s G hG h
    obtain ⟨st, hs, h⟩ := h
    have h2 := ih _ Q E p s G hG h
    rcases hG.at hs with ⟨x, _, _, rfl, z⟩ | ⟨_, z, _⟩
    · rw [pois_seen] at h2
      exact ⟨x, z, h2⟩
    · exact ⟨st, z, h2⟩
  | newGen c k ih =>
    intro Q E p s G hG h
    have h2 := ih _ Q E p { s with gens := s.gens.push (.fresh c) } _ (hG.push (y := .fresh c) trivial) h
    show wp M Γ (k (wG s G).gens.size) _ _ p _
    rw [show (wG s G).gens.size = _ from hG.size.symm]
    exact h2
  | resume g r _ k ih =>
    intro Q E p s G hG h
    obtain ⟨res, s', hw, h⟩ := h
    obtain ⟨G', b, c'⟩ := wakes_sim hw G hG
    exact ⟨res, _, c', ih res Q E p s' G' b h⟩
  | yield _ _ _ _ => intro Q E p s G _ h; exact h
  | stack k ih => intro Q E p s G hG h; exact ih _ Q E p s G hG h
  | fork _ _ => intro Q E p s G _ h; exact h
  | thread k ih => intro Q E p s G hG h; exact ih _ Q E p s G hG h
  | await _ _ _ _ _ => intro Q E p s G _ h; exact h

/-- all that sleep keep sleeping, whatever code runs that is proved for any state of the sleepers -/
theorem wpAny_asleep {α : Type} {M : Model} {A : Around} {s : Shared} {t : Sem α} {Q : α → Shared → Prop} {E : Value → Shared → Prop}
    (h : wpAny M A t (fun a s1 => ∀ G, Sim s.gens s1.gens G → Q a (wG s1 G)) (fun e s1 => ∀ G, Sim s.gens s1.gens G → E e (wG s1 G)) (wG s (s.gens.map pois))) : wpAny M A t Q E s :=
  wpAny_mono (fun Γ p hΓ => wp_sim M Γ s.gens t _ _ p (wG s (s.gens.map pois)) s.gens Sim.start (h Γ p hΓ) :
      wpAny M A t (fun a s' => ∃ s1, Sim s.gens s1.gens s'.gens ∧ s' = wG s1 s'.gens ∧ ∀ G, Sim s.gens s1.gens G → Q a (wG s1 G)) (fun e s' => ∃ s1, Sim s.gens s1.gens s'.gens ∧ s' = wG s1 s'.gens ∧ ∀ G, Sim s.gens s1.gens G → E e (wG s1 G)) s)
    (fun a s' ⟨s1, h1, h2, h3⟩ => by rw [h2]; exact h3 _ h1) fun e s' ⟨s1, h1, h2, h3⟩ => by rw [h2]; exact h3 _ h1
end Pf
end
section
set_option maxRecDepth 100000
set_option maxHeartbeats 1000000
namespace Pf
open PySem
open Sem (wp)

/-- an exception leaves a loop's code -/
abbrev noted (env : Env) (e : Value) : Sem PySem.Fin := (do noteFrame e env; theTreesLotGoes e : Sem Unit).wrap (fun _ => .raise e) .raise id id
abbrev forNext (target : Expr) (it : Value) (body orelse : List Stmt) (env : Env) (f : Flow) : Sem PySem.Fin := match f with
  | .next | .cont => .pure (.again (.forLoop target it body orelse env))
  | .brk => .pure (.done .next)
  | .ret v => .pure (.done (.ret v))

section
variable {M : Model} {A : Around} {R : GenEnd} {Y : Protocol} {n : Nat} {s0 : Shared} {c : Code} {fs : List Frame} {s : Shared} {env : Env}
  {K : Flow → Sem PySem.Fin} {H : Value → Sem PySem.Fin} {gd : Bool → Bool} {lv : List Value → List Value}
theorem seg_For {target iter : Expr} {body orelse : List Stmt} {pos : Pos} (hs : ∀ x, foldedSetIterable iter env x = pure x)
    (h : wpAny M (A.over c fs) (eval iter env) (fun v s1 => wpAny M (A.over c fs) (pyIter v) (fun it s2 => ∀ p, Seg M A R Y n s0 (.forLoop target it body orelse env) (M.den (.forLoop target it body orelse env))
      (.ret (fun r => ((match r with | .ok f => (.pure f : Sem Flow) | .error e => .raise e).onRaise (L2.cameBack env)).wrap K H gd lv) none (gd false) (lv []) c p [] :: fs) s2)
      (fun x s' => Seg M A R Y n s0 c (H x) fs s') s1) (fun x s' => Seg M A R Y n s0 c (H x) fs s') s) :
    Seg M A R Y n s0 c ((exec (.For target iter body orelse pos) env).wrap K H gd lv) fs s := by
  rw [exec_For]
  refine seg_bind_wrap (wpAny_standAt ?_)
  refine seg_bind_wrap (wpAny_mono h (fun v s1 h1 => ?_) fun _ _ q => q)
  refine seg_bind_wrap (wpAny_of_eq (hs v) ?_)
  refine seg_bind_wrap (wpAny_standAt ?_)
  refine seg_bind_wrap (wpAny_holding (wpAny_mono h1 (fun it s2 h2 => ?_) fun _ _ q => q))
  exact seg_call h2
end

section
variable {prog : Program} {w : World} {A : Around} {R : GenEnd} {Y : Protocol} {n : Nat} {s0 : Shared} {fs : List Frame} {s : Shared} {env : Env}
theorem seg_forLoop {target : Expr} {it : Value} {body orelse : List Stmt}
    (h : wpAny (model prog w) (A.over (.forLoop target it body orelse env) fs) (pyNext it) (fun r s1 => match r with
        | none => Seg (model prog w) A R Y n s0 (.block orelse env) ((model prog w).den (.block orelse env)) fs s1
        | some v => wpAny (model prog w) (A.over (.forLoop target it body orelse env) fs) (letOwnedTupleGo target it v) (fun _ s2 =>
            wpAny (model prog w) (A.over (.forLoop target it body orelse env) fs) (assign target env v) (fun _ s3 =>
              Seg (model prog w) A R Y n s0 (.forLoop target it body orelse env) ((execs body env).wrap (forNext target it body orelse env) (noted env) id id) fs s3)
              (fun x s' => Seg (model prog w) A R Y n s0 (.forLoop target it body orelse env) (noted env x) fs s') s2)
            (fun x s' => Seg (model prog w) A R Y n s0 (.forLoop target it body orelse env) (noted env x) fs s') s1)
      (fun x s' => Seg (model prog w) A R Y n s0 (.forLoop target it body orelse env) (noted env x) fs s') s) :
    Seg (model prog w) A R Y n s0 (.forLoop target it body orelse env) ((model prog w).den (.forLoop target it body orelse env)) fs s := by
  show Seg _ A R Y n s0 _ ((forTurn target it body orelse env).onRaise (fun x => do noteFrame x env; theTreesLotGoes x)) fs s
  have hw : ∀ m : Sem PySem.Fin, m.onRaise (fun x => do noteFrame x env; theTreesLotGoes x) = m.wrap .pure (noted env) id id := fun m => by
    rw [Sem.onRaise_eq_wrap]
    exact Sem.wrap_congr m _ _ (fun _ => rfl) fun e => by rw [Sem.bind_eq_wrap]
  rw [hw]
  unfold forTurn
  refine seg_bind_wrap (wpAny_standAt ?_)
  refine seg_bind_wrap (wpAny_onRaise (wpAny_mono h (fun r s1 h1 => ?_) fun x s' hx => wpAny_standAt hx))
  cases r with
  | none => exact seg_again rfl h1
  | some v =>
    refine seg_bind_wrap (wpAny_mono h1 (fun _ s2 h2 => ?_) fun _ _ q => q)
    refine seg_bind_wrap (wpAny_mono h2 (fun _ s3 h3 => ?_) fun _ _ q => q)
    rw [Sem.bind_eq_wrap', Sem.wrap_wrap]
    refine Eq.mp (congrArg (fun t => Seg (model prog w) A R Y n s0 (.forLoop target it body orelse env) t fs s3) ?_) h3
    refine Sem.wrap_congr (execs body env) _ _ (fun f => ?_) (fun e => rfl)
    cases f <;> rfl
/-- no else -/
theorem seg_block0 {A : Around} {fs : List Frame} (h : Seg (model prog w) A R Y n s0 (.block [] env) (.pure (.done .next)) fs s) : Seg (model prog w) A R Y n s0 (.block [] env) ((model prog w).den (.block [] env)) fs s := h
end
end Pf
end
section
set_option maxRecDepth 100000
set_option maxHeartbeats 1000000
namespace Pf
open PySem
open Sem (wp)

structure Wk (Th : Type) where
  /-- its end -/
  R : Th → Result → Shared → Prop
  /-- it hands out v; it may be woken again, with another ghost -/
  Y : Th → Value → Shared → (Th → Shared → Prop) → Prop

section
variable {Th : Type}
def GEndOk (P : Wk Th) (nxt : Th → Code → Sem PySem.Fin → List Frame → Shared → Prop) (t : Th) (e : End) (s' : Shared) : Prop := match e with
  | .ret r => P.R t r s'
  | .susp v g l k c p fs => (End.susp v g l k c p fs).quiet = true ∧ P.Y t v s' fun t' s'' => nxt t' c (k (.send .none)) fs s''
def GSeg (M : Model) (A : Around) (P : Wk Th) : Nat → Th → Code → Sem PySem.Fin → List Frame → Shared → Prop
  | 0 => fun t c m fs s => ∀ Γ p, Γ.code = c → Γ.Woken A → ∃ e s', Runs M Γ p m fs s e s' ∧ GEndOk P (fun _ _ _ _ _ => False) t e s'
  | n + 1 => fun t c m fs s => ∀ Γ p, Γ.code = c → Γ.Woken A → ∃ e s', Runs M Γ p m fs s e s' ∧ GEndOk P (fun t' c' m' fs' s'' => GSeg M A P n t' c' m' fs' s'') t e s'
def GNext (M : Model) (A : Around) (P : Wk Th) : Nat → Th → Code → Sem PySem.Fin → List Frame → Shared → Prop
  | 0 => fun _ _ _ _ _ => False
  | n + 1 => fun t c m fs s => GSeg M A P n t c m fs s
theorem gseg_iff {M : Model} {A : Around} {P : Wk Th} {n : Nat} {t : Th} {c : Code} {m : Sem PySem.Fin} {fs : List Frame} {s : Shared} :
    GSeg M A P n t c m fs s ↔ ∀ Γ p, Γ.code = c → Γ.Woken A → ∃ e s', Runs M Γ p m fs s e s' ∧ GEndOk P (GNext M A P n) t e s' := by
  cases n <;> rfl

section
variable {M : Model} {A : Around} {P : Wk Th} {n : Nat} {t : Th} {c : Code} {fs : List Frame} {s : Shared}
theorem gseg_wrap {α : Type} {m : Sem α} {K : α → Sem PySem.Fin} {H : Value → Sem PySem.Fin} {gd : Bool → Bool} {lv : List Value → List Value}
    (h : wpAny M (A.over c fs) m (fun a s' => GSeg M A P n t c (K a) fs s') (fun x s' => GSeg M A P n t c (H x) fs s') s) : GSeg M A P n t c (m.wrap K H gd lv) fs s := by
  rw [gseg_iff]
  rintro Γ p rfl hΓ
  exact runs_wrap_of_wp K H gd lv m (h (Γ.over fs) p (hΓ.over fs)) (fun a p' s' h' => gseg_iff.mp h' Γ p' rfl hΓ) (fun x p' s' h' => gseg_iff.mp h' Γ p' rfl hΓ)
theorem gseg_bind {α : Type} {m : Sem α} {K : α → Sem PySem.Fin}
    (h : wpAny M (A.over c fs) m (fun a s' => GSeg M A P n t c (K a) fs s') (fun x s' => GSeg M A P n t c (.raise x) fs s') s) : GSeg M A P n t c (m >>= K) fs s := by
  rw [Sem.bind_eq_wrap']; exact gseg_wrap h
theorem gseg_bind_wrap {α β : Type} {m : Sem α} {K : α → Sem β} {K' : β → Sem PySem.Fin} {H' : Value → Sem PySem.Fin} {gd : Bool → Bool} {lv : List Value → List Value}
    (h : wpAny M (A.over c fs) m (fun a s' => GSeg M A P n t c ((K a).wrap K' H' gd lv) fs s') (fun x s' => GSeg M A P n t c (H' x) fs s') s) : GSeg M A P n t c ((m >>= K).wrap K' H' gd lv) fs s := by
  rw [Sem.bind_eq_wrap', Sem.wrap_wrap]; exact gseg_wrap h
theorem gseg_point {l : List Value} {k : Unit → Sem PySem.Fin} (h : GSeg M A P n t c (k ()) fs s) : GSeg M A P n t c (.point l k) fs s :=
  gseg_wrap (m := point) (K := k) (H := .raise) (gd := id) (lv := fun _ => l) (wpAny_point h)
theorem gseg_at {p' : Pos} {k : Unit → Sem PySem.Fin} (h : GSeg M A P n t c (k ()) fs s) : GSeg M A P n t c (.at p' k) fs s :=
  gseg_wrap (m := standAt p') (K := k) (H := .raise) (gd := id) (lv := id) (wpAny_standAt h)
theorem gseg_call {c' : Code} {h : Option Value} {g : Bool} {l : List Value} {k : Result → Sem PySem.Fin} (hc : ∀ p, GSeg M A P n t c' (M.den c') (.ret k h g l c p [] :: fs) s) : GSeg M A P n t c (.call c' h g l k) fs s := by
  rw [gseg_iff]
  rintro Γ p rfl hΓ
  obtain ⟨e, s', hr, he⟩ := gseg_iff.mp (hc p) (Γ.goto c') p rfl (hΓ.goto c')
  exact ⟨e, s', runs_call_seg hr, he⟩
theorem gseg_leaf {k : Result → Sem PySem.Fin} {h : Option Value} {g : Bool} {l kp : List Value} {c₁ : Code} {p₁ : Pos} (r : Result) (hk : GSeg M A P n t c₁ (k r) fs s) : GSeg M A P n t c (leafOf r) (.ret k h g l c₁ p₁ kp :: fs) s := by
  rw [gseg_iff]
  rintro Γ p rfl hΓ
  obtain ⟨e, s', hr, he⟩ := gseg_iff.mp hk (Γ.goto c₁) p₁ rfl (hΓ.goto c₁)
  exact ⟨e, s', Runs.pop r hr, he⟩
theorem gseg_again {c' : Code} (hq : c'.quiet = true) (hc : GSeg M A P n t c' (M.den c') fs s) : GSeg M A P n t c (.pure (.again c')) fs s := by
  rw [gseg_iff]
  rintro Γ p rfl hΓ
  obtain ⟨e, s', hr, he⟩ := gseg_iff.mp hc (Γ.goto c') p rfl (hΓ.goto c')
  exact ⟨e, s', Runs.head (c₁ := c') (fun _ _ x => .again hq x) hr, he⟩
theorem gseg_end (r : Result) (h : P.R t r s) : GSeg M A P n t c (leafOf r) [] s := by
  rw [gseg_iff]
  rintro Γ p rfl _
  exact ⟨.ret r, s, Runs.leaf r, h⟩
theorem gseg_yield {v : Value} {g : Bool} {l : List Value} {k : Resume → Sem PySem.Fin} (hfs : splitAtGen fs = none) (hg : g = false) (hfg : fs.any Frame.guarded = false)
    (h : P.Y t v s fun t' s'' => GSeg M A P n t' c (k (.send .none)) fs s'') : GSeg M A P (n + 1) t c (.yield v g l k) fs s := by
  rintro Γ p rfl _
  exact ⟨_, s, Runs.yield' fs hfs, by simp [End.quiet, hg, hfg], h⟩

variable {env : Env} {K : Flow → Sem PySem.Fin} {H : Value → Sem PySem.Fin} {gd : Bool → Bool} {lv : List Value → List Value}
theorem gseg_execs_cons {st : Stmt} {rest : List Stmt}
    (h : GSeg M A P n t c ((exec st env).wrap (fun f => match f with | .next => (execs rest env).wrap K H gd lv | f => K f) H gd lv) fs s) : GSeg M A P n t c ((execs (st :: rest) env).wrap K H gd lv) fs s := by
  rw [execs_cons_wrap]; exact h
theorem gseg_Yield {e : Expr} {yp pos : Pos} (hfs : splitAtGen fs = none) (hgd : gd false = false) (hfg : fs.any Frame.guarded = false)
    (h : wpAny M (A.over c fs) (eval e env) (fun v s' => P.Y t v s' fun t' s'' => GSeg M A P n t' c (K .next) fs s'') (fun x s' => GSeg M A P (n + 1) t c (H x) fs s') s)
    (hco : env.scope.isCoroutine = false := by rfl) (hi : interactive env = false := by rfl) : GSeg M A P (n + 1) t c ((exec (.Expr (.Yield (some e) yp) pos) env).wrap K H gd lv) fs s := by
  rw [exec_Expr env _ pos hi rfl]
  show GSeg M A P (n + 1) t c (.at pos fun _ => ((eval e env >>= fun v => (standAt yp >>= fun _ => yieldOut env v)) >>= fun x => dropValue (.Yield (some e) yp) pos x).wrap K H gd lv) fs s
  have hy : ∀ v, yieldOut env v = yieldValue v := fun v => by simp only [yieldOut, hco, Bool.false_eq_true, if_false]
  simp only [hy]
  refine gseg_at ?_
  rw [Sem.bind_eq_wrap', Sem.bind_eq_wrap', Sem.wrap_wrap, Sem.wrap_wrap]
  refine gseg_wrap (wpAny_mono h (fun v s' h' => ?_) fun _ _ x => x)
  exact gseg_at (gseg_yield hfs hgd hfg h')
theorem gseg_For {target iter : Expr} {body orelse : List Stmt} {pos : Pos} (hs : ∀ x, foldedSetIterable iter env x = pure x)
    (h : wpAny M (A.over c fs) (eval iter env) (fun v s1 => wpAny M (A.over c fs) (pyIter v) (fun it s2 => ∀ p, GSeg M A P n t (.forLoop target it body orelse env) (M.den (.forLoop target it body orelse env))
      (.ret (fun r => ((match r with | .ok f => (.pure f : Sem Flow) | .error e => .raise e).onRaise (L2.cameBack env)).wrap K H gd lv) none (gd false) (lv []) c p [] :: fs) s2)
      (fun x s' => GSeg M A P n t c (H x) fs s') s1) (fun x s' => GSeg M A P n t c (H x) fs s') s) :
    GSeg M A P n t c ((exec (.For target iter body orelse pos) env).wrap K H gd lv) fs s := by
  rw [exec_For]
  refine gseg_bind_wrap (wpAny_standAt ?_)
  refine gseg_bind_wrap (wpAny_mono h (fun v s1 h1 => ?_) fun _ _ q => q)
  refine gseg_bind_wrap (wpAny_of_eq (hs v) ?_)
  refine gseg_bind_wrap (wpAny_standAt ?_)
  refine gseg_bind_wrap (wpAny_holding (wpAny_mono h1 (fun it s2 h2 => ?_) fun _ _ q => q))
  exact gseg_call h2
end
section
variable {prog : Program} {w : World} {A : Around} {P : Wk Th} {n : Nat} {t : Th} {fs : List Frame} {s : Shared} {env : Env}
theorem gseg_forLoop {target : Expr} {it : Value} {body orelse : List Stmt}
    (h : wpAny (model prog w) (A.over (.forLoop target it body orelse env) fs) (pyNext it) (fun r s1 => match r with
        | none => GSeg (model prog w) A P n t (.block orelse env) ((model prog w).den (.block orelse env)) fs s1
        | some v => wpAny (model prog w) (A.over (.forLoop target it body orelse env) fs) (letOwnedTupleGo target it v) (fun _ s2 =>
            wpAny (model prog w) (A.over (.forLoop target it body orelse env) fs) (assign target env v) (fun _ s3 =>
              GSeg (model prog w) A P n t (.forLoop target it body orelse env) ((execs body env).wrap (forNext target it body orelse env) (noted env) id id) fs s3)
              (fun x s' => GSeg (model prog w) A P n t (.forLoop target it body orelse env) (noted env x) fs s') s2)
            (fun x s' => GSeg (model prog w) A P n t (.forLoop target it body orelse env) (noted env x) fs s') s1)
      (fun x s' => GSeg (model prog w) A P n t (.forLoop target it body orelse env) (noted env x) fs s') s) :
    GSeg (model prog w) A P n t (.forLoop target it body orelse env) ((model prog w).den (.forLoop target it body orelse env)) fs s := by
  show GSeg _ A P n t _ ((forTurn target it body orelse env).onRaise (fun x => do noteFrame x env; theTreesLotGoes x)) fs s
  have hw : ∀ m : Sem PySem.Fin, m.onRaise (fun x => do noteFrame x env; theTreesLotGoes x) = m.wrap .pure (noted env) id id := fun m => by
    rw [Sem.onRaise_eq_wrap]
    exact Sem.wrap_congr m _ _ (fun _ => rfl) fun e => by rw [Sem.bind_eq_wrap]
  rw [hw]
  unfold forTurn
  refine gseg_bind_wrap (wpAny_standAt ?_)
  refine gseg_bind_wrap (wpAny_onRaise (wpAny_mono h (fun r s1 h1 => ?_) fun x s' hx => wpAny_standAt hx))
  cases r with
  | none => exact gseg_again rfl h1
  | some v =>
    refine gseg_bind_wrap (wpAny_mono h1 (fun _ s2 h2 => ?_) fun _ _ q => q)
    refine gseg_bind_wrap (wpAny_mono h2 (fun _ s3 h3 => ?_) fun _ _ q => q)
    rw [Sem.bind_eq_wrap', Sem.wrap_wrap]
    refine Eq.mp (congrArg (fun m => GSeg (model prog w) A P n t (.forLoop target it body orelse env) m fs s3) ?_) h3
    refine Sem.wrap_congr (execs body env) _ _ (fun f => ?_) (fun e => rfl)
    cases f <;> rfl
theorem gseg_func {body : List Stmt}
    (h : GSeg (model prog w) A P n t (.func body env) ((execs body env).wrap (fun f => .pure (.done (.ret (match f with | .ret v => v | _ => .none)))) (fun e => (leaving env e).wrap (fun _ => .raise e) .raise id id) id id) fs s) :
    GSeg (model prog w) A P n t (.func body env) ((model prog w).den (.func body env)) fs s := by
  show GSeg _ A P n t _ (.point [] fun _ => ((execs body env).onRaise (leaving env)) >>= _) fs s
  refine gseg_point ?_
  rw [Sem.onRaise_eq_wrap, Sem.bind_eq_wrap', Sem.wrap_wrap]
  rw [Sem.wrap_congr (execs body env) _ _ (K' := fun f => .pure (.done (.ret (match f with | .ret v => v | _ => .none))))
    (H' := fun e => (leaving env e).wrap (fun _ => .raise e) .raise id id) (fun f => by cases f <;> rfl)
    (fun e => by rw [Sem.bind_eq_wrap, Sem.wrap_wrap]; rfl)]
  exact h
end
end
end Pf
end
section
set_option maxRecDepth 100000
set_option maxHeartbeats 1000000
namespace Pf
open PySem PySem.Spec PyProof.Rows GenW
open Sem (wp)

section
variable {Th : Type}
def GGoes (M : Model) (A : Around) (P : Wk Th) (n : Nat) (t : Th) (gs : GenState) (s : Shared) : Prop := match gs with
  | .fresh c => GSeg M A P n t c (M.den c) [] s
  | .suspended k _ c _ fs _ => GSeg M A P n t c (k (.send .none)) fs s
  | _ => False
/-- what it takes to wake it again -/
def Kap (M : Model) (A : Around) (P : Wk Th) (n : Nat) (gs : GenState) (t' : Th) (s'' : Shared) : Prop := match n with
  | 0 => False
  | m + 1 => GGoes M A P m t' gs s''

theorem runs_size {M : Model} {Γ : PySem.Ctx} {p : Pos} {t : Sem PySem.Fin} {fs : List Frame} {s s' : Shared} {e : End} (h : Runs M Γ p t fs s e s') : s.gens.size ≤ s'.gens.size := by
  have set : ∀ (s : Shared) (g : Nat) (x : GenState), (s.setGen g x).gens.size = s.gens.size := fun s g x => Array.size_setIfInBounds ..
  induction h with
  | newGen _ ih => exact Nat.le_trans (by rw [Array.size_push]; omega) ih
  | call _ _ ih1 ih2 => exact Nat.le_trans ih1 ih2
  | callSusp _ ih => exact ih
  | resumeFresh hg _ hq _ ih1 ih2 => rw [set] at ih1 ih2; exact Nat.le_trans ih1 ih2
  | resumeSuspended hg h1 hq _ ih1 ih2 => rw [set] at ih1 ih2; exact Nat.le_trans ih1 ih2
  | resumeThrowFresh hg _ ih => rw [set] at ih; exact ih
  | segRet _ _ ih1 ih2 => exact Nat.le_trans ih1 ih2
  | segGen _ _ ih1 ih2 => first | exact Nat.le_trans ih1 ih2 | (rw [set] at ih1 ih2; exact Nat.le_trans ih1 ih2) | (rw [set] at ih2; exact Nat.le_trans ih1 ih2)
  | segSuspOut hsp _ ih => exact ih
  | segSuspGen hsp _ _ _ ih1 ih2 => first | exact Nat.le_trans ih1 ih2 | (rw [set] at ih1 ih2; exact Nat.le_trans ih1 ih2) | (rw [set] at ih2; exact Nat.le_trans ih1 ih2)
  | _ => first | exact Nat.le_refl _ | assumption
theorem wpAny_resumeG {M : Model} {A : Around} {P : Wk Th} {n : Nat} {t : Th} {E : Value → Shared → Prop} {s : Shared} {g : Nat} {gs : GenState} {l : List Value} {α : Type} {k : GenResult → Sem α} {Q : α → Shared → Prop} (hg : s.gens[g]? = some gs)
    (hgo : GGoes M A P n t gs (s.setGen g .running))
    (hR : ∀ x s₁, P.R t x s₁ → wpAny M A (k (End.ret x).result) Q E (s₁.setGen g .finished))
    (hY : ∀ v s₁ gs', isSusp gs' = true → gs'.bare = true → g < s₁.gens.size → P.Y t v s₁ (Kap M A P n gs') → wpAny M A (k (.yielded v)) Q E (s₁.setGen g gs')) :
    wpAny M A (.resume g (.send .none) l k) Q E s := by
  intro Γ p hΓ
  rw [Sem.wp_resume]
  have hB : ∀ c, (Γ.wake c p).Woken A := fun c => hΓ.wake c p
  have fin : ∀ e₁ s₁, g < s₁.gens.size → GEndOk P (GNext M A P n) t e₁ s₁ → wp M Γ (k e₁.result) (fun a _ s' => Q a s') (fun e _ s' => E e s') p (s₁.setGen g e₁.genState) := by
    intro e₁ s₁ hsz he
    cases e₁ with
    | ret x => exact hR x s₁ he Γ p hΓ
    | susp v g₀ l₀ k₀ c₀ p₀ fs₀ =>
      obtain ⟨h1, h2⟩ := he
      refine hY v s₁ _ rfl (End.bare_of_quiet h1) hsz ?_ Γ p hΓ
      cases n with
      | zero => exact h2
      | succ m => exact h2
  have hqt : ∀ e₁ s₁, GEndOk P (GNext M A P n) t e₁ s₁ → e₁.quiet = true := by
    intro e₁ s₁ he
    cases e₁ with
    | ret x => rfl
    | susp v g₀ l₀ k₀ c₀ p₀ fs₀ => exact he.1
  have glt : ∀ {s₁ : Shared}, (s.setGen g .running).gens.size ≤ s₁.gens.size → g < s₁.gens.size := fun {s₁} h => by
    have h1 : g < s.gens.size := (Array.getElem?_eq_some_iff.mp hg).1
    have h2 : (s.setGen g .running).gens.size = s.gens.size := Array.size_setIfInBounds ..
    omega
  cases gs with
  | fresh c =>
    obtain ⟨e₁, s₁, hr, he⟩ := gseg_iff.mp hgo (Γ.wake c p) p rfl (hB c)
    exact ⟨_, _, by unfold Wakes; rw [hg]; exact ⟨e₁, s₁, hr, hqt e₁ s₁ he, rfl, rfl⟩, fin e₁ s₁ (glt (runs_size hr)) he⟩
  | suspended k₀ l₀ c₀ p₀ fs₀ cl =>
    obtain ⟨e₁, s₁, hr, he⟩ := gseg_iff.mp hgo (Γ.wake c₀ p) p₀ rfl (hB c₀)
    exact ⟨_, _, by unfold Wakes; rw [hg]; exact ⟨e₁, s₁, hr, hqt e₁ s₁ he, rfl, rfl⟩, fin e₁ s₁ (glt (runs_size hr)) he⟩
  | running => exact hgo.elim
  | finished => exact hgo.elim
end

section
variable {Th : Type} {P : Program} {w : World} {A : Around} {E : Value → Shared → Prop} {s : Shared}
theorem next_genW {a : Addr} {g n : Nat} {gs : GenState} {K : Wk Th} {t : Th} {Q : Option Value → Shared → Prop} (hh : A.handled = none)
    (hl : s.heap.NoLimit) (hroom : A.depth < recursionLimit) (hg : s.heap.IsGen a g) (hgs : s.gens[g]? = some gs)
    (hgo : GGoes (model P w) A.in1 K n t gs (s.setGen g .running))
    (hY : ∀ v s₁ gs', isSusp gs' = true → gs'.bare = true → g < s₁.gens.size → K.Y t v s₁ (Kap (model P w) A.in1 K n gs') → Q (some v) (s₁.setGen g gs'))
    (hR : ∀ r s₁, K.R t r s₁ → (r = .ok (.ret .none) ∨ r = .ok .next) ∧ ∀ h', (∀ b o, s₁.heap.get? b = some o → h'.get? b = some o) → Q none { s₁.setGen g .finished with heap := h' }) :
    wpAny (model P w) A (pyNext (.ref a)) Q E s := by
  unfold pyNext
  refine wpAny_bind (wpAny_attempt (wpAny_callSpecial?_slot (name := Str.ofString "__next__") hg.typeIs slot_gen_next
    (wpAny_call_entry slot_gen_next hg.typeIs entry_gen_next ?_ (args_gen_next _))))
  show wpAny _ A.in1 (Builtin.Generator.genWake (.ref a) (.send .none)) _ _ s
  unfold Builtin.Generator.genWake
  refine wpAny_bind (wpAny_holding (wpAny_genNumber hg (wpAny_bind (wpAny_genState hgs ?_))))
  cases gs with
  | running => exact hgo.elim
  | finished => exact hgo.elim
  | _ =>
    refine wpAny_bind (wpAny_roomToWake hl hroom ?_)
    show wpAny _ A.in1 (.resume g (.send .none) [] _) _ _ s
    refine wpAny_resumeG hgs hgo (fun x s₁ hx => ?_) (fun v s₁ gs' hs hb hz hv => ?_)
    · obtain ⟨hr, hp⟩ := hR x s₁ hx
      have hres : End.result (.ret x) = .returned .none := by
        rcases hr with hr | hr <;> rw [hr] <;> rfl
      first | rw [hres] | simp only [hres]
      show wpAny _ A.in1 (newExc (.type "StopIteration") [] >>= _) _ _ _
      refine wpAny_bind ?_
      simp only [newExc, newTuple]
      refine wpAny_bind (wpAny_newObj_type ?_ (by size_fits))
      refine wpAny_bind (m := firstArgMember _ _) (wpAny_of_eq (a := Value.none) (by first | rfl | (simp only [firstArgMember]; rfl)) ?_)
      refine wpAny_newObj_type ?_ (by size_fits)
      simp only [raiseNew]
      refine wpAny_bind (wpAny_bind (wpAny_handled ?_))
      first | rw [show A.in1.handled = none from hh] | rw [hh]
      refine wpAny_throw ?_
      refine wpAny_bind (wpAny_isInstance (T := "StopIteration") (b := true) ⟨_, Heap.get?_push_size _ rfl, rfl⟩ isSubtype_stop ?_)
      exact wpAny_pure (hp _ fun b o hb => Heap.get?_push_of_some _ (Heap.get?_push_of_some _ hb))
    · exact wpAny_pure ⟨v, rfl, wpAny_pure (hY v s₁ gs' hs hb hz hv)⟩

/-- the state of a sleeper at g -/
theorem sim_sleeper {s s1 : Shared} {G : Array GenState} {g : Nat} {gs : GenState} (h : Sim s.gens s1.gens G) (e : s.gens[g]? = some gs) (hs : isSusp gs = true) : (wG s1 G).gens[g]? = some gs := (h.susp g gs e hs).2
theorem isGen_typ {h : Heap} {a : Addr} {g : Nat} (x : h.IsGen a g) : ∃ o, h.get? a = some o ∧ o.cls = .type "generator" := let ⟨o, _, _, ho, hc, _⟩ := x; ⟨o, ho, hc⟩
theorem let_owned_gen {target : Expr} {a : Addr} {g : Nat} {v : Value} {Q : Unit → Shared → Prop} (hg : s.heap.IsGen a g) (h : Q () s) : wpAny (model P w) A (letOwnedTupleGo target (.ref a) v) Q E s := by
  obtain ⟨o, nm, qn, ho, hc, hd, hsl⟩ := hg
  unfold letOwnedTupleGo
  cases target <;> first | exact wpAny_pure h | skip
  all_goals
    cases v <;> first | exact wpAny_pure h | skip
    refine wpAny_bind (wpAny_load ho ?_)
    rw [hc, hd]
    exact wpAny_pure h

/-- A for over a generator: I: the waker's state between the turns, the sleeper's ghost, what is out;
    the body is shown at any state of the sleepers -/
theorem code_for_gen {Th : Type} {K : Wk Th} {R : Result → Shared → Prop} {target : Expr} {body orelse : List Stmt} {env : Env} {a : Addr} {g : Nat} (hh : A.handled = none) (hroom : A.depth < recursionLimit)
    (I : Nat → Shared → Prop)
    (turn : ∀ n s, I n s → s.heap.NoLimit ∧ s.heap.IsGen a g ∧ ∃ gs t, s.gens[g]? = some gs ∧ GGoes (model P w) A.in1 K n t gs (s.setGen g .running) ∧
      (∀ r s₁, K.R t r s₁ → (r = .ok (.ret .none) ∨ r = .ok .next) ∧ ∀ h', (∀ b o, s₁.heap.get? b = some o → h'.get? b = some o) →
        wpAny (model P w) A (execs orelse env) (fun f s₃ => R (.ok f) s₃) (notedBy (model P w) A env fun e s' => R (.error e) s') { s₁.setGen g .finished with heap := h' }) ∧
      ∀ v s₁ gs', isSusp gs' = true → gs'.bare = true → g < s₁.gens.size → K.Y t v s₁ (Kap (model P w) A.in1 K n gs') → s₁.heap.IsGen a g ∧
        wpAny (model P w) A (assign target env v) (fun _ s₂ => wpAny (model P w) A (execs body env) (fun f s₃ => match f with
            | .next | .cont => ∃ m, m < n ∧ I m s₃
            | .brk => R (.ok .next) s₃
            | .ret v => R (.ok (.ret v)) s₃) (notedBy (model P w) A env fun e s' => R (.error e) s') s₂) (notedBy (model P w) A env fun e s' => R (.error e) s') (s₁.setGen g gs'))
    (n : Nat) (h : I n s) : codeAny (model P w) A (.forLoop target (.ref a) body orelse env) R s := by
  refine codeAny_forLoop_any I (fun n s hI => ?_) n h
  obtain ⟨h1, h2, gs, t, h3, h4, h5, h6⟩ := turn n s hI
  refine next_genW hh h1 hroom h2 h3 h4 (fun v s₁ gs' hs hb hz hv => ?_) fun r s₁ hr => ?_
  · obtain ⟨q1, q2⟩ := h6 v s₁ gs' hs hb hz hv
    exact let_owned_gen (s := s₁.setGen g gs') q1 q2
  · obtain ⟨q1, q2⟩ := h5 r s₁ hr
    exact ⟨q1, q2⟩
end
end Pf
end
section
set_option maxRecDepth 100000
set_option maxHeartbeats 1000000
namespace Pf
open PySem PySem.Spec PyProof.Rows L2 LamX

/-- the waker's ghost: the heap below the generator's frame, what is tracked, what of it the generator leans on, how many items are out -/
structure Gh where
  s0 : Shared
  H0 : Hp
  R : Addr → Prop
  k : Nat
/-- the generator's context at a waking -/
abbrev atG (X : Cx) (s0 : Shared) (H0 : Hp) : Cx := { X with s_0 := s0, H_0 := H0, ex := [], pn := [], xe := fun _ _ => False }
structure GInv (X : Cx) (g : Gh) (ip : List (Addr × Obj)) (sg : L2.St) (H : Hp) (s : Shared) : Prop where
  size : g.s0.heap.objs.size = X.env.locals
  inv : L2.Inv (atG X g.s0 g.H0) ip sg H s
  low : ∀ q ∈ ip, X.env.locals ≤ q.1
/-- the world at a waking: R is leaned on, all else that is tracked is somebody's -/
def wB (B : Hp) (R : Addr → Prop) : Wd := ⟨R, fun a => ¬ R a ∧ ∃ u, B a = some u ∧ NT u, fun _ => none⟩
theorem hrel_wB {G : Gx} {B : Hp} {R : Addr → Prop} (h : ∀ a, R a → ∃ u, B a = some u ∧ NT u) (t : Tabs G.T.tabs B) : HRel G (wB B R) B [] where
  live := fun r a e => by cases e
  all := fun r e => by simp at e
  inj := fun r r' a e => by cases e
  mF := fun r a e => by cases e
  FL := fun a f l => l.1 f
  there := fun a z => by
    rcases z with z | ⟨_, u, e, _⟩
    · obtain ⟨u, e, _⟩ := h a z; rw [e]; simp
    · rw [e]; simp
  ntb := fun a ps e => by
    refine ⟨fun z => ?_, fun z => ?_⟩
    · obtain ⟨u, e2, n⟩ := h a z
      rw [e] at e2; cases e2; exact n _ rfl
    · obtain ⟨_, u, e2, n⟩ := z
      rw [e] at e2; cases e2; exact n _ rfl
  tabs := t

/-- the protocol: the items, one behind the other -/
def GWk (X : Cx) (T : Tb) (items : List D) : Wk Gh where
  R g r s := (r = .ok (.ret .none) ∨ r = .ok .next) ∧ ∃ ip sg H w, GInv X g ip sg H s ∧ Le (wB g.H0 g.R) g.H0 w H ∧ HRel (gx X T) w H [] ∧ g.k = items.length
  Y g v s kap := ∃ x d ip sg H w, RelV x v ∧ GInv X g ip sg H s ∧ Le (wB g.H0 g.R) g.H0 w H ∧ HRel (gx X T) w H [] ∧ items[g.k]? = some d ∧ Rep (gx X T) w H x d ∧
    ∀ g' s', g'.k = g.k + 1 → g'.R = w.F → Le w.noL H w.noL g'.H0 → Tabs T.tabs g'.H0 → GInv X g' ip sg g'.H0 s' → kap g' s'

abbrev GDen := Rho → Option (List D × Rho)
structure GPl (X : Cx) (A : Around) (c : Code) (fs : List Frame) (gd : Bool → Bool) : Prop where
  over : A.over c fs = X.A
  split : splitAtGen fs = none
  guard : fs.any Frame.guarded = false
  gd : gd false = false
/-- the generator's state -/
structure GAt (X : Cx) (T : Tb) (g : Gh) (ip : List (Addr × Obj)) (sg : L2.St) (H : Hp) (s : Shared) (w : Wd) (ρ : Rho) : Prop where
  inv : GInv X g ip sg H s
  le : Le (wB g.H0 g.R) g.H0 w H
  rel : HRel (gx X T) w H []
  sl : SRel (gx X T) (wB g.H0 g.R).L w H ρ sg
abbrev GCont (X : Cx) (T : Tb) (items : List D) (A : Around) (c : Code) (fs : List Frame) (ip : List (Addr × Obj)) (t : Sem PySem.Fin) (w : Wd) (H : Hp) (k' : Nat) (ρ' : Rho) : Prop :=
  ∀ (n : Nat) (g : Gh) (s : Shared) (sg : L2.St) (H' : Hp) (w' : Wd), n + g.k = items.length → g.k = k' → GAt X T g ip sg H' s w' ρ' → Le w.noL H w' H' → GSeg (model X.prog X.w) A (GWk X T items) n g c t fs s
structure GSS (X : Cx) (T : Tb) (st : Stmt) (gd : GDen) : Prop where
  run : ∀ (items : List D) (A : Around) (c : Code) (fs : List Frame) (gdd : Bool → Bool) (lv : List Value → List Value) (K : Flow → Sem PySem.Fin) (J : Value → Sem PySem.Fin) (ip : List (Addr × Obj)) (n : Nat) (g : Gh) (s : Shared) (sg : L2.St) (H : Hp) (w : Wd) (ρ ρ' : Rho) (out : List D),
    GPl X A c fs gdd → GCont X T items A c fs ip (K .next) w H (g.k + out.length) ρ' → n + g.k = items.length → GAt X T g ip sg H s w ρ → gd ρ = some (out, ρ') → (∀ j d, out[j]? = some d → items[g.k + j]? = some d) →
    GSeg (model X.prog X.w) A (GWk X T items) n g c ((exec st X.env).wrap K J gdd lv) fs s
structure GSB (X : Cx) (T : Tb) (st : List Stmt) (gd : GDen) : Prop where
  run : ∀ (items : List D) (A : Around) (c : Code) (fs : List Frame) (gdd : Bool → Bool) (lv : List Value → List Value) (K : Flow → Sem PySem.Fin) (J : Value → Sem PySem.Fin) (ip : List (Addr × Obj)) (n : Nat) (g : Gh) (s : Shared) (sg : L2.St) (H : Hp) (w : Wd) (ρ ρ' : Rho) (out : List D),
    GPl X A c fs gdd → GCont X T items A c fs ip (K .next) w H (g.k + out.length) ρ' → n + g.k = items.length → GAt X T g ip sg H s w ρ → gd ρ = some (out, ρ') → (∀ j d, out[j]? = some d → items[g.k + j]? = some d) →
    GSeg (model X.prog X.w) A (GWk X T items) n g c ((execs st X.env).wrap K J gdd lv) fs s

section
variable {X : Cx} {T : Tb} {st : Stmt} {rest : List Stmt} {pos : Pos} {e : Expr}
abbrev Wn : WX := fun _ _ _ _ => False
theorem Le.noL2 {w w' : Wd} {H H' : Hp} (e : Le w.noL H w' H') : Le w.noL H w'.noL H' := ⟨e.F, fun _ z => z.elim, e.m, e.hF, fun _ _ z => z.elim, e.tup, e.frz⟩
theorem Le.ofNoL {w w' : Wd} {H H' : Hp} (e : Le w.noL H w'.noL H') : Le w.noL H w' H' := ⟨e.F, fun _ z => z.elim, e.m, e.hF, fun _ _ z => z.elim, e.tup, e.frz⟩
theorem Le.noLt {w w1 w2 : Wd} {H H1 H2 : Hp} (a : Le w.noL H w1 H1) (b : Le w1.noL H1 w2 H2) : Le w.noL H w2 H2 := a.noL2.trans b
/-- a plain statement -/
def gPlain (f : SDen) : GDen := fun ρ => match f ρ [] with
  | .ok .next ρ' [] => some ([], ρ')
  | _ => none
theorem gs_ss {f : SDen} (h : ∀ s0 H0, SS (atG X s0 H0) T Wn st f) : GSS X T st (gPlain f) := by
  refine ⟨fun items A c fs gd lv K J ip n g s sg H w ρ ρ' out pl th hn hI hg seg => ?_⟩
  unfold gPlain at hg
  split at hg
  case h_2 => cases hg
  rename_i ρ2 hf
  cases hg
  refine gseg_wrap ?_
  rw [pl.over]
  have run := (h g.s0 g.H0 (w.mid (wB g.H0 g.R)) H).run ip s sg H { nx := fun sg' H' => ∃ w', Le (w.mid (wB g.H0 g.R)) H w' H' ∧ HRel (gx X T) w' H' [] ∧ SRel (gx X T) (wB g.H0 g.R).L w' H' ρ' sg', rt := fun _ _ => False } hI.inv.inv
    ⟨w, ρ, [], hI.sl, hI.rel, Le.ofMid hI.le, by
      rw [hf]
      exact fun w' σ' H' le R S => ⟨w', le, R, S⟩⟩
  refine wpAny_mono run (fun fl s' hs => ?_) fun _ _ x => x.elim
  cases fl with
  | next =>
    obtain ⟨sg', H', I, w', le, R', S'⟩ := hs
    exact th n g s' sg' H' w' hn rfl ⟨⟨hI.inv.size, I, hI.inv.low⟩, (Le.mid hI.le).trans le, R', S'⟩ (le.dropL)
  | brk => obtain ⟨_, _, _, q⟩ := hs; exact q.elim
  | cont => obtain ⟨_, _, _, q⟩ := hs; exact q.elim
  | ret u => obtain ⟨_, _, _, _, _, q⟩ := hs; exact q.elim
theorem gs_nil : GSB X T [] (fun ρ => some ([], ρ)) := by
  refine ⟨fun items A c fs gd lv K J ip n g s sg H w ρ ρ' out pl th hn hI hg seg => ?_⟩
  cases hg
  exact th n g s sg H w hn rfl hI (Le.noL w H)
def gSeq (a b : GDen) : GDen := fun ρ => match a ρ with
  | some (o1, ρ1) => match b ρ1 with
    | some (o2, ρ2) => some (o1 ++ o2, ρ2)
    | none => none
  | none => none
theorem gs_cons {a b : GDen} (ha : GSS X T st a) (hb : GSB X T rest b) : GSB X T (st :: rest) (gSeq a b) := by
  refine ⟨fun items A c fs gd lv K J ip n g s sg H w ρ ρ' out pl th hn hI hg seg => ?_⟩
  unfold gSeq at hg
  split at hg
  case h_2 => cases hg
  rename_i o1 ρ1 e1
  split at hg
  case h_2 => cases hg
  rename_i o2 ρ2 e2
  cases hg
  refine gseg_execs_cons ?_
  refine ha.run items A c fs gd lv _ J ip n g s sg H w ρ ρ1 o1 pl (fun n' g' s' sg' H' w' hn' hk hI' hle => ?_) hn hI e1 fun j d hj => seg j d ?_
  · refine hb.run items A c fs gd lv K J ip n' g' s' sg' H' w' ρ1 ρ' o2 pl (fun n2 g2 s2 sg2 H2 w2 hn2 hk2 hI2 hle2 => th n2 g2 s2 sg2 H2 w2 hn2 ?_ hI2 (hle.noLt hle2)) hn' hI' e2 fun j d hj => ?_
    · rw [hk2, hk, List.length_append]; omega
    · have := seg (o1.length + j) d (by rw [List.getElem?_append_right (by omega)]; simpa using hj)
      rw [hk, Nat.add_assoc]; exact this
  · have hl : j < o1.length := by
      rcases Nat.lt_or_ge j o1.length with z | z
      · exact z
      · rw [List.getElem?_eq_none z] at hj; cases hj
    rw [List.getElem?_append_left hl]; exact hj
/-- nothing of one's own is held -/
def quietR (ρ : Rho) : Bool := ρ.all fun s => match s with
  | .own _ => false
  | .x _ _ => false
  | _ => true
theorem quietR_own {ρ : Rho} (h : quietR ρ = true) {i : Nat} {d : D} : ρ[i]? ≠ some (.own d) := fun e => by
  have := (List.all_eq_true.mp h) _ (List.mem_of_getElem? e); cases this
theorem quietR_x {ρ : Rho} (h : quietR ρ = true) {i : Nat} {c : Str} {fs : List (Str × D)} : ρ[i]? ≠ some (.x c fs) := fun e => by
  have := (List.all_eq_true.mp h) _ (List.mem_of_getElem? e); cases this
theorem SRel.quiet {G : Gx} {Z Z' : Addr → Prop} {w w' : Wd} {H H' : Hp} {ρ : Rho} {σ : L2.St} (S : SRel G Z w H ρ σ) (q : quietR ρ = true) (e : Le w.noL H w' H') : SRel G Z' w' H' ρ σ where
  len := S.len
  val := fun i d h => by
    obtain ⟨x, h1, r⟩ := S.val i d h
    exact ⟨x, h1, (r.soft soft_noL).le e⟩
  own := fun i d h => (quietR_own q h).elim
  sep := fun i j d e a h => (quietR_own q h).elim
  exn := fun i c fs h => (quietR_x q h).elim
def gYield (f : Den D) : GDen := fun ρ => match f ρ [] with
  | .ok d [] => if quietR ρ then some ([d], ρ) else none
  | _ => none
theorem gs_yield {f : Den D} {yp : Pos} (he : ∀ s0 H0 Z, SE (atG X s0 H0) T Z Wn e f) (hco : X.env.scope.isCoroutine = false := by rfl) (hi : interactive X.env = false := by rfl) : GSS X T (.Expr (.Yield (some e) yp) pos) (gYield f) := by
  refine ⟨fun items A c fs gd lv K J ip n g s sg H w ρ ρ' out pl th hn hI hg seg => ?_⟩
  unfold gYield at hg
  split at hg
  case h_2 => cases hg
  rename_i d hf
  split at hg
  case isFalse => cases hg
  rename_i hq
  cases hg
  have hit : items[g.k]? = some d := seg 0 d rfl
  have hlt : g.k < items.length := by
    rcases Nat.lt_or_ge g.k items.length with z | z
    · exact z
    · rw [List.getElem?_eq_none z] at hit; cases hit
  obtain ⟨n, rfl⟩ : ∃ m, n = m + 1 := ⟨n - 1, by omega⟩
  refine gseg_Yield pl.split pl.gd pl.guard ?_ hco hi
  rw [pl.over]
  have run := (he g.s0 g.H0 (wB g.H0 g.R).L).run ip s sg H (fun v H1 => ∃ w1, Le w H w1 H1 ∧ HRel (gx X T) w1 H1 [] ∧ Rep (gx X T) w1 H1 v d) hI.inv.inv ⟨w, ρ, [], hI.sl, hI.rel, by
      rw [hf]
      exact fun w' H' le R v r => ⟨w', le, R, r⟩⟩
  refine wpAny_mono run (fun v s' hv => ?_) fun _ _ x => x.elim
  obtain ⟨x, H1, I1, rv, w1, le1, R1, r1⟩ := hv
  refine ⟨x, d, ip, sg, H1, w1, rv, ⟨hI.inv.size, I1, hI.inv.low⟩, hI.le.trans le1, R1, hit, r1, fun g' s'' hk hR hle ht hI' => ?_⟩
  have lew : Le w1.noL H1 (wB g'.H0 g'.R) g'.H0 := ⟨fun a z => by show g'.R a; rw [hR]; exact z, fun _ z => z.elim, fun r a z => by
      have := R1.live r a z
      obtain ⟨o, e, _⟩ := this
      simp at e, hle.hF, fun _ _ z => z.elim, hle.tup, hle.frz⟩
  refine th n g' s'' sg g'.H0 (wB g'.H0 g'.R) (by omega) hk ⟨hI', Le.refl _ _, hrel_wB (fun a ha => ?_) ht, ?_⟩ (le1.dropL.noLt lew)
  · rw [hR] at ha
    cases e : H1 a with
    | none => exact (R1.there a (.inl ha) e).elim
    | some u => exact ⟨u, hle.hF a u ha e, fun ps z => (R1.ntb a ps (by rw [e, z])).1 ha⟩
  · exact (hI.sl.le le1).quiet hq lew
/-- for .. in .. inside a generator -/
def loopG (tg : Tg) (b : GDen) : List D → GDen
  | [], ρ => some ([], ρ)
  | d :: ds, ρ => match tg d ρ [] with
    | some (ρ1, []) => match b ρ1 with
      | some (o1, ρ2) => match loopG tg b ds ρ2 with
        | some (o2, ρ3) => some (o1 ++ o2, ρ3)
        | none => none
      | none => none
    | _ => none
def gFor (f : Den (List D)) (tg : Tg) (b : GDen) : GDen := fun ρ => match f ρ [] with
  | .ok ds [] => loopG tg b ds ρ
  | _ => none
theorem gpl_loop {A : Around} {c c' : Code} {fs : List Frame} {gd : Bool → Bool} {k : Result → Sem PySem.Fin} {l kp : List Value} {p : Pos} (g : GPl X A c fs gd) (hw : c'.weight = 0) (hu : c'.cUnits = 0) : GPl X A c' (.ret k none (gd false) l c p kp :: fs) id where
  over := (GenW.over_loop hw hu).trans g.over
  split := by
    show (splitAtGen fs).map _ = none
    rw [g.split]; rfl
  guard := by
    show (gd false || fs.any Frame.guarded) = false
    rw [g.gd, g.guard]; rfl
  gd := rfl
theorem gs_for {tg iter : Expr} {body : List Stmt} {f : Den (List D)} {ta : Tg} {ns : List Nat} {b : GDen} (hc : X.calm = true) (hi : ∀ s0 H0 Z, SI (atG X s0 H0) T Z Wn tg iter f) (hg : ∀ s0 H0, SG (atG X s0 H0) T false tg ta ns) (hb : GSB X T body b)
    (hs : ∀ x, foldedSetIterable iter X.env x = pure x := by intro _; rfl) : GSS X T (.For tg iter body [] pos) (gFor f ta b) := by
  refine ⟨fun items A c fs gd lv K J ip n g s sg H w ρ ρ' out pl th hn hI hgd seg => ?_⟩
  unfold gFor at hgd
  split at hgd
  case h_2 => cases hgd
  rename_i ds hf
  refine gseg_For hs ?_
  rw [pl.over]
  have run := (hi g.s0 g.H0 (wB g.H0 g.R).L).run ip s sg H (fun J H1 => ∃ w1, Le w H w1 H1 ∧ HRel (gx X T) w1 H1 [] ∧ Feeds (gx X T) w1 H1 J ds) hI.inv.inv ⟨w, ρ, [], hI.sl, hI.rel, by
      rw [hf]
      exact fun w' H' le R J fe => ⟨w', le, R, fe⟩⟩
  refine wpAny_mono run (fun v s1 h1 => wpAny_mono h1 (fun itv s2 h2 p => ?_) fun _ _ x => x.elim) fun _ _ x => x.elim
  obtain ⟨it, fp, tn, J', H2, e, I2, Tn, st2, f2, wf, lef, Rf, feed⟩ := h2
  subst e
  have gl := fun (kk : Result → Sem PySem.Fin) => gpl_loop (k := kk) (c' := .forLoop tg (.ref it) body [] X.env) (l := lv []) (kp := []) (p := p) pl rfl rfl
  -- what stays true of the iterator's objects whatever the waking
  have stat : ∀ {g' : Gh} {sg' : L2.St} {H' : Hp} {s' : Shared}, GInv X g' ip sg' H' s' → (∀ b ∈ fp, H' b = none) → ∀ b ∈ fp, FpOk (atG X g'.s0 g'.H0) ip H' b := fun {g' sg' H' s'} hI' hn' b hb => by
    obtain ⟨_, f1, f2', f3, f4, f5⟩ := f2 b hb
    refine ⟨hn' b hb, f1, f2', .inr ?_, f4, f5⟩
    rw [hI'.size, ← hI.inv.size]
    exact f3.elim (fun z => by cases z) id
  have loop : ∀ (rest : List D) (i n : Nat) (g' : Gh) (s' : Shared) (sg' : L2.St) (H' : Hp) (w' : Wd) (ρ1 : Rho) (o1 : List D), ds.drop i = rest → n + g'.k = items.length → GAt X T g' ip sg' H' s' w' ρ1 → Le wf.noL H2 w' H' → tn i s'.heap → (∀ b ∈ fp, H' b = none) → loopG ta b rest ρ1 = some (o1, ρ') →
      g'.k + o1.length = g.k + out.length → (∀ j d, o1[j]? = some d → items[g'.k + j]? = some d) →
      GSeg (model X.prog X.w) A (GWk X T items) n g' (.forLoop tg (.ref it) body [] X.env) ((model X.prog X.w).den (.forLoop tg (.ref it) body [] X.env))
        (.ret (fun r => ((match r with | .ok f => (.pure f : Sem Flow) | .error e => .raise e).onRaise (L2.cameBack X.env)).wrap K J gd lv) none (gd false) (lv []) c p [] :: fs) s' := by
    intro rest
    induction rest with
    | nil =>
      intro i n g' s' sg' H' w' ρ1 o1 hd hn' hI' hle st' hf' hlo hk' seg'
      cases hlo
      have hi' : ds.length ≤ i := by
        have := congrArg List.length hd
        rw [List.length_drop] at this
        simp at this; omega
      refine gseg_forLoop ?_
      rw [(gl _).over]
      have stop := (feed w' H' [] hle hI'.rel i).2 hi'
      refine wpAny_mono (Tn.done (atG X g'.s0 g'.H0) rfl rfl rfl hc i ip s' sg' H' (fun _ _ => False) hI'.inv.inv (stat hI'.inv hf') st' stop) (fun r s4 ⟨hr, I4⟩ => ?_) fun _ _ x => x.elim
      subst hr
      show GSeg _ _ _ _ _ _ (leafOf (.ok .next)) _ _
      exact gseg_leaf (.ok .next) (th n g' s4 sg' H' w' hn' (by simpa using hk') ⟨⟨hI'.inv.size, I4, hI'.inv.low⟩, hI'.le, hI'.rel, hI'.sl⟩ (lef.dropL.noLt hle))
    | cons d rest ih =>
      intro i n g' s' sg' H' w' ρ1 o1 hd hn' hI' hle st' hf' hlo hk' seg'
      have hdi : ds[i]? = some d := by
        have := congrArg (fun l => l[0]?) hd
        simpa using this
      have hd2 : ds.drop (i + 1) = rest := by
        rw [← List.drop_drop, hd]; rfl
      unfold loopG at hlo
      split at hlo
      case h_2 => cases hlo
      rename_i ρ2 eta
      split at hlo
      case h_2 => cases hlo
      rename_i oa ρ3 eb
      split at hlo
      case h_2 => cases hlo
      rename_i ob ρ4 el
      cases hlo
      refine gseg_forLoop ?_
      rw [(gl _).over]
      obtain ⟨go, yl⟩ := (feed w' H' [] hle hI'.rel i).1 d hdi
      refine wpAny_mono (Tn.item (atG X g'.s0 g'.H0) rfl rfl rfl hc i ip s' sg' H' (fun _ _ => False) hI'.inv.inv (stat hI'.inv hf') st' go) (fun r s4 ⟨u, hr, h4⟩ => ?_) fun _ _ x => x.elim
      subst hr
      refine wpAny_mono h4 (fun _ s5 ⟨x, H5, I5, r5, y5, st5, fr5⟩ => ?_) fun _ _ x => x.elim
      obtain ⟨w5, le5, R5, rep5⟩ := yl x H5 y5
      have G5 : GInv X g' ip sg' H5 s5 := ⟨hI'.inv.size, I5, hI'.inv.low⟩
      have I5' := I5.pinned (stat G5 fr5) (Tn.obj _ _ st5)
      have S5 := hI'.sl.le le5
      have rg := (hg g'.s0 g'.H0).run (ip ++ pinsAt fp s5.heap) s5 sg' H5 x u (fun sg6 H6 => ∃ w6, Le (w5.onZ (wB g'.H0 g'.R).L) H5 w6 H6 ∧ HRel (gx X T) w6 H6 [] ∧ SRel (gx X T) (wB g'.H0 g'.R).L w6 H6 ρ2 sg6) I5' r5
        ⟨(wB g'.H0 g'.R).L, w5, ρ1, [], d, ρ2, [], S5, R5, rep5, eta, fun sg6 w6 H6 le6 R6 S6 _ => ⟨w6, Le.ofZF le6, R6, S6⟩⟩
      refine wpAny_mono rg (fun _ s6 ⟨sg6, H6, I6, w6, le6, R6, S6⟩ => ?_) fun _ _ x => x.elim
      have le6' : Le w5.noL H5 w6 H6 := ⟨le6.F, fun _ z => z.elim, le6.m, le6.hF, fun _ _ z => z.elim, le6.tup, le6.frz⟩
      have low6 : ∀ q ∈ ip ++ pinsAt fp s5.heap, X.env.locals ≤ q.1 := fun q hq => (List.mem_append.mp hq).elim (fun z => hI'.inv.low q z) fun z => by
        have q3 := (f2 q.1 (of_pinsAt z).1).2.2.2.1
        rw [← hI.inv.size]
        exact q3.elim (fun z => by cases z) id
      refine hb.run items A _ _ id id (forNext tg (.ref it) body [] X.env) (noted X.env) (ip ++ pinsAt fp s5.heap) n g' s6 sg6 H6 w6 ρ2 ρ3 oa (gl _) (fun n7 g7 s7 sg7 H7 w7 hn7 hk7 hI7 hle7 => ?_) hn'
        ⟨⟨hI'.inv.size, I6, low6⟩, Le.thenZ (hI'.le.trans le5) le6, R6, S6⟩ eb fun j d hj => seg' j d ?_
      · have at7 : ∀ b ∈ fp, ∀ o, s5.heap.get? b = some o → s7.heap.get? b = some o ∧ H7 b = none := fun b hb o e => by
          have q := hI7.inv.inv.pin (b, o) (List.mem_append_right _ (List.mem_append_right _ (mem_pinsAt hb e)))
          exact ⟨q.1, q.2.1⟩
        refine gseg_again rfl ?_
        refine ih (i + 1) n7 g7 s7 sg7 H7 w7 ρ3 ob hd2 hn7 ⟨⟨hI7.inv.size, Inv.unpinned (pl := pinsAt fp s5.heap) hI7.inv.inv, fun q hq => hI7.inv.low q (List.mem_append_left _ hq)⟩, hI7.le, hI7.rel, hI7.sl⟩ (((hle.noLt le5.dropL).noLt le6').noLt hle7)
          (Tn.keep _ _ _ st5 fun b hb o e => (at7 b hb o e).1) (fun b hb => ?_) el ?_ fun j d hj => ?_
        · obtain ⟨o, e, _⟩ := Tn.obj _ _ st5 b hb
          exact (at7 b hb o e).2
        · rw [hk7]; rw [List.length_append] at hk'; omega
        · have := seg' (oa.length + j) d (by rw [List.getElem?_append_right (by omega)]; simpa using hj)
          rw [hk7, Nat.add_assoc]; exact this
      · have hl : j < oa.length := by
          rcases Nat.lt_or_ge j oa.length with z | z
          · exact z
          · rw [List.getElem?_eq_none z] at hj; cases hj
        rw [List.getElem?_append_left hl]; exact hj
  exact loop ds 0 n g s2 sg H2 wf ρ out rfl hn ⟨⟨hI.inv.size, I2, hI.inv.low⟩, hI.le.trans lef, Rf, hI.sl.le lef⟩ (Le.noL _ _) st2 (fun b hb => (f2 b hb).1) hgd rfl seg
/-- a generator def's whole body, from its first waking -/
theorem gs_body {body : List Stmt} {gd : GDen} {items : List D} {A : Around} {g : Gh} {s : Shared} {sg : L2.St} {H : Hp} {w : Wd} {ρ ρ' : Rho} (hb : GSB X T body gd) (hA : A.deeper X.env = X.A) (hk : g.k = 0) (hI : GAt X T g [] sg H s w ρ)
    (hg : gd ρ = some (items, ρ')) : GSeg (model X.prog X.w) A (GWk X T items) items.length g (.func body X.env) ((model X.prog X.w).den (.func body X.env)) [] s := by
  refine gseg_func ?_
  refine hb.run items A _ [] id id _ _ [] items.length g s sg H w ρ ρ' items ⟨GenW.over_func.trans hA, rfl, rfl, rfl⟩ (fun n' g' s' sg' H' w' hn' hk' hI' _ => ?_) (by omega) hI hg fun j d hj => ?_
  · exact gseg_end (.ok (.ret .none)) ⟨.inl rfl, [], sg', H', w', hI'.inv, hI'.le, hI'.rel, by omega⟩
  · rw [hk, Nat.zero_add]; exact hj
end
end Pf
end
section
set_option maxRecDepth 100000
set_option maxHeartbeats 1000000
namespace Pf
open PySem PySem.Spec PyProof.Rows L2 LamX

theorem inv_gens {X : Cx} {pl : List (Addr × Obj)} {sc : L2.St} {H : Hp} {s : Shared} {G : Array GenState} (I : L2.Inv X pl sc H s) (hG : AllBare G) : L2.Inv X pl sc H (wG s G) :=
  ⟨I.ok, I.os, hG, I.base, I.loc, I.cell, I.free, I.freeC, I.pin, I.hok, I.len⟩
/-- the sleepers of s sleep in s' as they did -/
def Still (s s' : Shared) : Prop := ∀ (g : Nat) (gs : GenState), s.gens[g]? = some gs → isSusp gs = true → s'.gens[g]? = some gs
theorem still_of {s s1 : Shared} {G : Array GenState} (h : Sim s.gens s1.gens G) : Still s (wG s1 G) := fun g gs e hs => (h.susp g gs e hs).2
theorem Still.trans {a b c : Shared} (x : Still a b) (y : Still b c) : Still a c := fun g gs e hs => y g gs (x g gs e hs) hs
theorem sp_gens {X : Cx} {pl : List (Addr × Obj)} {D : Ends} {f : Flow} {s : Shared} {G : Array GenState} (h : SP X pl D f s) (hG : AllBare G) : SP X pl D f (wG s G) := by
  cases f with
  | next => obtain ⟨a, b, I, q⟩ := h; exact ⟨a, b, inv_gens I hG, q⟩
  | brk => obtain ⟨a, b, I, q⟩ := h; exact ⟨a, b, inv_gens I hG, q⟩
  | cont => obtain ⟨a, b, I, q⟩ := h; exact ⟨a, b, inv_gens I hG, q⟩
  | ret u => obtain ⟨v, a, b, I, r, q⟩ := h; exact ⟨v, a, b, inv_gens I hG, r, q⟩
theorem sp_bare {X : Cx} {pl : List (Addr × Obj)} {D : Ends} {f : Flow} {s : Shared} (h : SP X pl D f s) : AllBare s.gens := by
  cases f with
  | next => obtain ⟨_, _, I, _⟩ := h; exact I.bare
  | brk => obtain ⟨_, _, I, _⟩ := h; exact I.bare
  | cont => obtain ⟨_, _, I, _⟩ := h; exact I.bare
  | ret u => obtain ⟨_, _, _, I, _, _⟩ := h; exact I.bare
section
variable {X : Cx} {body : List Stmt} {tb : TS}
theorem pss_still (h : PSs X.nox body tb) {pl : List (Addr × Obj)} {s : Shared} {sc : L2.St} {H : Hp} {D : Ends} {E : Value → Shared → Prop} (I : L2.Inv X pl sc H s) (t : tb D sc H) :
    wpAny (model X.prog X.w) X.A (execs body X.env) (fun f s' => SP X pl D f s' ∧ Still s s') E s := by
  refine wpAny_asleep ?_
  refine wpAny_mono (h.run pl _ sc H D ((inv_gens I (bare_pois I.bare)).wish _) t) (fun f s1 q G hG => ⟨(sp_gens q (hG.bare (sp_bare q))).unwish, still_of hG⟩) fun e s1 q => q.elim
theorem pg_still {tg : Expr} {g : TG} (h : PG X.nox tg g) {pl : List (Addr × Obj)} {s : Shared} {sc : L2.St} {H : Hp} {v : V} {u : Value} {Q : L2.St → Hp → Prop} {E : Value → Shared → Prop} (I : L2.Inv X pl sc H s) (r : RelV v u) (t : g v sc H Q) :
    wpAny (model X.prog X.w) X.A (assign tg X.env u) (fun _ s' => (∃ sc' H', L2.Inv X pl sc' H' s' ∧ Q sc' H') ∧ Still s s') E s := by
  refine wpAny_asleep ?_
  refine wpAny_mono (h.run pl _ sc H v u Q ((inv_gens I (bare_pois I.bare)).wish _) r t) (fun f s1 q G hG => ?_) fun e s1 q => q.elim
  obtain ⟨sc', H', I', q⟩ := q
  exact ⟨⟨sc', H', (inv_gens I' (hG.bare I'.bare)).unwish, q⟩, still_of hG⟩
end

/-- the heap below L -/
def cutH (h : Heap) (L : Nat) : Heap := ⟨h.objs.take L, h.life⟩
theorem cutH_size {h : Heap} {L : Nat} (hl : L ≤ h.objs.size) : (cutH h L).objs.size = L := by simp [cutH, hl]
theorem cutH_lt {h : Heap} {L b : Nat} (hb : b < L) : (cutH h L).get? b = h.get? b := by
  have e : (h.objs.take L)[b]? = h.objs[b]? := by
    rw [Array.take_eq_extract, Array.getElem?_extract]
    by_cases hz : b < h.objs.size
    · rw [if_pos (by show b < min L h.objs.size - 0; exact Nat.lt_min.mpr ⟨hb, hz⟩)]; simp
    · rw [if_neg (by simp; omega)]
      exact (Array.getElem?_eq_none (by omega)).symm
  unfold Heap.get?
  show (match (h.objs.take L)[b]? with | some ⟨_, _, .freed, _⟩ => none | o => o) = _
  rw [e]
  rfl
theorem cutH_of {h : Heap} {L b : Nat} {o : Obj} (e : (cutH h L).get? b = some o) : b < L ∧ h.get? b = some o := by
  by_cases hb : b < L
  · exact ⟨hb, by rw [cutH_lt hb] at e; exact e⟩
  · exfalso
    have := Heap.lt_size e
    have h2 : (cutH h L).objs.size ≤ L := by simp [cutH]; exact Nat.min_le_left _ _
    exact hb (Nat.lt_of_lt_of_le this h2)
abbrev cutS (s : Shared) (L : Nat) : Shared := { s with heap := cutH s.heap L }

/-- of one frame on the same stack -/
structure Kin (X Xg : Cx) : Prop where
  prog : Xg.prog = X.prog
  w : Xg.w = X.w
  K : Xg.K = X.K
  mg : Xg.mg = X.mg
  base : Xg.base = X.base
  outer : Xg.outer = X.stack
/-- the generator's things stand as they stood -/
structure Asl (Xg : Cx) (ip : List (Addr × Obj)) (H : Hp) (h h' : Heap) : Prop where
  loc : ∀ o, h.get? Xg.env.locals = some o → h'.get? Xg.env.locals = some o
  cell : ∀ x c, Xg.env.cells.lookup x = some c → ∀ o, h.get? c = some o → h'.get? c = some o
  pin : ∀ q ∈ ip, h'.get? q.1 = some q.2
  nl : H Xg.env.locals = none
  nc : ∀ x c, Xg.env.cells.lookup x = some c → H c = none
  nip : ∀ q ∈ ip, H q.1 = none

theorem rewake {X Xg : Cx} {g : Gh} {k : Nat} {R : Addr → Prop} {pl ip : List (Addr × Obj)} {sc sg : L2.St} {H Hg : Hp} {s s1 : Shared} (J : GInv Xg g ip sg Hg s1) (I : L2.Inv X pl sc H s) (kin : Kin X Xg) (sl : Asl Xg ip H s1.heap s.heap) :
    GInv Xg ⟨cutS s Xg.env.locals, H, R, k⟩ ip sg H s := by
  have J' := J.inv
  have hL : Xg.env.locals ≤ s.heap.objs.size := by
    obtain ⟨m, ⟨o, es, ep, ho, _⟩, _⟩ := J'.loc
    exact Nat.le_of_lt (Heap.lt_size (sl.loc o ho))
  have hsz : (cutH s.heap Xg.env.locals).objs.size = Xg.env.locals := cutH_size hL
  have hbz : Xg.base.objs.size ≤ Xg.env.locals := J.size ▸ J'.ok.bsz
  have hfs : Xg.fs = frs X.stack := by show frs Xg.outer = _; rw [kin.outer]
  have hfl : ∀ b ∈ Xg.fs, b < Xg.env.locals := fun b hb => by
    obtain ⟨_, o, ho, _⟩ := J'.ok.funs.mem hb
    exact J.size ▸ Heap.lt_size ho
  have hff : (cutH s.heap Xg.env.locals).FunFrames Xg.base Xg.outer := by
    have key : ∀ l : List Env, (∀ b ∈ frs l, b < Xg.env.locals) → s.heap.FunFrames Xg.base l → (cutH s.heap Xg.env.locals).FunFrames Xg.base l := by
      intro l
      induction l with
      | nil => exact fun _ _ => trivial
      | cons env rest ih =>
        rintro hf ⟨hk, ⟨L, o, e, hn, ho, hd⟩, hr⟩
        have hm : L ∈ frs (env :: rest) := by
          show L ∈ List.filterMap _ (env :: rest)
          rw [List.filterMap_cons, e]; exact List.mem_cons_self
        refine ⟨hk, ⟨L, o, e, hn, by rw [cutH_lt (hf L hm)]; exact ho, hd⟩, ih (fun b hb' => hf b ?_) hr⟩
        show b ∈ List.filterMap _ (env :: rest)
        rw [List.filterMap_cons, e]; exact List.mem_cons_of_mem _ hb'
    exact key _ (fun b hb' => hfl b hb') (by rw [kin.base, kin.outer]; exact I.stack)
  have bs : ∀ b o, Xg.base.get? b = some o → s.heap.get? b = some o ∧ H b = none := fun b o e => I.bs b o (by rw [← kin.base]; exact e)
  refine ⟨hsz, ⟨⟨J'.ok.mod, J'.ok.kind, J'.ok.glob, J'.ok.blt, Nat.le_of_eq hsz, J'.ok.inj, J'.ok.has, fun x c h1 h2 => ?_, J'.ok.hd, J'.ok.frames, J'.ok.stk, fun b z => by simp at z, fun b o e => ⟨?_, (bs b o e).2⟩, ?_, fun b o _ => by simp, fun b z => by simp at z, hff, fun b hb' => ?_⟩,
    rfl, I.bare, ⟨fun b o e _ _ _ => (cutH_of e).2, fun b o e _ _ _ => ⟨o.slots, (cutH_of e).2⟩, fun b o e n _ => n, fun b o e _ => ⟨o, (cutH_of e).2⟩, fun _ _ z => z, fun _ _ _ z => z, fun b ps z => ⟨#[], by rw [show H b = some (.tbl ps) from z]; simp⟩⟩, ?_, fun x c e => ?_, sl.nl, sl.nc, fun p hp => ?_, ?_, J'.len⟩, J.low⟩
  · have := J'.ok.cab x c h1 h2
    have e1 : g.s0.heap.objs.size = Xg.env.locals := J.size
    show (cutH s.heap Xg.env.locals).objs.size ≤ c
    rw [hsz, ← e1]; exact this
  · show (cutH s.heap Xg.env.locals).get? b = some o
    rw [cutH_lt (Nat.lt_of_lt_of_le (Heap.lt_size e) hbz)]; exact (bs b o e).1
  · show Xg.base.objs.size ≤ (cutH s.heap Xg.env.locals).objs.size
    rw [hsz]; exact hbz
  · exact I.stkFree b (by rw [← hfs]; exact hb')
  · obtain ⟨m, hm, hv⟩ := J'.loc
    refine ⟨m, hm.at' sl.loc, fun i x v h1 h2 h3 => ?_⟩
    obtain ⟨u, ru, lk⟩ := hv i x v h1 h2 h3
    refine ⟨u, ru, ?_⟩
    rcases lk with lk | ⟨lk, c, hc, o, ho, hd⟩
    · exact .inl lk
    · exact .inr ⟨lk, c, hc, o, sl.cell x c hc o ho, hd⟩
  · obtain ⟨v, o, ho, hd⟩ := J'.cell x c e
    exact ⟨v, o, sl.cell x c e o ho, hd⟩
  · have hp' : p ∈ ip := hp
    obtain ⟨_, _, q3, q4, q5⟩ := J'.pin p (List.mem_append_right _ hp')
    exact ⟨sl.pin p hp', sl.nip p hp', q3, q4, q5⟩
  · show HOk Xg.prog Xg.w H s.heap
    rw [kin.prog, kin.w]; exact I.hok

theorem objOk_at {P : Program} {w : World} {H : Hp} {h : Heap} {a : Addr} {o : HO} (x : ObjOk P w H h a o) : ∃ ob, h.get? a = some ob := by
  cases o with
  | lst xs => obtain ⟨_, _, _, _, e⟩ := x; exact ⟨_, e⟩
  | tup xs => obtain ⟨_, _, _, ob, e, _⟩ := x; exact ⟨_, e⟩
  | dK kvs => obtain ⟨_, _, _, _, o, _, _, e, _⟩ := x; exact ⟨_, e⟩
  | dT kvs => obtain ⟨_, _, _, _, o, _, _, e, _⟩ := x; exact ⟨_, e⟩
  | set S n => obtain ⟨o, _, _, _, e, _⟩ := x; exact ⟨_, e⟩
  | ins C dx fs => obtain ⟨_, _, _, e, _⟩ := x; exact ⟨_, e⟩
  | own y => obtain ⟨_, e⟩ := x; exact ⟨_, e⟩
  | xd fs => obtain ⟨_, ⟨_, _, _, e, _⟩, _⟩ := x; exact ⟨_, e⟩
  | rng lo hi => obtain ⟨_, _, _, e⟩ := x; exact ⟨_, e⟩
  | frz ob u => obtain ⟨e, _⟩ := x; exact ⟨_, e⟩
  | tbl ps => exact ⟨_, (show h.get? a = some _ from x)⟩
  | met f y => exact ⟨_, (show h.get? a = some _ from x)⟩
  | ext φ => obtain ⟨_, ⟨_, e⟩, _⟩ := x; exact ⟨_, e⟩
/-- all that was tracked stands -/
theorem keepB {B H : Hp} {R : Addr → Prop} {w : Wd} (e : Le (wB B R) B w H) {a : Addr} {u : HO} (h : B a = some u) (n : NT u) : H a = some u := by
  by_cases hr : R a
  · exact e.hF a u hr h
  · exact e.hL a u ⟨hr, u, h, n⟩ h
/-- what is older than the generator's frame on the waker's side -/
structure Older (X Xg : Cx) (pl : List (Addr × Obj)) : Prop where
  s0 : X.s_0.heap.objs.size ≤ Xg.env.locals
  loc : X.env.locals < Xg.env.locals
  cell : ∀ x c, X.env.cells.lookup x = some c → c < Xg.env.locals
  pin : ∀ p ∈ X.pn ++ pl, p.1 < Xg.env.locals
theorem yielded {X Xg : Cx} {k : Nat} {R : Addr → Prop} {pl ip : List (Addr × Obj)} {sc sg : L2.St} {H Hg : Hp} {s s1 : Shared} {w : Wd} (I : L2.Inv X pl sc H s) (J : GInv Xg ⟨cutS s Xg.env.locals, H, R, k⟩ ip sg Hg s1) (kin : Kin X Xg) (le : Le (wB H R) H w Hg) (old : Older X Xg pl) :
    L2.Inv X pl sc Hg s1 := by
  have un : Un Xg.fs [] H Hg (cutH s.heap Xg.env.locals) s1.heap := J.inv.base
  have hfs : Xg.fs = frs X.stack := by show frs Xg.outer = _; rw [kin.outer]
  rw [hfs] at un
  have hok1 : HOk X.prog X.w Hg s1.heap := by
    have q : HOk Xg.prog Xg.w Hg s1.heap := J.inv.hok
    rw [kin.prog, kin.w] at q; exact q
  have atc : ∀ b o, b < Xg.env.locals → s.heap.get? b = some o → (cutH s.heap Xg.env.locals).get? b = some o := fun b o hb e => by rw [cutH_lt hb]; exact e
  let ch : List Addr := (List.range s.heap.objs.size).filter fun b => decide (Xg.env.locals ≤ b) && (H b).isNone
  have hch : ∀ b, b ∈ ch → Xg.env.locals ≤ b ∧ H b = none := fun b hb => by
    have := (List.mem_filter.mp hb).2
    simp only [Bool.and_eq_true, decide_eq_true_eq, Option.isNone_iff_eq_none] at this
    exact this
  have low : ∀ b o, s.heap.get? b = some o → H b = none → b ∉ ch → b < Xg.env.locals := fun b o e n hb => by
    rcases Nat.lt_or_ge b Xg.env.locals with z | z
    · exact z
    · exact (hb (List.mem_filter.mpr ⟨List.mem_range.mpr (Heap.lt_size e), by simp only [Bool.and_eq_true, decide_eq_true_eq, Option.isNone_iff_eq_none]; exact ⟨z, n⟩⟩)).elim
  refine I.call' (ch := ch) ?_ ⟨fun b o e n hf hb => un.keep b o (atc b o (low b o e n hb) e) n hf (by simp), fun b o e n hf hb => un.slot b o (atc b o (low b o e n hb) e) n hf (by simp), fun b o e n hb => un.free b o (atc b o (low b o e n hb) e) n (by simp),
    fun b o e hb => ?_, un.tups, un.frzs, un.tbls⟩ hok1 J.inv.bare fun b hb => ?_
  · exact J.inv.os
  · cases z : H b with
    | none =>
      obtain ⟨sl, q⟩ := un.any (atc b o (low b o e z hb) e) z (by simp)
      exact ⟨_, q⟩
    | some u =>
      by_cases nt : NT u
      · exact objOk_at (hok1 b u (keepB le z nt))
      · have : ∃ ps, u = .tbl ps := Classical.byContradiction fun q => nt fun ps e => q ⟨ps, e⟩
        obtain ⟨ps, rfl⟩ := this
        obtain ⟨more, q⟩ := un.tbls b ps z
        exact objOk_at (hok1 b _ q)
  · obtain ⟨c1, c2⟩ := hch b hb
    exact ⟨.inr (Nat.le_trans old.s0 c1), Nat.ne_of_gt (Nat.lt_of_lt_of_le old.loc c1), fun x c e => Nat.ne_of_lt (Nat.lt_of_lt_of_le (old.cell x c e) c1), fun p hp => Nat.ne_of_lt (Nat.lt_of_lt_of_le (old.pin p hp) c1)⟩

/-- each thing of own is known to the object -/
def layH (h : Heap) (own : List Addr) (H : Hp) : Hp := fun b => if b ∈ own then (match h.get? b with
  | some o => some (.frz o (.ext fun h' => h'.get? b = some o))
  | none => H b) else H b
def unH (own : List Addr) (H : Hp) : Hp := fun b => if b ∈ own then none else H b
theorem layH_in {h : Heap} {own : List Addr} {H : Hp} {b : Addr} {o : Obj} (hb : b ∈ own) (e : h.get? b = some o) : layH h own H b = some (.frz o (.ext fun h' => h'.get? b = some o)) := by
  unfold layH; rw [if_pos hb, e]
theorem layH_out {h : Heap} {own : List Addr} {H : Hp} {b : Addr} (hb : b ∉ own) : layH h own H b = H b := by unfold layH; rw [if_neg hb]
theorem unH_in {own : List Addr} {H : Hp} {b : Addr} (hb : b ∈ own) : unH own H b = none := by unfold unH; rw [if_pos hb]
theorem unH_out {own : List Addr} {H : Hp} {b : Addr} (hb : b ∉ own) : unH own H b = H b := by unfold unH; rw [if_neg hb]
theorem layH_keep {h : Heap} {own : List Addr} {H : Hp} (hn : ∀ b ∈ own, H b = none) {b : Addr} {u : HO} (e : H b = some u) : layH h own H b = some u := by
  rw [layH_out fun hb => by rw [hn b hb] at e; cases e]; exact e
theorem Inv.lay {X : Cx} {pl : List (Addr × Obj)} {sc : L2.St} {H : Hp} {s : Shared} {own : List Addr} (I : L2.Inv X pl sc H s) (hn : ∀ b ∈ own, H b = none)
    (ho : ∀ b ∈ own, (b ∈ X.ex ∨ X.s_0.heap.objs.size ≤ b) ∧ b ≠ X.env.locals ∧ (∀ x c, X.env.cells.lookup x = some c → c ≠ b) ∧ ∀ p ∈ X.pn ++ pl, p.1 ≠ b) : L2.Inv X pl sc (layH s.heap own H) s := by
  refine I.step (g' := s.gens) (d' := s.drawn) (t' := s.toks) (h' := s.heap) (ch := own) ho (fun b o _ _ _ e _ => e) (fun b o _ _ _ e _ => ⟨o.slots, e⟩) (fun b o hb _ n => by rw [layH_out hb]; exact n) (fun b o _ e => ⟨o, e⟩)
    (fun b xs e => layH_keep hn e) (fun b o u e => layH_keep hn e) (fun b ps e => ⟨#[], by rw [layH_keep hn e]; simp⟩) (fun m h => h) (fun b u e => ?_) I.bare
  by_cases hb : b ∈ own
  · cases z : s.heap.get? b with
    | none =>
      unfold layH at e
      rw [if_pos hb, z, hn b hb] at e
      cases e
    | some o =>
      rw [layH_in hb z] at e
      cases e
      exact ⟨z, z, ⟨o, z⟩, fun h1 h2 h3 h4 => h4 o h3⟩
  · rw [layH_out hb] at e
    exact (I.hok b u e).stay (fun _ _ _ q => q) (fun c q => layH_keep hn q) fun c xs q => layH_keep hn q
theorem Inv.unlay {X : Cx} {pl : List (Addr × Obj)} {sc : L2.St} {H : Hp} {s : Shared} {own : List Addr} (I : L2.Inv X pl sc H s) (hn : ∀ b ∈ own, ∀ u, H b = some u → ∃ o φ, u = .frz o (.ext φ)) (h0 : ∀ b ∈ own, ∀ o u, X.H_0 b ≠ some (.frz o u)) : L2.Inv X pl sc (unH own H) s := by
  have out : ∀ {b u}, H b = some u → (∀ o φ, u ≠ .frz o (.ext φ)) → unH own H b = some u := fun {b u} e n => by
    rw [unH_out fun hb => by obtain ⟨o, φ, q⟩ := hn b hb u e; exact n o φ q]; exact e
  have none_of : ∀ {b}, H b = none → unH own H b = none := fun {b} e => by unfold unH; split; rfl; exact e
  refine ⟨I.ok, I.os, I.bare, ⟨I.base.keep, I.base.slot, fun b o e n hx => none_of (I.base.free b o e n hx), I.base.there, fun b xs e => out (I.base.tups b xs e) (by intro _ _ z; cases z), fun b o u e => ?_, fun b ps e => ?_⟩, I.loc, I.cell, none_of I.free, fun x c e => none_of (I.freeC x c e), fun p hp => ?_, fun b u e => ?_, I.len⟩
  · rw [unH_out fun hb => h0 b hb o u e]; exact I.base.frzs b o u e
  · obtain ⟨more, q⟩ := I.base.tbls b ps e
    exact ⟨more, out q (by intro _ _ z; cases z)⟩
  · obtain ⟨p1, p2, p3⟩ := I.pin p hp
    exact ⟨p1, none_of p2, p3⟩
  · by_cases hb : b ∈ own
    · rw [unH_in hb] at e; cases e
    · rw [unH_out hb] at e
      exact (I.hok b u e).stay (fun _ _ _ q => q) (fun c q => out q (by intro _ _ z; cases z)) fun c xs q => out q (by intro _ _ z; cases z)
end Pf
end
section
set_option maxRecDepth 100000
set_option maxHeartbeats 1000000
namespace Pf
open PySem PySem.Spec PyProof.Rows L2 LamX GenW

def notLaid (u : HO) : Prop := ∀ o φ, u ≠ .frz o (.ext φ)
/-- all is kept but what is laid aside -/
structure Via (w : Wd) (H : Hp) (w' : Wd) (H' : Hp) : Prop where
  k : ∀ a u, H a = some u → notLaid u → H' a = some u ∧ (w.F a → w'.F a) ∧ (w.L a → w'.L a)
  m : ∀ r a, w.m r = some a → w'.m r = some a
section
variable {G : Gx} {w w' : Wd} {H H' : Hp}
theorem nlT {xs : List V} : notLaid (.tup xs) := fun _ _ z => by cases z
theorem nlL {xs : List V} : notLaid (.lst xs) := fun _ _ z => by cases z
theorem nlI {C dx : Addr} {fs : List (Str × V)} : notLaid (.ins C dx fs) := fun _ _ z => by cases z
theorem nlDK {kvs : List (Key × V)} : notLaid (.dK kvs) := fun _ _ z => by cases z
theorem nlDT {kvs : List (List Key × V)} : notLaid (.dT kvs) := fun _ _ z => by cases z
theorem nlFK {o : Obj} {kvs : List (Key × V)} : notLaid (.frz o (.dK kvs)) := fun _ _ z => by cases z
theorem nlFT {o : Obj} {kvs : List (List Key × V)} : notLaid (.frz o (.dT kvs)) := fun _ _ z => by cases z
theorem nlFL {o : Obj} {xs : List V} : notLaid (.frz o (.lst xs)) := fun _ _ z => by cases z
mutual
theorem Rep.via (e : Via w H w' H') : ∀ {v : V} {d : D}, Rep G w H v d → Rep G w' H' v d
  | _, _, .non => .non
  | _, _, .bl b => .bl b
  | _, _, .int i => .int i
  | _, _, .str x => .str x
  | _, _, .tup h rr => .tup (e.k _ _ h nlT).1 (Reps.via e rr)
  | _, _, .kup h rr => .kup h (Reps.via e rr)
  | _, _, .lst f h rr => .lst ((e.k _ _ h nlL).2.1 f) (e.k _ _ h nlL).1 (Reps.via e rr)
  | _, _, .dK f h rr => .dK ((e.k _ _ h nlFK).2.1 f) (e.k _ _ h nlFK).1 (RepK.via e rr)
  | _, _, .dT f h rr => .dT ((e.k _ _ h nlFT).2.1 f) (e.k _ _ h nlFT).1 (RepT.via e rr)
  | _, _, .ins f g h rr => .ins ((e.k _ _ h nlI).2.1 f) g (e.k _ _ h nlI).1 (RepF.via e rr)
  | _, _, .ref h => .ref (e.m _ _ h)
  | _, _, .cls h => .cls h
  | _, _, .ty m => .ty m
  | _, _, .scr f h => .scr ((e.k _ _ h nlFL).2.1 f) (e.k _ _ h nlFL).1
theorem Reps.via (e : Via w H w' H') : ∀ {v : List V} {d : List D}, Reps G w H v d → Reps G w' H' v d
  | _, _, .nil => .nil
  | _, _, .cons a b => .cons (Rep.via e a) (Reps.via e b)
theorem RepK.via (e : Via w H w' H') : ∀ {v : List (Key × V)} {d : List (DK × D)}, RepK G w H v d → RepK G w' H' v d
  | _, _, .nil => .nil
  | _, _, .cons a b => .cons (Rep.via e a) (RepK.via e b)
theorem RepT.via (e : Via w H w' H') : ∀ {v : List (List Key × V)} {d : List (DK × D)}, RepT G w H v d → RepT G w' H' v d
  | _, _, .nil => .nil
  | _, _, .cons a b => .cons (Rep.via e a) (RepT.via e b)
theorem RepF.via (e : Via w H w' H') : ∀ {v : List (Str × V)} {d : List (Str × D)}, RepF G w H v d → RepF G w' H' v d
  | _, _, .nil => .nil
  | _, _, .cons a b => .cons (Rep.via e a) (RepF.via e b)
end
variable {L' : Addr → Prop}
mutual
theorem Rep.noM : ∀ {v : V} {d : D}, Rep G w H v d → noRef d = true → Rep G ⟨w.F, L', fun _ => none⟩ H v d
  | _, _, .non, _ => .non
  | _, _, .bl b, _ => .bl b
  | _, _, .int i, _ => .int i
  | _, _, .str x, _ => .str x
  | _, _, .tup h rr, n => .tup h (Reps.noM rr (by simpa only [noRef] using n))
  | _, _, .kup h rr, n => .kup h (Reps.noM rr (by simpa only [noRef] using n))
  | _, _, .lst f h rr, n => .lst f h (Reps.noM rr (by simpa only [noRef] using n))
  | _, _, .dK f h rr, n => .dK f h (RepK.noM rr (by simpa only [noRef] using n))
  | _, _, .dT f h rr, n => .dT f h (RepT.noM rr (by simpa only [noRef] using n))
  | _, _, .ins f g h rr, n => .ins f g h (RepF.noM rr (by simpa only [noRef] using n))
  | _, _, .ref h, n => by simp only [noRef, Bool.false_eq_true] at n
  | _, _, .cls h, _ => .cls h
  | _, _, .ty m, _ => .ty m
  | _, _, .scr f h, _ => .scr f h
theorem Reps.noM : ∀ {v : List V} {d : List D}, Reps G w H v d → noRefs d = true → Reps G ⟨w.F, L', fun _ => none⟩ H v d
  | _, _, .nil, _ => .nil
  | _, _, .cons a b, n => by
    simp only [noRefs, Bool.and_eq_true] at n
    exact .cons (Rep.noM a n.1) (Reps.noM b n.2)
theorem RepK.noM : ∀ {v : List (Key × V)} {d : List (DK × D)}, RepK G w H v d → noRefK d = true → RepK G ⟨w.F, L', fun _ => none⟩ H v d
  | _, _, .nil, _ => .nil
  | _, _, .cons a b, n => by
    simp only [noRefK, Bool.and_eq_true] at n
    exact .cons (Rep.noM a n.1) (RepK.noM b n.2)
theorem RepT.noM : ∀ {v : List (List Key × V)} {d : List (DK × D)}, RepT G w H v d → noRefK d = true → RepT G ⟨w.F, L', fun _ => none⟩ H v d
  | _, _, .nil, _ => .nil
  | _, _, .cons a b, n => by
    simp only [noRefK, Bool.and_eq_true] at n
    exact .cons (Rep.noM a n.1) (RepT.noM b n.2)
theorem RepF.noM : ∀ {v : List (Str × V)} {d : List (Str × D)}, RepF G w H v d → noRefF d = true → RepF G ⟨w.F, L', fun _ => none⟩ H v d
  | _, _, .nil, _ => .nil
  | _, _, .cons a b, n => by
    simp only [noRefF, Bool.and_eq_true] at n
    exact .cons (Rep.noM a n.1) (RepF.noM b n.2)
end
theorem ORep.via (e : Via w H w' H') {a : Addr} {o : O} (x : ORep G w H a o) : ORep G w' H' a o := by
  cases o with
  | lst ds => obtain ⟨xs, h, r⟩ := x; exact ⟨xs, (e.k _ _ h nlL).1, r.via e⟩
  | ins c fs => obtain ⟨C, dx, vs, g, h, r⟩ := x; exact ⟨C, dx, vs, g, (e.k _ _ h nlI).1, r.via e⟩
theorem OwnRep.via (e : Via w H w' H') {a : Addr} {d : D} (x : OwnRep G w H a d) (l : w.L a) : OwnRep G w' H' a d ∧ w'.L a := by
  cases d with
  | lst ds => obtain ⟨xs, h, r⟩ := x; exact ⟨⟨xs, (e.k _ _ h nlL).1, r.via e⟩, (e.k _ _ h nlL).2.2 l⟩
  | ins c fs => obtain ⟨C, dx, vs, g, h, r⟩ := x; exact ⟨⟨C, dx, vs, g, (e.k _ _ h nlI).1, r.via e⟩, (e.k _ _ h nlI).2.2 l⟩
  | dct t kvs =>
    cases t with
    | false => obtain ⟨vs, h, r⟩ := x; exact ⟨⟨vs, (e.k _ _ h nlDK).1, r.via e⟩, (e.k _ _ h nlDK).2.2 l⟩
    | true => obtain ⟨vs, h, r⟩ := x; exact ⟨⟨vs, (e.k _ _ h nlDT).1, r.via e⟩, (e.k _ _ h nlDT).2.2 l⟩
  | _ => exact x.elim
theorem SRel.via {Z : Addr → Prop} {ρ : Rho} {σ : L2.St} (e : Via w H w' H') (S : SRel G Z w H ρ σ) : SRel G Z w' H' ρ σ where
  len := S.len
  val := fun i d h => let ⟨x, h1, r⟩ := S.val i d h; ⟨x, h1, r.via e⟩
  own := fun i d h => by
    obtain ⟨a, h1, l, nz, o⟩ := S.own i d h
    obtain ⟨o', l'⟩ := o.via e l
    exact ⟨a, h1, l', nz, o'⟩
  sep := S.sep
  exn := fun i c fs h => by
    obtain ⟨a, C, dx, vs, h1, h2, f, h3, h4, r⟩ := S.exn i c fs h
    have n : notLaid (.xd vs) := fun _ _ z => by cases z
    exact ⟨a, C, dx, vs, h1, h2, (e.k _ _ h3 n).2.1 f, (e.k _ _ h3 n).1, h4, r.via e⟩

/-- the waker's world at the yield: what the generator made stands -/
def Wd.adopt (w : Wd) (H : Hp) (wg : Wd) : Wd := { w with F := fun a => w.F a ∨ (H a = none ∧ wg.F a) }
/-- the world without what is laid aside -/
def Wd.less (w : Wd) (own : List Addr) : Wd := { w with F := fun a => w.F a ∧ a ∉ own, L := fun a => w.L a ∧ a ∉ own }
end
section
variable {G : Gx} {w wg : Wd} {H Hg : Hp} {R : Addr → Prop} {h : Hl}
theorem le_adopt (Rl : HRel G w H h) (e : Le (wB H R) H wg Hg) : Le w H (w.adopt H wg) Hg := by
  have nt : ∀ {a u}, w.F a ∨ w.L a → H a = some u → NT u := fun {a u} z q ps z2 => by
    subst z2
    exact z.elim (Rl.ntb a ps q).1 (Rl.ntb a ps q).2
  exact ⟨fun a f => .inl f, fun a l => l, fun r a z => z, fun a o f q => keepB e q (nt (.inl f) q), fun a o l q => keepB e q (nt (.inr l) q), e.tup, e.frz⟩
theorem hrel_adopt (Rl : HRel G w H h) (e : Le (wB H R) H wg Hg) (Rg : HRel G wg Hg []) : HRel G (w.adopt H wg) Hg h := by
  have le := le_adopt Rl e
  have kp : ∀ {a u}, w.F a ∨ w.L a → H a = some u → Hg a = some u := fun {a u} z q => z.elim (fun f => le.hF a u f q) fun l => le.hL a u l q
  have some_of : ∀ {a}, w.F a ∨ w.L a → ∃ u, H a = some u := fun {a} z => by
    cases q : H a with
    | none => exact (Rl.there a z q).elim
    | some u => exact ⟨u, rfl⟩
  refine ⟨fun r a z => ?_, Rl.all, Rl.inj, fun r a z => ?_, fun a f l => ?_, fun a z => ?_, fun a ps q => ?_, Rg.tabs⟩
  · obtain ⟨o, e1, x⟩ := Rl.live r a z
    refine ⟨o, e1, x.le le fun u q => ?_⟩
    refine keepB e q fun ps z2 => ?_
    subst z2
    cases o with
    | lst ds => obtain ⟨_, q2, _⟩ := x; rw [q] at q2; cases q2
    | ins c fs => obtain ⟨_, _, _, _, q2, _⟩ := x; rw [q] at q2; cases q2
  · obtain ⟨h1, h2⟩ := Rl.mF r a z
    refine ⟨fun f => ?_, h2⟩
    rcases f with f | ⟨n, _⟩
    · exact h1 f
    · obtain ⟨o, e1, x⟩ := Rl.live r a z
      obtain ⟨u, q⟩ := x.some
      rw [n] at q; cases q
  · have l : w.L a := l
    rcases f with f | ⟨n, _⟩
    · exact Rl.FL a f l
    · exact Rl.there a (.inr l) n
  · rcases z with z | z
    · rcases z with z | ⟨_, z⟩
      · obtain ⟨u, q⟩ := some_of (.inl z)
        rw [kp (.inl z) q]; simp
      · exact Rg.there a (.inl z)
    · have z : w.L a := z
      obtain ⟨u, q⟩ := some_of (.inr z)
      rw [kp (.inr z) q]; simp
  · refine ⟨fun z => ?_, fun z => ?_⟩
    · rcases z with z | ⟨_, z⟩
      · obtain ⟨u, q2⟩ := some_of (.inl z)
        have := kp (.inl z) q2
        rw [q] at this; cases this
        exact (Rl.ntb a ps q2).1 z
      · exact (Rg.ntb a ps q).1 z
    · have z : w.L a := z
      obtain ⟨u, q2⟩ := some_of (.inr z)
      have := kp (.inr z) q2
      rw [q] at this; cases this
      exact (Rl.ntb a ps q2).2 z
/-- an item that was handed out -/
theorem rep_adopt (e : Le (wB H R) H wg Hg) (Rg : HRel G wg Hg []) (hR : ∀ a, R a → w.F a) (ht : ∀ b ps, H b = some (.tbl ps) → ∃ more, Hg b = some (.tbl (ps ++ more))) {v : V} {d : D} (r : Rep G wg Hg v d) : Rep G (w.adopt H wg) Hg v d := by
  refine r.soft ⟨fun a f => ?_, fun r a z => ?_, fun _ _ q => q, fun _ _ _ q => q, fun _ _ _ _ q => q, fun _ _ _ _ q => q, fun _ _ _ _ q => q, fun _ _ _ _ _ q => q⟩
  · cases q : H a with
    | none => exact .inr ⟨q, f⟩
    | some u =>
      refine .inl (hR a (Classical.byContradiction fun nr => ?_))
      by_cases nt : NT u
      · exact Rg.FL a f (e.L a ⟨nr, u, q, nt⟩)
      · obtain ⟨ps, rfl⟩ : ∃ ps, u = .tbl ps := Classical.byContradiction fun z => nt fun ps e => z ⟨ps, e⟩
        obtain ⟨more, q2⟩ := ht a ps q
        exact (Rg.ntb a _ q2).1 f
  · obtain ⟨o, q, _⟩ := Rg.live r a z
    simp at q
end
/-- what a generator def's call gives -/
def GenMade (P : Program) (w : World) (K : PySem.W.Frag) (mg : Str → Option Value) (base : Heap) (N : List Str) (qual : Str) (scope : Scope) (f : Addr) (cd : Value) (body : List Stmt) (A : Around) (outer : List Env) (s : Shared) (vs : List V) (H : Hp) (r : Result) (s' : Shared) : Prop :=
  ∃ (a : Addr) (g : Nat) (s1 : Shared), r = .ok (.ret (.ref a)) ∧ s1.heap.objs.size = a ∧ s.heap.objs.size < a ∧ s'.heap.IsGen a g ∧ s'.gens[g]? = some (.fresh (.func body (envOfC qual scope s.heap.objs.size f cd))) ∧ s'.os = s.os ∧ AllBare s'.gens ∧
    s1.gens = s.gens ∧ g = s.gens.size ∧ (∀ b o, s.heap.get? b = some o → s1.heap.get? b = some o) ∧ (∀ b o, s1.heap.get? b = some o → s'.heap.get? b = some o) ∧
    ∀ (Aw : Around) (E : XK) (R : Addr → Prop), Aw.handled = none → Aw.frames = some outer → GInv (gcxOf P w K mg base N qual scope f cd Aw outer s H E []) ⟨s, H, R, 0⟩ [] (start N vs) H s1
theorem gen_call {P : Program} {w : World} {K : PySem.W.Frag} {mg : Str → Option Value} {base : Heap} {k : Nat} {f : Addr} {name qual : Str} {params : Arguments} {body : List Stmt} {scope : Scope} {dV kV doc pm cdv ct oc : Value} {an od : Option Addr}
    {osl : Array (Option Value)} {N ps : List Str} (lk : K.lookup f = some ⟨oc, od, .func (PySem.W.fnOf name qual params body scope dV kV doc pm an cdv ct), osl⟩) (hcd : PySem.W.codeIn K cdv qual = true) (S : GScope N ps scope)
    {A : Around} {outer : List Env} {s : Shared} {H : Hp} {args : Args} {us : List Value} {vs : List V} (hr : Room (k + 1) A) (e0 : Env0 P w K mg base A outer s H) (hl : vs.length = ps.length)
    (hb : BindsTo s (PySem.W.fnOf name qual params body scope dV kV doc pm an cdv ct) args (ps.zip us)) (r : Vals vs us) :
    codeAny (model P w) A (.call (.ref f) args) (GenMade P w K mg base N qual scope f cdv body A outer s vs H) s := by
  have KX : K.In s.heap := e0.mod.kin.keeps fun b o e => (e0.bs b o e).1
  have lim : s.heap.NoLimit := e0.mod.nolimit.keeps fun b o e => (e0.bs b o e).1
  have hkind : ∀ y ∈ ps.zip us, scope.names.lookup y.1 = some .local ∨ (scope.names.lookup y.1 = some .cell ∧ ((cellsFrom (s.heap.objs.size + 1) scope.names []).lookup y.1).isSome = true) := fun ⟨n, v⟩ hy => by
    rcases S.par n (List.of_mem_zip hy).1 with q | q
    · exact .inl q
    · exact .inr ⟨q, PySem.W.cellsFrom_some _ _ _ (.inl q)⟩
  refine codeAny_call_generator hr.depth (KX _ _ lk) rfl S.co S.gen rfl (PySem.W.codeRec_of KX hcd) (hb _ _ _ _ ?_)
  refine wpAny_newFunctionEnv_cells S.kind hkind fun env he s1 x => ?_
  subst he
  have lim1 : s1.heap.NoLimit := lim.keeps x.toInCall.keep
  refine ⟨lim1, ?_⟩
  obtain ⟨h1, tk, es1, hk1⟩ := x.done
  have os1 : s1.os = s.os := by rw [es1]
  have gen1 : s1.gens = s.gens := by rw [es1]
  have main : ∀ (go : Obj) (nm qn : Value) (tk2 : Nat), go.cls = .type "generator" → go.data = .fields #[.int s1.gens.size 0, nm, qn] → go.slots = #[] → (∀ h : Heap, (h.push go).get? h.objs.size = some go) →
      GenMade P w K mg base N qual scope f cdv body A outer s vs H (.ok (.ret (.ref s1.heap.objs.size))) { s1 with gens := s1.gens.push (.fresh (.func body (envOfC qual scope s.heap.objs.size f cdv))), toks := tk2, heap := s1.heap.push go } := by
    intro go nm qn tk2 hgc hgd0 hgs hgp
    refine ⟨s1.heap.objs.size, s1.gens.size, s1, rfl, rfl, x.toInCall.ns.lt, ⟨go, nm, qn, hgp _, hgc, hgd0, hgs⟩, Array.getElem?_push_size .., os1, AllBare.push (by rw [gen1]; exact e0.bare) rfl, gen1, by rw [gen1], x.toInCall.keep, fun b o e => Heap.get?_push_of_some _ e, fun Aw E R hh hf => ?_⟩
    have I := inv_startG (E := E) S hh (⟨hf, e0.mod, e0.bs, e0.bsz, e0.funs, e0.frf, e0.hok, e0.bare⟩ : Env0 P w K mg base Aw outer s H) hl r x
    refine ⟨rfl, ?_, fun p hp => by simp at hp⟩
    exact ⟨⟨I.ok.mod, I.ok.kind, I.ok.glob, I.ok.blt, I.ok.above, I.ok.inj, I.ok.has, I.ok.cab, I.ok.hd, I.ok.frames, I.ok.stk, I.ok.exf, I.ok.bs, I.ok.bsz, I.ok.noex, I.ok.exfs, I.ok.funs, I.ok.frf⟩, I.os, I.bare, I.base, I.loc, I.cell, I.free, I.freeC, fun p hp => by simp at hp, I.hok, I.len⟩
  exact main _ _ _ _ rfl rfl rfl fun h => Heap.get?_push_size _ rfl
end Pf
end
section
set_option maxRecDepth 100000
set_option maxHeartbeats 1000000
namespace Pf
open PySem PySem.Spec PyProof.Rows L2 LamX GenW

def cellsOf (X : Cx) : List Addr := X.env.cells.filterMap fun p => X.env.cells.lookup p.1
theorem of_cellsOf {X : Cx} {c : Addr} (h : c ∈ cellsOf X) : ∃ x, X.env.cells.lookup x = some c := by
  obtain ⟨p, _, e⟩ := List.mem_filterMap.mp h
  exact ⟨_, e⟩
theorem mem_cellsOf {X : Cx} {x : Str} {c : Addr} (h : X.env.cells.lookup x = some c) : c ∈ cellsOf X :=
  List.mem_filterMap.mpr ⟨(x, c), PySem.mem_of_lookup h, h⟩
def ownOf (Xg : Cx) (ip : List (Addr × Obj)) : List Addr := Xg.env.locals :: (ip.map (·.1) ++ cellsOf Xg)
theorem of_ownOf {Xg : Cx} {ip : List (Addr × Obj)} {b : Addr} (h : b ∈ ownOf Xg ip) : b = Xg.env.locals ∨ (∃ q ∈ ip, q.1 = b) ∨ ∃ x, Xg.env.cells.lookup x = some b := by
  rcases List.mem_cons.mp h with z | z
  · exact .inl z
  · rcases List.mem_append.mp z with z | z
    · obtain ⟨q, hq, e⟩ := List.mem_map.mp z
      exact .inr (.inl ⟨q, hq, e⟩)
    · exact .inr (.inr (of_cellsOf z))
/-- it may be woken again -/
def Wakes (Xg : Cx) (T : Tb) (items : List D) (A : Around) (gs : GenState) (k : Nat) (w : Wd) (Hg : Hp) (ip : List (Addr × Obj)) (sg : L2.St) : Prop :=
  ∀ (n : Nat) (g' : Gh) (s' : Shared), n + g'.k = items.length → g'.k = k → g'.R = w.F → Le w.noL Hg w.noL g'.H0 → (∀ a, w.F a → ∃ u, g'.H0 a = some u ∧ NT u) → Tabs T.tabs g'.H0 → GInv Xg g' ip sg g'.H0 s' → GGoes (model Xg.prog Xg.w) A (GWk Xg T items) n g' gs s'
/-- between two turns -/
structure Nap (X Xg : Cx) (T : Tb) (items : List D) (a : Addr) (g : Nat) (go : Obj) (k : Nat) (H : Hp) (wk : Wd) (s : Shared) : Prop where
  ex : ∃ (gy : Gh) (sy : Shared) (ip : List (Addr × Obj)) (sg : L2.St) (Hg : Hp) (wg : Wd) (gs : GenState), GInv Xg gy ip sg Hg sy ∧ Asl Xg ip H sy.heap s.heap ∧ s.gens[g]? = some gs ∧ Wakes Xg T items X.A.in1 gs k wg Hg ip sg ∧ Le wg.noL Hg wg.noL H ∧ (∀ a, wg.F a → wk.F a)
  go : H a = some (.frz go (.ext fun h => h.get? a = some go))

theorem HRel.lay {G : Gx} {w : Wd} {H : Hp} {h : Hl} {hp : Heap} {own : List Addr} (R : HRel G w H h) (hn : ∀ b ∈ own, H b = none) : Le w H w (layH hp own H) ∧ HRel G w (layH hp own H) h := by
  have le : Le w H w (layH hp own H) := ⟨fun _ f => f, fun _ l => l, fun _ _ z => z, fun a o _ q => layH_keep hn q, fun a o _ q => layH_keep hn q, fun a xs q => layH_keep hn q, fun a o u q => layH_keep hn q⟩
  refine ⟨le, ⟨fun r a z => ?_, R.all, R.inj, R.mF, R.FL, fun a z => ?_, fun a ps q => ?_, R.tabs.ext fun b o q => layH_keep hn q⟩⟩
  · obtain ⟨o, e, x⟩ := R.live r a z
    exact ⟨o, e, x.le le fun u q => layH_keep hn q⟩
  · cases q : H a with
    | none => exact (R.there a z q).elim
    | some u => rw [layH_keep hn q]; simp
  · by_cases hb : a ∈ own
    · unfold layH at q
      rw [if_pos hb] at q
      split at q
      · cases q
      · rw [hn a hb] at q; cases q
    · rw [layH_out hb] at q; exact R.ntb a ps q
/-- what was laid aside is taken up again -/
theorem HRel.unlay {G : Gx} {w : Wd} {H : Hp} {h : Hl} {own : List Addr} (R : HRel G w H h) (hn : ∀ b ∈ own, ∃ o φ, H b = some (.frz o (.ext φ))) : Via w H (w.less own) (unH own H) ∧ HRel G (w.less own) (unH own H) h := by
  have out : ∀ {a u}, H a = some u → notLaid u → a ∉ own := fun {a u} e n hb => by
    obtain ⟨o, φ, q⟩ := hn a hb
    rw [e] at q; cases q; exact n o φ rfl
  have nlX : ∀ {φ}, notLaid (.ext φ) := fun {φ} _ _ z => by cases z
  have via : Via w H (w.less own) (unH own H) := ⟨fun a u e n => ⟨by rw [unH_out (out e n)]; exact e, fun f => ⟨f, out e n⟩, fun l => ⟨l, out e n⟩⟩, fun r a z => z⟩
  refine ⟨via, ⟨fun r a z => ?_, R.all, R.inj, fun r a z => ⟨fun f => (R.mF r a z).1 f.1, fun l => (R.mF r a z).2 l.1⟩, fun a f l => R.FL a f.1 l.1, fun a z => ?_, fun a ps q => ?_, fun p hp => ?_⟩⟩
  · obtain ⟨o, e, x⟩ := R.live r a z
    exact ⟨o, e, x.via via⟩
  · have hb : a ∉ own := z.elim (fun f => f.2) fun l => l.2
    rw [unH_out hb]
    exact R.there a (z.elim (fun f => .inl f.1) fun l => .inr l.1)
  · have hb : a ∉ own := fun hb => by rw [unH_in hb] at q; cases q
    rw [unH_out hb] at q
    exact ⟨fun f => (R.ntb a ps q).1 f.1, fun l => (R.ntb a ps q).2 l.1⟩
  · have t := R.tabs p hp
    obtain ⟨ps, e, t2, t3⟩ := t
    refine ⟨ps, by rw [unH_out (out e fun _ _ z => by cases z)]; exact e, t2, fun pos cv h1 => ?_⟩
    obtain ⟨c, h2, h3⟩ := t3 pos cv h1
    exact ⟨c, h2, by rw [unH_out (out h3 nlX)]; exact h3⟩
theorem bare_set {s : Shared} {g : Nat} {gs : GenState} (h : AllBare s.gens) (hb : gs.bare = true) : AllBare (s.setGen g gs).gens := by
  intro x hx
  obtain ⟨i, e⟩ := Array.mem_iff_getElem?.mp hx
  have e' : (s.gens.setIfInBounds g gs)[i]? = some x := e
  rw [Array.getElem?_setIfInBounds] at e'
  split at e'
  · split at e'
    · cases e'; exact hb
    · cases e'
  · exact h x (Array.mem_iff_getElem?.mpr ⟨i, e'⟩)

section
variable {X Xg : Cx} {T : Tb} {items : List D} {pl : List (Addr × Obj)} {a : Addr} {g : Nat} {go : Obj} {k n : Nat} {sc : L2.St} {H : Hp} {wk : Wd} {h : Hl} {s : Shared}
/-- the generator is woken -/
theorem nap_wake (kin : Kin X Xg) (hfn : ∀ x, Xg.fn x = true) (old : Older X Xg pl) (nap : Nap X Xg T items a g go k H wk s) (I : L2.Inv X pl sc H s) (Rl : HRel (gx X T) wk H h) (hn : n + k = items.length) :
    ∃ (gs : GenState) (t : Gh), s.gens[g]? = some gs ∧ GGoes (model X.prog X.w) X.A.in1 (GWk Xg T items) n t gs (s.setGen g .running) ∧
      (∀ r s₁, (GWk Xg T items).R t r s₁ → (r = .ok (.ret .none) ∨ r = .ok .next) ∧ k = items.length ∧ ∃ Hg wg, L2.Inv X pl sc Hg s₁ ∧ Le wk H (wk.adopt H wg) Hg ∧ HRel (gx X T) (wk.adopt H wg) Hg h) ∧
      ∀ v s₁ gs', isSusp gs' = true → gs'.bare = true → g < s₁.gens.size → (GWk Xg T items).Y t v s₁ (Kap (model X.prog X.w) X.A.in1 (GWk Xg T items) n gs') →
        s₁.heap.get? a = some go ∧ ∃ x d w' Hz, RelV x v ∧ items[k]? = some d ∧ L2.Inv X pl sc Hz (s₁.setGen g gs') ∧ Le wk H w' Hz ∧ HRel (gx X T) w' Hz h ∧ Rep (gx X T) w' Hz x d ∧
          ∀ sc4 H4 w4 h4 s4, L2.Inv X pl sc4 H4 s4 → Le w'.noL Hz w4 H4 → HRel (gx X T) w4 H4 h4 → Still (s₁.setGen g gs') s4 →
            ∃ H5 w5, L2.Inv X pl sc4 H5 s4 ∧ Via w4 H4 w5 H5 ∧ HRel (gx X T) w5 H5 h4 ∧ (∀ w0 H0, Le w0 H0 wk H → Le w0 H0 w4 H4 → Le w0 H0 w5 H5) ∧ Nap X Xg T items a g go (k + 1) H5 w5 s4 := by
  obtain ⟨⟨gy, sy, ip, sg, Hg0, wg0, gs, J0, as, hgs, wk0, le0, sub⟩, hgo⟩ := nap
  -- the state in which it runs
  have Ir : L2.Inv X pl sc H (s.setGen g .running) := inv_gens I (bare_set I.bare rfl)
  have J1 : GInv Xg ⟨cutS (s.setGen g .running) Xg.env.locals, H, wg0.F, k⟩ ip sg H (s.setGen g .running) := rewake (s := s.setGen g .running) J0 Ir kin as
  have ntF : ∀ b, wg0.F b → ∃ u, H b = some u ∧ NT u := fun b hb => by
    cases q : H b with
    | none => exact (Rl.there b (.inl (sub b hb)) q).elim
    | some u => exact ⟨u, rfl, fun ps z => by subst z; exact (Rl.ntb b ps q).1 (sub b hb)⟩
  have goes := wk0 n ⟨cutS (s.setGen g .running) Xg.env.locals, H, wg0.F, k⟩ (s.setGen g .running) hn rfl rfl le0 ntF Rl.tabs J1
  rw [kin.prog, kin.w] at goes
  refine ⟨gs, ⟨cutS (s.setGen g .running) Xg.env.locals, H, wg0.F, k⟩, hgs, goes, fun r s₁ hr => ?_, fun v s₁ gs' hsu hba hsz hy => ?_⟩
  · obtain ⟨hr, ip', sg', H', w', J2, le2, R2, hk⟩ := hr
    have R2' : HRel (gx X T) w' H' [] := by have := R2; rw [show gx Xg T = gx X T by show Gx.mk _ _ _ = Gx.mk _ _ _; rw [kin.K, kin.mg]] at this; exact this
    exact ⟨hr, hk, H', w', yielded Ir J2 kin le2 old, le_adopt Rl le2, hrel_adopt Rl le2 R2'⟩
  · obtain ⟨x, d, ip', sg', Hg, wg, rx, J2, le2, R2, hit, rep, cont⟩ := hy
    have eG : gx Xg T = gx X T := by show Gx.mk _ _ _ = Gx.mk _ _ _; rw [kin.K, kin.mg]
    rw [eG] at R2 rep
    have I2 : L2.Inv X pl sc Hg s₁ := yielded Ir J2 kin le2 old
    have I2' : L2.Inv X pl sc Hg (s₁.setGen g gs') := inv_gens I2 (bare_set I2.bare hba)
    have goG : Hg a = some (.frz go (.ext fun h => h.get? a = some go)) := le2.frz a go _ hgo
    have go1 : s₁.heap.get? a = some go := (I2.hok a _ goG).1
    -- its own things
    have ownN : ∀ b ∈ ownOf Xg ip', Hg b = none := fun b hb => by
      rcases of_ownOf hb with z | ⟨q, hq, z⟩ | ⟨x, z⟩
      · rw [z]; exact J2.inv.free
      · rw [← z]; exact (J2.inv.pin q (List.mem_append_right _ hq)).2.1
      · exact J2.inv.freeC x b z
    have ownL : ∀ b ∈ ownOf Xg ip', Xg.env.locals ≤ b := fun b hb => by
      rcases of_ownOf hb with z | ⟨q, hq, z⟩ | ⟨x, z⟩
      · rw [z]; exact Nat.le_refl _
      · rw [← z]; exact J2.low q hq
      · have := J2.inv.ok.cab x b ?_ z
        · have e1 : Xg.env.locals = _ := J2.size.symm
          rw [e1]; exact this
        · exact hfn x
    have ownO : ∀ b ∈ ownOf Xg ip', ∃ o, s₁.heap.get? b = some o := fun b hb => by
      rcases of_ownOf hb with z | ⟨q, hq, z⟩ | ⟨x, z⟩
      · obtain ⟨m, ⟨o, _, _, ho, _⟩, _⟩ := J2.inv.loc
        rw [z]; exact ⟨o, ho⟩
      · rw [← z]; exact ⟨q.2, (J2.inv.pin q (List.mem_append_right _ hq)).1⟩
      · obtain ⟨v, o, ho, _⟩ := J2.inv.cell x b z
        exact ⟨o, ho⟩
    have I3 := Inv.lay (own := ownOf Xg ip') I2' ownN fun b hb => by
      have hL := ownL b hb
      exact ⟨.inr (Nat.le_trans old.s0 hL), Nat.ne_of_gt (Nat.lt_of_lt_of_le old.loc hL), fun x c e => Nat.ne_of_lt (Nat.lt_of_lt_of_le (old.cell x c e) hL), fun p hp => Nat.ne_of_lt (Nat.lt_of_lt_of_le (old.pin p hp) hL)⟩
    have leA := le_adopt Rl le2
    have RA : HRel (gx X T) (wk.adopt H wg) Hg h := hrel_adopt Rl le2 R2
    obtain ⟨leZ, RZ⟩ := RA.lay (hp := s₁.heap) ownN
    refine ⟨go1, x, d, wk.adopt H wg, layH s₁.heap (ownOf Xg ip') Hg, rx, hit, I3, leA.trans leZ, RZ, (rep_adopt le2 R2 sub J2.inv.base.tbls rep).le leZ, fun sc4 H4 w4 h4 s4 I4 le4 R4 still => ?_⟩
    have laid4 : ∀ b ∈ ownOf Xg ip', ∀ o, s₁.heap.get? b = some o → H4 b = some (.frz o (.ext fun h' => h'.get? b = some o)) := fun b hb o e => le4.frz b o _ (layH_in hb e)
    have laidE : ∀ b ∈ ownOf Xg ip', ∃ o φ, H4 b = some (.frz o (.ext φ)) := fun b hb => by
      obtain ⟨o, e⟩ := ownO b hb
      exact ⟨o, _, laid4 b hb o e⟩
    have same4 : ∀ b ∈ ownOf Xg ip', ∀ o, s₁.heap.get? b = some o → s4.heap.get? b = some o := fun b hb o e => (I4.hok b _ (laid4 b hb o e)).1
    obtain ⟨via, R5⟩ := R4.unlay laidE
    have I5 := Inv.unlay (own := ownOf Xg ip') I4 (fun b hb u e => by
      obtain ⟨o, φ, q⟩ := laidE b hb
      rw [e] at q; cases q; exact ⟨o, φ, rfl⟩) fun b hb o u e => by
        have := I2.base.frzs b o u e
        rw [ownN b hb] at this; cases this
    have ownH : ∀ b ∈ ownOf Xg ip', H b = none := fun b hb => by
      cases q : H b with
      | none => rfl
      | some u =>
        exfalso
        by_cases nt : NT u
        · have := keepB le2 q nt
          rw [ownN b hb] at this; cases this
        · obtain ⟨ps, rfl⟩ : ∃ ps, u = .tbl ps := Classical.byContradiction fun z => nt fun ps e => z ⟨ps, e⟩
          obtain ⟨more, q2⟩ := J2.inv.base.tbls b ps q
          rw [ownN b hb] at q2; cases q2
    have wgF : ∀ b, wg.F b → (wk.adopt H wg).F b := fun b f => by
      have := rep_adopt (v := V.non) (d := D.non) le2 R2 sub J2.inv.base.tbls .non
      cases q : H b with
      | none => exact .inr ⟨q, f⟩
      | some u =>
        refine .inl (sub b (Classical.byContradiction fun nr => ?_))
        by_cases nt : NT u
        · exact R2.FL b f (le2.L b ⟨nr, u, q, nt⟩)
        · obtain ⟨ps, rfl⟩ : ∃ ps, u = .tbl ps := Classical.byContradiction fun z => nt fun ps e => z ⟨ps, e⟩
          obtain ⟨more, q2⟩ := J2.inv.base.tbls b ps q
          exact (R2.ntb b _ q2).1 f
    have out5 : ∀ b u, Hg b = some u → b ∉ ownOf Xg ip' := fun b u e hb => by rw [ownN b hb] at e; cases e
    refine ⟨unH (ownOf Xg ip') H4, w4.less (ownOf Xg ip'), I5, via, R5, fun w0 H0 e1 e2 => ?_, ⟨⟨_, s₁, ip', sg', Hg, wg, gs', J2, ⟨fun o e => same4 _ List.mem_cons_self o e, fun x c e o ho => same4 c (List.mem_cons_of_mem _ (List.mem_append_right _ (mem_cellsOf e))) o ho, fun q hq => ?_, unH_in List.mem_cons_self,
      fun x c e => unH_in (List.mem_cons_of_mem _ (List.mem_append_right _ (mem_cellsOf e))), fun q hq => unH_in (List.mem_cons_of_mem _ (List.mem_append_left _ (List.mem_map.mpr ⟨q, hq, rfl⟩)))⟩, ?_, ?_, ?_, fun b f => ⟨le4.F b (wgF b f), fun hb => R2.there b (.inl f) (ownN b hb)⟩⟩, ?_⟩⟩
    · have nF : ∀ b, w0.F b ∨ w0.L b → b ∉ ownOf Xg ip' := fun b f hb => Rl.there b (f.elim (fun z => .inl (e1.F b z)) fun z => .inr (e1.L b z)) (ownH b hb)
      have nE : ∀ b u, H4 b = some u → notLaid u → b ∉ ownOf Xg ip' := fun b u e n hb => by
        obtain ⟨o, φ, q⟩ := laidE b hb
        rw [e] at q; cases q; exact n o φ rfl
      refine ⟨fun b f => ⟨e2.F b f, nF b (.inl f)⟩, fun b l => ⟨e2.L b l, nF b (.inr l)⟩, e2.m, fun b o f q => by rw [unH_out (nF b (.inl f))]; exact e2.hF b o f q, fun b o l q => by rw [unH_out (nF b (.inr l))]; exact e2.hL b o l q, fun b xs q => ?_, fun b o u q => ?_⟩
      · have := e2.tup b xs q
        rw [unH_out (nE b _ this nlT)]; exact this
      · have q1 := e1.frz b o u q
        rw [unH_out fun hb => by rw [ownH b hb] at q1; cases q1]
        exact e2.frz b o u q
    · have hq' : q.1 ∈ ownOf Xg ip' := List.mem_cons_of_mem _ (List.mem_append_left _ (List.mem_map.mpr ⟨q, hq, rfl⟩))
      exact same4 q.1 hq' q.2 (J2.inv.pin q (List.mem_append_right _ hq)).1
    · refine still g gs' ?_ hsu
      show (s₁.gens.setIfInBounds g gs')[g]? = some gs'
      rw [Array.getElem?_setIfInBounds, if_pos rfl, if_pos hsz]
    · intro m g' s' hm hk hR hle hnt htb hI
      have n1 : n = m + 1 := by omega
      subst n1
      have := cont g' s' (by rw [hk]) hR hle htb hI
      rw [kin.prog, kin.w]
      exact this
    · refine ⟨fun _ f => f, fun _ z => z, fun _ _ z => z, fun b o f q => ?_, fun _ _ z => z.elim, fun b xs q => ?_, fun b o u q => ?_⟩
      · rw [unH_out (out5 b o q)]
        exact le4.hF b o (wgF b f) (layH_keep ownN q)
      · rw [unH_out (out5 b _ q)]
        exact le4.tup b xs (layH_keep ownN q)
      · rw [unH_out (out5 b _ q)]
        exact le4.frz b o u (layH_keep ownN q)
    · rw [unH_out (out5 a _ goG)]
      exact le4.frz a go _ (layH_keep ownN goG)
end
end Pf
end
section
set_option maxRecDepth 100000
set_option maxHeartbeats 1000000
namespace Pf
open PySem PySem.Spec PyProof.Rows L2 LamX GenW

def runG (N : Nat) (gd : GDen) (ds : List D) : Option (List D) := if noRefs ds = true then (gd (ds.map .v ++ List.replicate (N - ds.length) .no)).map (·.1) else none
/-- a generator def of the module, told by a plain function -/
structure GenU (P : Program) (w : World) (base : Heap) (G : Gx) (k : Nat) (x : Str) (n : Nat) (g : List D → Option (List D)) : Prop where
  is : ∃ (f : Addr) (qual : Str) (params : Arguments) (body : List Stmt) (scope : Scope) (dV kV doc pm cdv ct oc : Value) (an od : Option Addr) (osl : Array (Option Value)) (N ps : List Str) (gd : GDen), G.mg x = some (.ref f) ∧ PySem.W.keepIn G.K (.ref f) = true ∧
    G.K.lookup f = some ⟨oc, od, .func (PySem.W.fnOf x qual params body scope dV kV doc pm an cdv ct), osl⟩ ∧ PySem.W.codeIn G.K cdv qual = true ∧ GScope N ps scope ∧ ps.length = n ∧ Binds G.K (PySem.W.fnOf x qual params body scope dV kV doc pm an cdv ct) ps [] ∧
    (∀ (A : Around) (outer : List Env) (s : Shared) (H : Hp) (E : XK), Room k (A.deeper (envOfC qual scope s.heap.objs.size f cdv)) → GSB (gcxOf P w G.K G.mg base N qual scope f cdv A outer s H E []) G.T body gd) ∧ ∀ ds, g ds = runG N.length gd ds
def noExc : SRes → SRes
  | .exc _ _ _ _ => .bad
  | r => r
theorem PostS.noExc {G : Gx} {w0 : Wd} {H0 : Hp} {W W' : WX} {r : SRes} {Dn : Ends} (p : PostS G w0 H0 W (noExc r) Dn) : PostS G w0 H0 W' r Dn := by
  cases r with
  | ok f ρ h => exact p
  | exc c fs ρ h => exact p.elim
  | bad => exact p
def sForG (g : List D → Option (List D)) (t : Den (List D)) (tg : Tg) (b : SDen) : SDen := fun ρ h => sBind (t ρ h) ρ fun ds h1 => match g ds with
  | some items => noExc (loopS tg b items ρ h1)
  | none => .bad

section
variable {X : Cx} {T : Tb} {W : WX} {tg e : Expr} {es : List Expr} {body : List Stmt} {t : Den (List D)} {ta : Tg} {b : SDen} {pos p cpos : Pos} {ns : List Nat} {x : Str} {k n : Nat} {g : List D → Option (List D)}
theorem ss_forgen (U : GenU X.prog X.w X.base (gx X T) k x n g) (hr : Room (k + 2) X.A) (hc : X.calm = true) (hg : Gl X x) (ha : ∀ Z, SA X T Z W (e :: es) t) (hl : ∀ ρ h ds h', t ρ h = .ok ds h' → ds.length = n)
    (hta : SG X.nox T false tg ta ns) (hb : SB X.nox T Wn body b) (hdb : (x == ("__debug__" : Str)) = false := by decide)
    (he : starEach (e :: es) X.env = (false, eval e X.env) :: starEach es X.env := by rfl) (hpl : (backTo cpos (starEach es X.env)).any (·.1) = false := by rfl)
    (hs : ∀ v, foldedSetIterable (.Call (.Name x p) (e :: es) [] cpos) X.env v = pure v := by intro _; rfl) :
    SS X T W (.For tg (.Call (.Name x p) (e :: es) [] cpos) body [] pos) (sForG g t ta b) := by
  intro w0 H0
  refine ⟨fun pins s σ H Dn I hq => ?_⟩
  obtain ⟨w, ρ, h, S, R, L, pp⟩ := hq
  obtain ⟨f, qual, params, gbody, scope, dV, kV, doc, pm, cdv, ct, oc, an, od, osl, N, ps, gd, hm, hk, lk, hcd, GS, hpn, hbi, hgb, hgd⟩ := U.is
  refine wpAny_For (thn (Q := fun v s2 => ∃ (s1 : Shared) (H1 : Hp) (vs : List V) (w1 : Wd) (h1 : Hl) (ds items : List D), L2.Inv X pins σ H1 s1 ∧ SRel (gx X T) w0.L w1 H1 ρ σ ∧ HRel (gx X T) w1 H1 h1 ∧ Le w0 H0 w1 H1 ∧ Reps (gx X T) w1 H1 vs ds ∧ vs.length = ps.length ∧ g ds = some items ∧
      PostS (gx X T) w0 H0 Wn (loopS ta b items ρ h1) Dn ∧ GenMade X.prog X.w X.K X.mg X.base N qual scope f cdv gbody X.A X.stack s1 vs H1 (.ok (.ret v)) s2) ?_ ?_) hs
  · -- the call
    refine wpAny_Call_Name_kw (ld_glob I hg hm ?_ hdb)
    have pp' : PostS (gx X T) w0 H0 W (sBind (t ρ h) ρ fun ds h1 => if ds.length = n then (match g ds with | some items => noExc (loopS ta b items ρ h1) | none => .bad) else .bad) Dn := by
      have hl' := hl ρ h
      revert hl'
      revert pp
      unfold sForG
      cases t ρ h with
      | ok ds h1 =>
        intro pp hl'
        simp only [sBind, hl' ds h1 rfl, if_true]
        exact pp
      | exc c fs h1 => exact fun pp _ => pp
      | bad => exact fun pp _ => pp
    have st' := sstep_A (W := W) (Dn := Dn) (K := fun vs H1 => ∃ w1 h1 ds items, SRel (gx X T) w0.L w1 H1 ρ σ ∧ HRel (gx X T) w1 H1 h1 ∧ Le w0 H0 w1 H1 ∧ Reps (gx X T) w1 H1 vs ds ∧ ds.length = n ∧ g ds = some items ∧ PostS (gx X T) w0 H0 Wn (loopS ta b items ρ h1) Dn)
      (f := t) (k := fun ds h1 => if ds.length = n then (match g ds with | some items => noExc (loopS ta b items ρ h1) | none => .bad) else .bad) S R L pp' fun w1 H1 h1 ds vs L1 S1 R1 L01 rr p1 => by
          by_cases hln : ds.length = n
          · rw [if_pos hln] at p1
            cases eg : g ds with
            | none => rw [eg] at p1; exact p1.elim
            | some items =>
              rw [eg] at p1
              exact ⟨w1, h1, ds, items, S1, R1, L01, rr, hln, eg, p1.noExc⟩
          · rw [if_neg hln] at p1; exact p1.elim
    refine PySem.W.callWith_K (h₀ := X.base) I.ok.mod.kin hk (thn ((ha w0.L).run cpos pins s σ H _ I st') fun us s1 ⟨vs, H1, I1, r, q⟩ => ⟨I1.kIn, ?_⟩) he hpl
    obtain ⟨w1, h1, ds, items, S1, R1, L1, rr, hln, eg, p1⟩ := q
    have hvs : vs.length = ps.length := by rw [rr.length, hln, hpn]
    have bd : BindsTo s1 (PySem.W.fnOf x qual params gbody scope dV kV doc pm an cdv ct) ⟨us, []⟩ (ps.zip us) := by
      have := hbi s1 us I1.kIn (by rw [List.append_nil, ← r.length, hvs])
      rw [List.append_nil] at this
      exact this
    refine wpAny_call (codeAny_mono (gen_call (k := k + 1) lk hcd GS hr I1.env0 hvs bd r) fun r2 s2 hm2 => ?_)
    obtain ⟨a, gi, s3, e1, rest⟩ := id hm2
    subst e1
    exact ⟨s1, H1, vs, w1, h1, ds, items, I1, S1, R1, L1, rr, hvs, eg, p1, hm2⟩
  · -- the loop
    rintro v s2 ⟨s1, H1, vs, w1, h1, ds, items, I1, S1, R1, L1, rr, hvs, eg, p1, hm2⟩
    obtain ⟨a, gi, s3, e1, hsz, hlt, isg, hgs, hos, hbare, hg3, hgi, kp1, kp2, hG⟩ := hm2
    cases e1
    obtain ⟨go, nm, qn, ego, gc, gdt, gsl⟩ := id isg
    have hgo : ∀ hh : Heap, hh.get? a = some go → hh.IsGen a gi := fun hh q => ⟨go, nm, qn, q, gc, gdt, gsl⟩
    refine wpAny_pyIter_gen isg ?_
    let Xg : Cx := gcxOf X.prog X.w X.K X.mg X.base N qual scope f cdv X.A.in1 X.stack s1 H1 (fun _ _ _ => False) []
    have kin : Kin X Xg := ⟨rfl, rfl, rfl, rfl, rfl, rfl⟩
    have hcalm : X.A.handled = none := I.ok.hd hc
    have old : Older X Xg pins := ⟨I1.sz, I1.lt, fun y c e => by obtain ⟨v, z⟩ := I1.cell y c e; exact z.lt, fun q hq => Heap.lt_size (I1.pin q hq).1⟩
    have J0 := fun Rr => hG X.A.in1 (fun _ _ _ => False) Rr hcalm I.ok.frames
    have kp : ∀ b o, s1.heap.get? b = some o → s2.heap.get? b = some o := fun b o e => kp2 b o (kp1 b o e)
    have I2 : L2.Inv X pins σ H1 s2 := I1.call' (ch := []) hos (Un.kept kp) (I1.hok.kept kp) hbare fun b z => absurd z (by simp)
    have Ha : H1 a = none := I1.hok.fresh (Nat.le_of_lt hlt)
    have I3 := Inv.lay (own := [a]) I2 (fun b hb => by rw [List.mem_singleton.mp hb]; exact Ha) fun b hb => by
      rw [List.mem_singleton.mp hb]
      exact ⟨.inr (Nat.le_trans I1.sz (Nat.le_of_lt hlt)), Nat.ne_of_gt (Nat.lt_trans I1.lt hlt), fun y c e => Nat.ne_of_lt (Nat.lt_trans (old.cell y c e) hlt), fun q hq => Nat.ne_of_lt (Nat.lt_trans (old.pin q hq) hlt)⟩
    obtain ⟨le3, R3⟩ := R1.lay (hp := s2.heap) (own := [a]) fun b hb => by rw [List.mem_singleton.mp hb]; exact Ha
    have wakes : Wakes Xg T items X.A.in1 (.fresh (.func gbody (envOfC qual scope s1.heap.objs.size f cdv))) 0 ⟨w1.F, fun _ => False, fun _ => none⟩ H1 [] (start N vs) := by
      intro n' g' s' hn hk0 hR hle hnt htb hI
      have hn' : n' = items.length := by omega
      subst hn'
      rw [hgd ds] at eg
      unfold runG at eg
      split at eg
      case isFalse => cases eg
      rename_i hno
      obtain ⟨⟨o1, ρ1⟩, e2, e3⟩ := Option.map_eq_some_iff.mp eg
      subst e3
      have rB : Reps (gx X T) (wB g'.H0 g'.R) g'.H0 vs ds := Reps.le (w := ⟨w1.F, fun _ => False, fun _ => none⟩) (Reps.noM (L' := fun _ => False) rr hno) ⟨fun b f => by show g'.R b; rw [hR]; exact f, fun _ z => z.elim, fun _ _ z => (by cases z), hle.hF, fun _ _ z => z.elim, hle.tup, hle.frz⟩
      refine gs_body (X := Xg) (T := T) (sg := start N vs) (H := g'.H0) (w := wB g'.H0 g'.R) (hgb X.A.in1 X.stack s1 H1 _ (hr.in1.deeper _)) rfl hk0 ⟨hI, Le.refl _ _, hrel_wB (fun b hb => hnt b (by rw [hR] at hb; exact hb)) htb, ?_⟩ e2
      exact rB.start
    have nap0 : Nap X Xg T items a gi go 0 (layH s2.heap [a] H1) w1 s2 := by
      have nla : ∀ b, b ≠ a → layH s2.heap [a] H1 b = H1 b := fun b hb => layH_out fun z => hb (List.mem_singleton.mp z)
      have J1 := J0 (fun _ => False)
      refine ⟨⟨_, s3, [], start N vs, H1, ⟨w1.F, fun _ => False, fun _ => none⟩, _, J1, ⟨fun o e => kp2 _ o e, fun y c e o ho => kp2 c o ho, fun q hq => by simp at hq, ?_, fun y c e => ?_, fun q hq => by simp at hq⟩, hgs, wakes, ⟨fun _ f => f, fun _ z => z, fun _ _ z => z, fun b o f q => le3.hF b o f q, fun _ _ z => z.elim, le3.tup, le3.frz⟩, fun b f => f⟩, layH_in List.mem_cons_self ego⟩
      · exact (nla _ (Nat.ne_of_lt hlt)).trans (I1.hok.fresh (Nat.le_refl _))
      · have : c < a := by
          obtain ⟨v, o, ho, _⟩ := J1.inv.cell y c e
          rw [← hsz]; exact Heap.lt_size ho
        exact (nla _ (Nat.ne_of_lt this)).trans (J1.inv.freeC y c e)
    have room : X.A.depth < recursionLimit := hr.depth
    refine code_for_gen (K := GWk Xg T items) (g := gi) hcalm room (fun m s4 => ∃ (kk : Nat) (sc : L2.St) (H4 : Hp) (wk : Wd) (ρ4 : Rho) (h4 : Hl), m + kk = items.length ∧ L2.Inv X pins sc H4 s4 ∧ Nap X Xg T items a gi go kk H4 wk s4 ∧ SRel (gx X T) w0.L wk H4 ρ4 sc ∧ HRel (gx X T) wk H4 h4 ∧ Le w0 H0 wk H4 ∧
        PostS (gx X T) w0 H0 Wn (loopS ta b (items.drop kk) ρ4 h4) Dn) ?_ items.length ⟨0, σ, _, w1, ρ, h1, by omega, I3, nap0, S1.le le3, R3, L1.trans le3, p1⟩
    rintro m s4 ⟨kk, sc, H4, wk, ρ4, h4, hmk, I4, nap, S4, R4, L4, p4⟩
    obtain ⟨gs, t0, hgs4, goes, fin, yl⟩ := nap_wake kin (fun _ => rfl) old nap I4 R4 hmk
    refine ⟨I4.nolimit, hgo _ (I4.hok a _ nap.go).1, gs, t0, hgs4, goes, fun r s5 hr5 => ?_, fun v5 s5 gs' hsu hba hsz5 hy => ?_⟩
    · obtain ⟨hrr, hkk, Hg, wg, I5, le5, R5⟩ := fin r s5 hr5
      refine ⟨hrr, fun h' hk' => ?_⟩
      rw [hkk, List.drop_of_length_le (Nat.le_refl _)] at p4
      refine wpAny_pure ?_
      have I6 : L2.Inv X pins sc Hg (s5.setGen gi .finished) := inv_gens I5 (bare_set I5.bare rfl)
      have I7 : L2.Inv X pins sc Hg { s5.setGen gi .finished with heap := h' } := I6.call' (ch := []) rfl (Un.kept hk') (I6.hok.kept hk') I6.bare fun b z => absurd z (by simp)
      exact ⟨sc, Hg, I7, p4.now (S4.le le5) R5 (L4.trans le5)⟩
    · obtain ⟨go5, xv, d, w', Hz, rx, hit, I5, le5, R5, rep, next⟩ := yl v5 s5 gs' hsu hba hsz5 hy
      refine ⟨hgo _ go5, ?_⟩
      have hkl : kk < items.length := (List.getElem?_eq_some_iff.mp hit).1
      have ed : items.drop kk = d :: items.drop (kk + 1) := by
        rw [List.drop_eq_getElem_cons hkl]
        congr 1
        exact (List.getElem?_eq_some_iff.mp hit).2
      rw [ed] at p4
      unfold loopS at p4
      cases et : ta d ρ4 h4 with
      | none => rw [et] at p4; exact p4.elim
      | some q2 =>
        obtain ⟨ρ2, hh⟩ := q2
        rw [et] at p4
        simp only at p4
        have L5 : Le w0 H0 w' Hz := L4.trans le5
        have ag := pg_still (E := notedBy (model X.prog X.w) X.A X.env fun e s' => cameBackBy (model X.prog X.w) X.A X.env X.xe e s') hta I5 rx (Q := fun sc6 H6 => ∃ w6, Le (w'.mid w0) Hz w6 H6 ∧ HRel (gx X T) w6 H6 hh ∧ SRel (gx X T) w0.L w6 H6 ρ2 sc6)
          ⟨w0.L, w', ρ4, h4, d, ρ2, hh, S4.le le5, R5, rep, et, fun σ3 w3 H3 L3 R3 S3 _ => ⟨w3, (Le.ofMid L5).thenZ (L3.ofZF), R3, S3⟩⟩
        refine wpAny_mono ag (fun _ s6 ⟨⟨sc6, H6, I6, w6, le6, R6, S6⟩, st6⟩ => ?_) fun _ _ z => z
        have bg := pss_still (E := notedBy (model X.prog X.w) X.A X.env fun e s' => cameBackBy (model X.prog X.w) X.A X.env X.xe e s') (hb (w'.mid w0) Hz) I6 (D := { nx := fun sc7 H7 => ∃ w7 ρ7 h7, SRel (gx X T) w0.L w7 H7 ρ7 sc7 ∧ HRel (gx X T) w7 H7 h7 ∧ Le (w'.mid w0) Hz w7 H7 ∧ PostS (gx X T) w0 H0 Wn (loopS ta b (items.drop (kk + 1)) ρ7 h7) Dn, ct := fun sc7 H7 => ∃ w7 ρ7 h7, SRel (gx X T) w0.L w7 H7 ρ7 sc7 ∧ HRel (gx X T) w7 H7 h7 ∧ Le (w'.mid w0) Hz w7 H7 ∧ PostS (gx X T) w0 H0 Wn (loopS ta b (items.drop (kk + 1)) ρ7 h7) Dn, bk := Dn.nx, rt := Dn.rt })
          ⟨w6, ρ2, hh, S6, R6, le6, by
            revert p4
            cases b ρ2 hh with
            | ok fl ρ7 h7 =>
              cases fl with
              | next => exact fun p4 w7 σ7 H7 L7 R7 S7 => ⟨w7, ρ7, h7, S7, R7, L7, p4⟩
              | cont => exact fun p4 w7 σ7 H7 L7 R7 S7 => ⟨w7, ρ7, h7, S7, R7, L7, p4⟩
              | brk => exact fun p4 w7 σ7 H7 L7 R7 S7 => p4.now S7 R7 ((Le.mid L5).trans L7)
              | ret d => exact fun p4 w7 σ7 H7 L7 R7 S7 => p4 w7 σ7 H7 ((Le.mid L5).trans L7) R7 S7
            | exc c fs ρ7 h7 => exact fun p4 w7 σ7 H7 C dx vs L7 R7 S7 => p4 w7 σ7 H7 C dx vs ((Le.mid L5).trans L7) R7 S7
            | bad => exact fun p4 => p4⟩
        refine wpAny_mono bg (fun fl s7 ⟨sp, st7⟩ => ?_) fun _ _ z => z
        have again : ∀ {sc7 : L2.St} {H7 : Hp}, L2.Inv X pins sc7 H7 s7 → (∃ w7 ρ7 h7, SRel (gx X T) w0.L w7 H7 ρ7 sc7 ∧ HRel (gx X T) w7 H7 h7 ∧ Le (w'.mid w0) Hz w7 H7 ∧ PostS (gx X T) w0 H0 Wn (loopS ta b (items.drop (kk + 1)) ρ7 h7) Dn) →
            ∃ m', m' < m ∧ ∃ (kk : Nat) (sc : L2.St) (H4 : Hp) (wk : Wd) (ρ4 : Rho) (h4 : Hl), m' + kk = items.length ∧ L2.Inv X pins sc H4 s7 ∧ Nap X Xg T items a gi go kk H4 wk s7 ∧ SRel (gx X T) w0.L wk H4 ρ4 sc ∧ HRel (gx X T) wk H4 h4 ∧ Le w0 H0 wk H4 ∧
              PostS (gx X T) w0 H0 Wn (loopS ta b (items.drop kk) ρ4 h4) Dn := by
          rintro sc7 H7 I7 ⟨w7, ρ7, h7, S7, R7, le7, p7⟩
          obtain ⟨H8, w8, I8, via, R8, lk8, nap8⟩ := next sc7 H7 w7 h7 s7 I7 ⟨le7.F, fun _ z => z.elim, le7.m, le7.hF, fun _ _ z => z.elim, le7.tup, le7.frz⟩ R7 (st6.trans st7)
          exact ⟨m - 1, by omega, kk + 1, sc7, H8, w8, ρ7, h7, by omega, I8, nap8, S7.via via, R8, lk8 w0 H0 L4 ((Le.mid L5).trans le7), p7⟩
        cases fl with
        | next => obtain ⟨sc7, H7, I7, q⟩ := sp; exact again I7 q
        | cont => obtain ⟨sc7, H7, I7, q⟩ := sp; exact again I7 q
        | brk => obtain ⟨sc7, H7, I7, q⟩ := sp; exact ⟨sc7, H7, I7, q⟩
        | ret u => exact sp
end
end Pf
end
section
set_option maxRecDepth 100000
set_option maxHeartbeats 1000000
namespace Pf
open PySem PySem.Spec PyProof.Rows L2 LamX

theorem tkF {P : Program} {w : World} {K : PySem.W.Frag} {mg : Str → Option Value} {base : Heap} {N : List Str} {qual : Str} {scope : Scope} {f : Addr} {cd : Value} {A : Around} {outer : List Env} {s : Shared} {H : Hp} {E : XK} :
    L2N.Takes (cxOf (L2N.CX P w) P w K mg base N qual scope f cd A outer s H E) (fun cls d _ H' => E cls d H') := L2N.takes_of rfl rfl rfl rfl
def dRef (f : Den D) : Den D := fun ρ h => match f ρ h with
  | .ok (.lst ds) h1 => .ok (.ref h1.length) (h1 ++ [.lst ds])
  | .ok _ _ => .bad
  | .exc c fs h1 => .exc c fs h1
  | .bad => .bad
/-- a goes from what is somebody's own to what is referenced -/
def Wd.toM (w : Wd) (r : Nat) (a : Addr) : Wd := { F := w.F, L := fun b => w.L b ∧ b ≠ a, m := fun q => if q = r then some a else w.m q }
theorem HRel.toM {G : Gx} {w : Wd} {H : Hp} {h : Hl} {a : Addr} {ds : List D} (R : HRel G w H h) (hL : w.L a) (ho : OwnRep G w H a (.lst ds)) : HRel G (w.toM h.length a) H (h ++ [.lst ds]) := by
  have lt : ∀ {r b}, w.m r = some b → r < h.length := fun {r b} e => by
    obtain ⟨o, e1, _⟩ := R.live r b e
    exact (List.getElem?_eq_some_iff.mp e1).1
  have mm : ∀ {r b}, (w.toM h.length a).m r = some b → (r = h.length ∧ b = a) ∨ w.m r = some b := fun {r b} e => by
    by_cases hr : r = h.length
    · subst hr
      simp only [Wd.toM, if_true] at e
      cases e; exact .inl ⟨rfl, rfl⟩
    · simp only [Wd.toM, if_neg hr] at e; exact .inr e
  have sf : Soft G w H (w.toM h.length a) H := ⟨fun _ f => f, fun r b e => by simp only [Wd.toM]; rw [if_neg (Nat.ne_of_lt (lt e))]; exact e, fun _ _ q => q, fun _ _ _ q => q, fun _ _ _ _ q => q, fun _ _ _ _ q => q, fun _ _ _ _ q => q, fun _ _ _ _ _ q => q⟩
  have nm : ∀ {r b}, w.m r = some b → b ≠ a := fun {r b} e z => by subst z; exact (R.mF r b e).2 hL
  refine ⟨fun r b e => ?_, fun r hr => ?_, fun r r' b e e' => ?_, fun r b e => ?_, fun b f l => R.FL b f l.1, fun b z => R.there b (z.elim .inl fun l => .inr l.1), fun b ps e => ⟨(R.ntb b ps e).1, fun l => (R.ntb b ps e).2 l.1⟩, R.tabs⟩
  · rcases mm e with ⟨rfl, rfl⟩ | e
    · obtain ⟨xs, e1, rr⟩ := ho
      exact ⟨.lst ds, by simp, xs, e1, rr.soft sf⟩
    · obtain ⟨o, e1, x⟩ := R.live r b e
      exact ⟨o, by rw [List.getElem?_append_left (lt e)]; exact e1, x.soft sf rfl⟩
  · rw [List.length_append, List.length_singleton] at hr
    by_cases hq : r = h.length
    · exact ⟨a, by simp only [Wd.toM]; rw [if_pos hq]⟩
    · obtain ⟨b, e⟩ := R.all r (by omega)
      exact ⟨b, by simp only [Wd.toM]; rw [if_neg hq]; exact e⟩
  · rcases mm e with ⟨rfl, rfl⟩ | e <;> rcases mm e' with ⟨rfl, z⟩ | e'
    · rfl
    · exact (nm e' rfl).elim
    · exact (nm e z).elim
    · exact R.inj r r' b e e'
  · rcases mm e with ⟨rfl, rfl⟩ | e
    · exact ⟨fun f => R.FL b f hL, fun l => l.2 rfl⟩
    · exact ⟨(R.mF r b e).1, fun l => (R.mF r b e).2 l.1⟩
theorem se_ref {X : Cx} {T : Tb} {Z : Addr → Prop} {W : WX} {e : Expr} {f : Den D} (h : SF X T Z W e f) : SE X T Z W e (dRef f) := pe_imp h fun σ H Q ⟨w, ρ, h, S, R, p⟩ => by
  refine ⟨w, ρ, h, S, R, ?_⟩
  revert p
  unfold dRef
  cases f ρ h with
  | bad => exact fun p => p
  | exc c fs h1 => exact fun p => p
  | ok d h1 =>
    cases d with
    | lst ds =>
      intro p w' H' L R' a hL nL ho
      have lt : ∀ {r b}, w.m r = some b → r < h1.length := fun {r b} e => by
        obtain ⟨o, e1, _⟩ := R'.live r b (L.m r b e)
        exact (List.getElem?_eq_some_iff.mp e1).1
      exact p (w'.toM h1.length a) H' ⟨L.F, fun b l => ⟨L.L b l, fun z => nL (z ▸ l)⟩, fun r b e => by simp only [Wd.toM]; rw [if_neg (Nat.ne_of_lt (lt e))]; exact L.m r b e, L.hF, L.hL, L.tup, L.frz⟩ (R'.toM hL ho) _ (.ref (by simp [Wd.toM]))
    | _ => exact fun p => p.elim
section
variable {G : Gx} {Z : Addr → Prop} {W : WX}
theorem comp_goF {f : Den (List D)} {tg : Tg} {ns vs : List Nat} {c : Den Bool} {e : Den D} (hns : ∀ i ∈ ns, i ∈ vs) {σ : L2.St} {H : Hp} {Q : VK} (q : tFr G Z W (dComp vs f tg c e) σ H Q) :
    tLc (tIt G Z W f) (tG G true tg ns) (tTe G Z W0 c) (tE G Z W0 e) vs σ H Q := by
  obtain ⟨w, ρ, h, S, R, p⟩ := q
  refine ⟨w, ρ, h, S, R, p.bind.imp fun w1 H1 h1 ds e1 R1 p1 J FJ A hA => ?_⟩
  have nL := (R1.fresh hA).2.1
  have S1 := S.le e1
  refine ⟨fun i m H' => m = ds.length - i ∧ ∃ w' h' acc ys, HRel G w' H' h' ∧ Le w1 H1 w' H' ∧ w'.L A ∧ H' A = some (.lst acc) ∧ Reps G w' H' acc ys ∧ Post G w1 H1 ((cmpS tg c e (wipeR ρ vs) (ds.drop i) ys h').bind fun xs h2 => Res.ok (D.lst xs) h2) (fun w' H' _ d => ∀ a, w'.L a → ¬ w.L a → OwnRep G w' H' a d → Q (.ref a) H') (fun c d H' => W c d σ H'),
    ⟨ds.length, rfl, w1.addL A, h1, [], [], R1.addL hA, Le.addL hA, .inr rfl, upd_same, .nil, p1⟩, ?_⟩
  rintro i m H' ⟨rfl, w', h', acc, ys, R', L', hL, hD, ra, p2⟩
  have F' := FJ w' H' h' ⟨L'.F, fun _ z => z.elim, L'.m, L'.hF, fun _ _ z => z.elim, L'.tup, L'.frz⟩ R' i
  cases ex : ds[i]? with
  | none =>
    have hi : ds.length ≤ i := List.getElem?_eq_none_iff.mp ex
    rw [List.drop_of_length_le hi] at p2
    exact .inl ⟨F'.2 hi, p2 w' H' L' R' A hL (fun z => nL (e1.L A z)) ⟨acc, hD, ra⟩⟩
  | some x =>
    have hi : i < ds.length := (List.getElem?_eq_some_iff.mp ex).1
    have ed : ds.drop i = x :: ds.drop (i + 1) := by
      rw [List.drop_eq_getElem_cons hi]
      congr 1
      exact (List.getElem?_eq_some_iff.mp ex).2
    rw [ed] at p2
    obtain ⟨go, yld⟩ := F'.1 x ex
    refine .inr ⟨go, fun H2 => ∃ w2 h2 acc2 ys2, HRel G w2 H2 h2 ∧ Le w1 H1 w2 H2 ∧ w2.L A ∧ H2 A = some (.lst acc2) ∧ Reps G w2 H2 acc2 ys2 ∧ Post G w1 H1 ((cmpS tg c e (wipeR ρ vs) (ds.drop (i + 1)) ys2 h2).bind fun xs h3 => Res.ok (D.lst xs) h3) (fun w' H' _ d => ∀ a, w'.L a → ¬ w.L a → OwnRep G w' H' a d → Q (.ref a) H') (fun c d H' => W c d σ H'), fun H2 z => ⟨ds.length - (i + 1), by omega, rfl, z⟩, fun v H2 y => ?_⟩
    obtain ⟨w2, L2, R2, r2⟩ := yld v H2 y
    cases et : tg x (wipeR ρ vs) h' with
    | none => unfold cmpS at p2; rw [et] at p2; exact p2.elim
    | some q2 =>
      obtain ⟨ρ2, hh⟩ := q2
      refine ⟨Z, w2, wipeR ρ vs, h', x, ρ2, hh, ((S1.le L').wipe vs).le L2, R2, r2, et, fun σ3 w3 H3 L3z R3 S3 hw => have L3 := L3z.ofZT; ⟨(hw vs hns).trans (wipe_wipe σ vs), ?_⟩⟩
      have L3' : Le w1 H1 w3 H3 := (L'.trans L2).trans L3
      have k3 : ∀ w4 H4, Le w3 H3 w4 H4 → w4.L A ∧ H4 A = some (.lst acc) ∧ Reps G w4 H4 acc ys := fun w4 H4 L4 =>
        let l := (L2.trans L3).trans L4
        ⟨l.L A hL, l.hL A _ hL hD, ra.le l⟩
      unfold cmpS at p2
      rw [et] at p2
      simp only at p2
      refine ⟨w3, ρ2, hh, S3, R3, ?_⟩
      revert p2
      cases c ρ2 hh with
      | ok b h4 =>
        cases b with
        | false =>
          intro p2 w4 H4 L4 R4
          obtain ⟨l1, l2, l3⟩ := k3 w4 H4 L4
          exact ⟨w4, h4, acc, ys, R4, L3'.trans L4, l1, l2, l3, p2⟩
        | true =>
          intro p2 w4 H4 L4 R4
          show tE G Z W0 e σ3 H4 _
          refine ⟨w4, ρ2, h4, S3.le L4, R4, ?_⟩
          simp only at p2
          revert p2
          cases e ρ2 h4 with
          | ok y h5 =>
            intro p2 w5 H5 L5 R5 v5 rv5
            obtain ⟨l1, l2, l3⟩ := k3 w5 H5 (L4.trans L5)
            simp only at p2
            split at p2
            · rename_i hl
              obtain ⟨g1, g2, g3⟩ := grown ((L3'.trans L4).trans L5) R5 l1 nL l2 l3 rv5
              exact ⟨acc, l2, by rw [l3.length, szl]; exact hl, w5, h5, _, _, g2, g1, l1, upd_same, g3, p2⟩
            · exact p2.elim
          | exc cc fs h5 => exact fun p2 => p2.elim
          | bad => exact fun p2 => p2.elim
      | exc cc fs h4 => exact fun p2 => p2.elim
      | bad => exact fun p2 => p2.elim
end
section
variable {X : Cx} {T : Tb} {Z : Addr → Prop} {W : WX} {elt tg iter : Expr} {ifs : List Expr} {scope : Scope} {own : List (Str × Nat)} {pos : Pos} {f : Den (List D)} {g : Tg} {ns : List Nat} {c : Den Bool} {e : Den D}
theorem sf_comp (hc : X.calm = true) (hN : X.N.Nodup) (hi : SI X T Z W tg iter f) (ok : blkC X.N X.env.scope scope own = true) (hns : ∀ i ∈ ns, i ∈ own.map (·.2))
    (hg : Blk X scope fun Y => SG Y T true tg g ns) (ht : Blk X scope fun Y => STs Y T Z W0 ifs c) (he : Blk X scope fun Y => SE Y T Z W0 elt e) (hs : ∀ x, foldedSetIterable iter X.env x = pure x := by intro _; rfl) :
    SF X T Z W (.ListComp elt [⟨tg, iter, ifs, 0⟩] scope pos) (dComp (own.map (·.2)) f g c e) :=
  pe_imp (pe_lc hc hN hi (blkOk_by ok) (fun s H C cl fp => hg s H C cl fp) ht he hs) fun σ H Q q => comp_goF hns q
theorem ss_ownComp {i : Nat} {y : Str} {py spos : Pos} (hc : X.calm = true) (hN : X.N.Nodup) (hy : X.N[i]? = some y) (hyl : X.env.scope.names.lookup y = some .local)
    (hsw : swapsWith (.ListComp elt [⟨tg, iter, ifs, 0⟩] scope pos) (some (.Name y py)) spos.line X.env = pure true) (hi : ∀ Z, SI X T Z W tg iter f) (ok : blkC X.N X.env.scope scope own = true) (hns : ∀ i ∈ ns, i ∈ own.map (·.2))
    (hg : Blk X scope fun Y => SG Y T true tg g ns) (ht : ∀ Z, Blk X scope fun Y => STs Y T Z W0 ifs c) (he : ∀ Z, Blk X scope fun Y => SE Y T Z W0 elt e) (hs : ∀ x, foldedSetIterable iter X.env x = pure x := by intro _; rfl) :
    SS X T W (.Assign [.Name y py] (.ListComp elt [⟨tg, iter, ifs, 0⟩] scope pos) spos) (sOwn i (dComp (own.map (·.2)) f g c e)) := fun w0 H0 =>
  ps_imp (ps_setLc hc hN hy hyl hsw (hi w0.L) (blkOk_by ok) (fun s H C cl fp => hg s H C cl fp) (ht w0.L) (he w0.L) hs) fun D σ H ⟨w, ρ, h, S, R, L, p⟩ =>
    comp_goF hns ⟨w, ρ, h, S, R, (Post.of_s S L p).imp fun w1 H1 h1 d e1 R1 p1 a hL nL ho => p1.now ((S.le e1).seto hL (fun z => nL (L.L a z)) ho fun j e' hj hne hz => by
      obtain ⟨b, q1, q2, _⟩ := S.own j e' hj
      rw [hz] at q1; cases q1; exact nL q2) R1 (L.trans e1)⟩
end
def dStrI (c : Str) (q : List D → Hl → Res D) (g : Den D) : Den D := fun ρ h => (g ρ h).bind fun d h1 => if insOf c "" (atR d h1) then (match q [d] h1 with
  | .ok (.str z) h2 => .ok (.str z) h2
  | _ => .bad) else .bad
section
variable {X : Cx} {T : Tb} {Z : Addr → Prop} {W : WX} {o : Expr} {g : Den D} {pos p : Pos} {k : Nat} {c : Str} {q : List D → Hl → Res D}
/-- how it is run: within the two calls of str -/
theorem strI_go {pins : List (Addr × Obj)} {σ : L2.St} {H : Hp} {s : Shared} {Q : VK} {a C dx f : Addr} {fs : List (Str × V)} {E : Value → Shared → Prop} (hu : X.A.in1.in1.units < cLine) (I : L2.Inv X pins σ H s) (ea : H a = some (.ins C dx fs))
    (hs : PySem.W.findIn X.K (.ref C) "__str__" = some (some (.ref f))) (hf : PySem.W.isFn X.K (.ref f) = true)
    (h : codeAny (model X.prog X.w) X.A.in1.in1 (.call (.ref f) ⟨[.ref a], []⟩) (fun r s' => match r with
      | .ok (.ret u) => EP X pins σ (fun v H' => ∃ z, v = .str z ∧ Q v H') u s'
      | _ => False) s) : wpAny (model X.prog X.w) X.A (call (.type "str") [.ref a]) (EP X pins σ Q) E s := by
  obtain ⟨mA, O, _, _, _, _⟩ := ins_get I.hok ea
  obtain ⟨od, J, _⟩ := O.look
  refine PySem.W.kso_call hu I.kIn J hs hf (wpAny_call (codeAny_mono h fun r s' hq => ?_))
  cases r with
  | error e => exact hq.elim
  | ok fl =>
    cases fl with
    | ret u =>
      obtain ⟨v, H', I', rv, z, rfl, q⟩ := hq
      obtain ⟨t, rfl⟩ := rv
      exact ⟨.str z, H', I', ⟨t, rfl⟩, q⟩
    | next => exact hq.elim
    | brk => exact hq.elim
    | cont => exact hq.elim
theorem strI_at {w : Wd} {H : Hp} {h : Hl} {d : D} {x : V} {C : Addr} {Q : VK} {EX : Value → Option Addr → Hp → Prop} (R : HRel (gx X T) w H h) (r : Rep (gx X T) w H x d) (hm : (gx X T).mg c = some (.ref C))
    (p1 : Post (gx X T) w H (if insOf c "" (atR d h) then (match q [d] h with
  | .ok (.str z) h2 => .ok (.str z) h2
  | _ => Res.bad) else Res.bad) (QD (gx X T) Q) EX) : ∃ a dx vs, x = .ref a ∧ H a = some (.ins C dx vs) ∧ Post (gx X T) w H (q [d] h) (QD (gx X T) fun v H' => ∃ z, v = .str z ∧ Q v H') (fun _ _ _ => False) := by
  by_cases hi : insOf c "" (atR d h) = true
  · rw [if_pos hi] at p1
    have lk := (View.look R (.inl r) : Look (gx X T) w H x (atR d h))
    revert hi lk
    generalize atR d h = d'
    intro hi lk
    cases d' with
    | ins c' fs =>
      simp only [insOf, Bool.and_eq_true, decide_eq_true_eq, Option.isNone_iff_eq_none] at hi
      obtain ⟨rfl, hl0⟩ := hi
      obtain ⟨a, C', dx, vs, rfl, h0, h2, h3⟩ := lk.ins
      rw [hm] at h0
      cases h0
      refine ⟨a, dx, vs, rfl, h2, ?_⟩
      revert p1
      cases q [d] h with
      | ok z h3 =>
        cases z with
        | str z =>
          intro p1 w' H' L R' v rv
          cases rv
          exact ⟨z, rfl, p1 w' H' L R' _ (.str z)⟩
        | _ => exact fun p1 => p1.elim
      | exc c fs h3 => exact fun p1 => p1.elim
      | bad => exact fun p1 => p1.elim
    | _ => cases hi
  · rw [if_neg hi] at p1; exact p1.elim
theorem se_strI (U : MethU X.prog X.w X.base (gx X T) k c "__str__" 0 q) (hr : Room (k + 2) X.A) (hg : Gl X "str") (hm : X.mg "str" = none) (ho : SE X T Z W o g) (hst : starEach [o] X.env = (false, eval o X.env) :: starEach [] X.env := by rfl) :
    SE X T Z W (.Call (.Name "str" p) [o] [] pos) (dStrI c q g) := by
  obtain ⟨C, f, fd, ps, hmc, hcl, hme, F, hb⟩ := U.is
  refine ⟨fun pins s σ H Q I hq => ?_⟩
  refine wpAny_Call_Name_kw (ld_blt I hg hm (u := .type "str") rfl ?_ (by decide) (by decide))
  have st : tE (gx X T) Z W g σ H fun x H1 => ∃ a dx vs w1 h1 d, x = .ref a ∧ H1 a = some (.ins C dx vs) ∧ HRel (gx X T) w1 H1 h1 ∧ Rep (gx X T) w1 H1 x d ∧ Post (gx X T) w1 H1 (q [d] h1) (QD (gx X T) fun v H' => ∃ z, v = .str z ∧ Q v H') (fun _ _ _ => False) := by
    obtain ⟨w, ρ, h, S, R, pp⟩ := hq
    exact step_E S R pp fun w1 H1 h1 d x e1 S1 R1 r1 p1 => by
      obtain ⟨a, dx, vs, ex, ea, p2⟩ := strI_at R1 r1 hmc p1
      exact ⟨a, dx, vs, w1, h1, d, ex, ea, R1, r1, p2⟩
  refine PyProof.Rows.callWith_type1 ?_ hst rfl
  rw [hst]
  show wpAny _ _ (spliced ((false, eval o X.env) :: backTo pos (starEach [] X.env))) _ _ s
  refine Calls.spliced_cons (thn (ho.run pins s σ H _ I st) fun u s1 ⟨x, H1, I1, rx, a, dx, vs, w1, h1, d, ex, ea, R1, r1, p1⟩ => ?_)
  refine Calls.spliced_nil ?_
  subst ex
  obtain rfl : u = Value.ref a := rx
  have hr2 : Room k X.A.in1.in1 := (Room.in1 (Room.in1 hr))
  refine strI_go hr2.units0 I1 ea hme.at_ hme.fn ?_
  have sp : spF (gx X T) 1 q [.ref a] H1 (fun v H' => ∃ z, v = .str z ∧ Q v H') (fun _ _ _ => False) := ⟨rfl, w1, h1, [d], R1, .cons r1 .nil, p1⟩
  have hl : ([Value.ref a] : List Value).length = ps.length := F.len _ _ _ _ sp
  have b := hb s1 [.ref a] I1.kIn (by rw [List.append_nil]; exact hl)
  rw [List.append_nil] at b
  refine codeAny_mono (F.run X.A.in1.in1 X.stack s1 H1 ⟨[.ref a], []⟩ [.ref a] [.ref a] _ (fun _ _ _ => False) hr2 I1.env0.in1.in1 b (.cons rfl .nil) sp) fun r s' hq => ?_
  cases r with
  | error e => obtain ⟨_, _, _, _, _, _, _, _, _, _, _, _, z⟩ := hq; exact z.elim
  | ok fl =>
    cases fl with
    | ret u => exact I1.after hq
    | next => exact False.elim hq
    | brk => exact False.elim hq
    | cont => exact False.elim hq
end
end Pf
end
section
set_option maxRecDepth 100000
set_option maxHeartbeats 1000000
namespace Pf
open PySem PySem.Spec PyProof.Rows L2 LamX

def reprP (p : PyData) : Option Str := if p.showable = true ∧ p.hasDict = false ∧ p.depth ≤ 50 ∧ p.shown.length ≤ 16777216 then some p.shown else none
def reprO (d : D) : Option Str := (py d).bind reprP
def reprF : List D → Option D
  | [d] => (reprO d).map .str
  | _ => none
def rRepr (K : PySem.W.Frag) : List V → Hp → VK → Prop := fun xs H Q => ∃ x p z, xs = [x] ∧ Dp K H x p ∧ reprP p = some z ∧ Q (.str z) H
theorem call_repr {X : Cx} (hu : RmU X.A) (hg : X.A.guards = some []) : CallR X (.builtin "repr") (rRepr X.K) := by
  intro pins s σ H xs us Q I r h
  obtain ⟨x, p, z, rfl, dp, hz, q⟩ := h
  obtain ⟨u, rfl, ru⟩ := vals1 r
  unfold reprP at hz
  split at hz
  case isFalse => cases hz
  rename_i hc
  cases hz
  obtain ⟨h1, h2, h3, h4⟩ := hc
  obtain ⟨as, rd⟩ := Dp.reads I p x u dp ru
  have fin : ∀ h' t tk, (∀ b o, s.heap.get? b = some o → h'.get? b = some o) → EP X pins σ Q (.str p.shown t) { s with heap := h', toks := tk } := fun h' t tk hk =>
    ⟨.str p.shown, H, I.un (Un.kept hk) (I.hok.kept hk), ⟨t, rfl⟩, q⟩
  cases p with
  | none =>
    have e : u = Value.none := by cases rd; rfl
    subst e
    exact PySem.P.repr_of_none (fin s.heap _ _ fun _ _ e => e)
  | bool b =>
    have e : u = Value.bool b := by cases rd; rfl
    subst e
    exact PySem.P.repr_of_bool (fin s.heap _ _ fun _ _ e => e)
  | int i =>
    obtain ⟨t, e⟩ : ∃ t, u = Value.int i t := by cases rd; exact ⟨_, rfl⟩
    subst e
    exact PySem.P.repr_of_int (by simpa [PyData.showable] using h1) (fin s.heap _ _ fun _ _ e => e)
  | str y =>
    obtain ⟨t, e⟩ : ∃ t, u = Value.str y t := by cases rd; exact ⟨_, rfl⟩
    subst e
    exact PySem.P.repr_of_str (fin s.heap _ _ fun _ _ e => e) (by rw [szl]; exact h4)
  | _ =>
    obtain ⟨a, e⟩ : ∃ a, u = Value.ref a := by cases rd; exact ⟨_, rfl⟩
    subst e
    refine repr_of_reads' rd h1 (fun z => by rw [h2] at z; cases z) hg (by unfold RmU at hu; omega) (fun _ _ e => e) (fun h' t tk hk => fin h' t tk hk) (by rw [szl]; exact h4)
theorem ok_reprF {G : Gx} : FnR1 G (rRepr G.K) reprF := fun w H h xs ds z Q EX R r e p => by
  cases ds with
  | nil => cases e
  | cons d ds =>
    cases ds with
    | cons _ _ => cases e
    | nil =>
      obtain ⟨v, rfl, rv⟩ := reps1 r
      have e : Option.map D.str ((py d).bind reprP) = some z := e
      cases ep : py d with
      | none => rw [ep] at e; cases e
      | some pp =>
        rw [ep] at e
        simp only [Option.bind_some] at e
        obtain ⟨y, ey, rfl⟩ := Option.map_eq_some_iff.mp e
        exact ⟨v, pp, y, rfl, rv.dp ep, ey, p.now R _ (.str y)⟩
end Pf
end
section
set_option maxRecDepth 100000
set_option maxHeartbeats 1000000
namespace Pf
open PySem PySem.Spec PyProof.Rows L2 LamX

/-- a def's promise where no repr is under way -/
structure FnG (P : Program) (w : World) (K : PySem.W.Frag) (mg : Str → Option Value) (base : Heap) (CX : CXT) (k : Nat) (f : Addr) (fd : FuncData) (ps : List Str) (sp : Sp) : Prop where
  len : ∀ vs H Q E, sp vs H Q E → vs.length = ps.length
  go : ∀ (A : Around) (outer : List Env) (s : Shared) (H : Hp) (args : Args) (us : List Value) (vs : List V) (Q : VK) (E : XK), A.guards = some [] → Room k A → Env0 P w K mg base A outer s H → BindsTo s fd args (ps.zip us) → Vals vs us → sp vs H Q E →
    codeAny (model P w) A (.call (.ref f) args) (CR CX outer P w H s Q E) s
section
variable {P : Program} {w : World} {K : PySem.W.Frag} {mg : Str → Option Value} {base : Heap} {T : Tb} {x qual : Str} {params : Arguments} {body : List Stmt} {scope : Scope} {dvs : List V} {kws : List (Str × V)} {f : Addr} {fd : FuncData}
theorem fn_bodyG {N ps : List Str} {k : Nat} {b : SDen} (F : FunD K x qual params body scope dvs kws f fd) (S : FnScope N ps scope)
    (hb : ∀ (cdv : Value) (A : Around) (outer : List Env) (s : Shared) (H : Hp) (E : XK), fd.code = cdv → A.guards = some [] → Room k (A.deeper (envOfC qual scope s.heap.objs.size f cdv)) → SB (cxOf (L2N.CX P w) P w K mg base N qual scope f cdv A outer s H E) T (fun cls d _ H' => E cls d H') body b) :
    FnG P w K mg base (L2N.CX P w) (k + 1) f fd ps (spF ⟨K, mg, T⟩ ps.length (runB N.length b)) := by
  obtain ⟨oc, od, dV, kV, doc, pm, an, cdv, ct, osl, rfl, lk, hcd, _, _⟩ := F.ex
  refine ⟨fun vs H Q E h => h.1, fun A outer s H args us vs Q E hgd hr e0 hbd r h => ?_⟩
  obtain ⟨hl, w1, h1, ds, R, rr, p⟩ := h
  have kIn : K.In s.heap := e0.mod.kin.keeps fun b o e => (e0.bs b o e).1
  have noLim : s.heap.NoLimit := e0.mod.nolimit.keeps fun b o e => (e0.bs b o e).1
  have kinds : ∀ y ∈ ps.zip us, scope.names.lookup y.1 = some .local ∨ (scope.names.lookup y.1 = some .cell ∧ ((cellsFrom (s.heap.objs.size + 1) scope.names []).lookup y.1).isSome = true) := by
    rintro ⟨n, v⟩ hy
    refine (S.par n (List.of_mem_zip hy).1).imp id fun q => ⟨q, PySem.W.cellsFrom_some _ _ _ (.inl q)⟩
  refine codeAny_call_function hr.depth (kIn _ _ lk) rfl S.co S.gen rfl (PySem.W.codeRec_of kIn hcd) (hbd _ _ _ _ (wpAny_newFunctionEnv_cells S.kind kinds fun env he s1 ic => ?_))
  subst he
  refine ⟨noLim.keeps ic.toInCall.keep, codeAny_func ?_⟩
  have I : L2.Inv (cxOf (L2N.CX P w) P w K mg base N qual scope f cdv A outer s H E) [] (start N vs) H s1 := inv_start S hr.hd e0 hl r ic
  have run := (hb cdv A outer s H E rfl hgd (hr.deeper _) w1 H).run [] s1 (start N vs) H { nx := fun _ H' => Q .non H', rt := Q } I ⟨w1, _, h1, rr.start, R, Le.refl _ _, by
    unfold runB at p
    revert p
    cases b (ds.map Sl.v ++ List.replicate (N.length - ds.length) Sl.no) h1 with
    | ok fl ρ h2 =>
      cases fl with
      | next => exact fun p w2 σ H2 L R2 S2 => p w2 H2 L R2 _ .non
      | ret d => exact fun p w2 σ H2 L R2 S2 v rv => p w2 H2 L R2 v rv
      | brk => exact fun p => p.elim
      | cont => exact fun p => p.elim
    | exc c fs ρ h2 => exact fun p w2 σ H2 C dx vs L R2 S2 m z rf ff => p w2 H2 C dx vs L R2 m z rf ff
    | bad => exact fun p => p.elim⟩
  refine wpAny_mono run (fun fl s' hs => ?_) fun e s' hs => hs
  cases fl with
  | ret u => obtain ⟨v, σ', H', J, rv, q⟩ := hs; exact ⟨v, H', J.os, J.bare, J.base, J.hok, rv, q⟩
  | next => obtain ⟨σ', H', J, q⟩ := hs; exact ⟨.non, H', J.os, J.bare, J.base, J.hok, rfl, q⟩
  | brk => obtain ⟨_, _, _, q⟩ := hs; exact q.elim
  | cont => obtain ⟨_, _, _, q⟩ := hs; exact q.elim
end
/-- a def of the module, told by a plain function, where no repr is under way -/
structure FnUG (P : Program) (w : World) (base : Heap) (G : Gx) (k : Nat) (x : Str) (ps : List Str) (g : List D → Hl → Res D) : Prop where
  is : ∃ f fd, G.mg x = some (.ref f) ∧ PySem.W.keepIn G.K (.ref f) = true ∧ FnG P w G.K G.mg base (L2N.CX P w) k f fd ps (spF G ps.length g) ∧ Binds G.K fd ps []
theorem fnUG_of {P : Program} {w : World} {base : Heap} {G : Gx} {x qual : Str} {params : Arguments} {body : List Stmt} {scope : Scope} {f : Addr} {fd : FuncData} {N ps : List Str} {k : Nat} {b : SDen} (F : FunD G.K x qual params body scope [] [] f fd) (hm : G.mg x = some (.ref f)) (S : FnScope N ps scope)
    (hbd : ∀ (kV doc pm : Value) (an : Option Addr) (cdv ct : Value) (us : List Value), us.length = ps.length → bindArgs (PySem.W.fnOf x qual params body scope .none kV doc pm an cdv ct) ⟨us, []⟩ = pure (ps.zip us))
    (hb : ∀ (cdv : Value) (A : Around) (outer : List Env) (s : Shared) (H : Hp) (E : XK), fd.code = cdv → A.guards = some [] → Room k (A.deeper (envOfC qual scope s.heap.objs.size f cdv)) → SB (cxOf (L2N.CX P w) P w G.K G.mg base N qual scope f cdv A outer s H E) G.T (fun cls d _ H' => E cls d H') body b) : FnUG P w base G (k + 1) x ps (runB N.length b) :=
  ⟨f, fd, hm, F.kp, fn_bodyG (T := G.T) F S hb, F.bindsN hbd⟩
section
variable {X : Cx} {T : Tb} {Z : Addr → Prop} {W : WX} {e : Expr} {es : List Expr} {t : Den (List D)} {pos p : Pos} {x : Str} {k : Nat} {ps : List Str} {g : List D → Hl → Res D}
theorem se_callG (F : FnUG X.prog X.w X.base (gx X T) k x ps g) (hgd : X.A.guards = some []) (hr : Room k X.A) (hg : Gl X x) (tk : L2N.Takes X W) (ha : SA X T Z W (e :: es) t) (hl : ∀ ρ h ds h', t ρ h = .ok ds h' → ds.length = ps.length)
    (hdb : (x == ("__debug__" : Str)) = false := by decide) (he : starEach (e :: es) X.env = (false, eval e X.env) :: starEach es X.env := by rfl) (hpl : (backTo pos (starEach es X.env)).any (·.1) = false := by rfl) :
    SE X T Z W (.Call (.Name x p) (e :: es) [] pos) (dCall g t) := by
  obtain ⟨f, fd, hm, hk, Fn, hb⟩ := F.is
  refine ⟨fun pins s σ H Q I q => ?_⟩
  refine wpAny_Call_Name_kw (ld_glob I hg hm ?_ hdb)
  refine PySem.W.callWith_K (h₀ := X.base) I.ok.mod.kin hk (thn (ha.run pos pins s σ H _ I (call_go hl q)) fun us s1 ⟨vs, H1, I1, r, q1⟩ => ⟨I1.kIn, ?_⟩) he hpl
  have q1 : spF (gx X T) ps.length g (vs ++ []) H1 Q (fun c d H' => W c d σ H') := q1
  rw [List.append_nil] at q1
  have hlen : us.length = ps.length := r.length.symm.trans q1.1
  have bd := hb s1 us I1.kIn (by rw [List.append_nil]; exact hlen)
  rw [List.append_nil] at bd
  refine wpAny_call (codeAny_mono (Fn.go X.A X.stack s1 H1 ⟨us, []⟩ us vs Q (fun c d H' => W c d σ H') hgd hr I1.env0 bd r q1) fun r2 s2 hq => ?_)
  cases r2 with
  | error er => exact L2N.passAt tk σ pins H1 s1 er s2 I1 hq
  | ok fl =>
    cases fl with
    | ret u => exact I1.after hq
    | next => exact False.elim hq
    | brk => exact False.elim hq
    | cont => exact False.elim hq
end
end Pf
end
section
set_option maxRecDepth 100000
set_option maxHeartbeats 1000000
namespace Pf
open PySem PySem.Spec PyProof.Rows L2 LamX L2H

/-- nothing is raised -/
def calmR : Res D → Res D
  | .exc _ _ _ => .bad
  | r => r
section
variable {P : Program} {w : World} {K : PySem.W.Frag} {mg : Str → Option Value} {base : Heap} {T : Tb} {x qual : Str} {params : Arguments} {body : List Stmt} {scope : Scope} {dvs : List V} {kws : List (Str × V)} {f : Addr} {fd : FuncData}
theorem fn_bodyH {N ps : List Str} {k : Nat} {b : SDen} (F : FunD K x qual params body scope dvs kws f fd) (S : FnScope N ps scope)
    (hb : ∀ (cdv : Value) (A : Around) (outer : List Env) (s : Shared) (H : Hp) (E : XK) (p : Addr × Obj), Hot1 A p → RoomH k (A.deeper (envOfC qual scope s.heap.objs.size f cdv)) → SB (cxH (L2N.CX P w) P w K mg base N qual scope f cdv A outer s H E p) T Wn body b) :
    FnH P w K mg base (L2N.CX P w) (k + 1) f fd ps (spF ⟨K, mg, T⟩ ps.length (fun ds h => calmR (runB N.length b ds h))) := by
  obtain ⟨oc, od, dV, kV, doc, pm, an, cdv, ct, osl, rfl, lk, hcd, _, _⟩ := F.ex
  refine fn_ofH lk hcd S (fun vs H Q E h => h.1) fun A outer s H vs Q E p hot hr h => ?_
  obtain ⟨hl, w1, h1, ds, R, rr, pp⟩ := h
  refine ⟨_, hb cdv A outer s H E p hot hr w1 H, w1, _, h1, rr.start, R, Le.refl _ _, ?_⟩
  have pp : Post ⟨K, mg, T⟩ w1 H (calmR (runB N.length b ds h1)) (QD ⟨K, mg, T⟩ Q) E := pp
  unfold runB at pp
  revert pp
  cases b (ds.map Sl.v ++ List.replicate (N.length - ds.length) Sl.no) h1 with
  | ok fl ρ h2 =>
    cases fl with
    | next => exact fun p w2 σ H2 L R2 S2 => p w2 H2 L R2 _ .non
    | ret d => exact fun p w2 σ H2 L R2 S2 v rv => p w2 H2 L R2 v rv
    | brk => exact fun p => p.elim
    | cont => exact fun p => p.elim
  | exc c fs ρ h2 => exact fun p => p.elim
  | bad => exact fun p => p.elim
end
/-- a method, as it is called in an except suite -/
structure MethH (P : Program) (w : World) (base : Heap) (G : Gx) (k : Nat) (c m : Str) (n : Nat) (g : List D → Hl → Res D) : Prop where
  is : ∃ C f fd ps, G.mg c = some (.ref C) ∧ Cls G.K C ∧ Meth G.K C m f ∧ FnH P w G.K G.mg base (L2N.CX P w) k f fd ps (spF G (n + 1) g) ∧ Binds G.K fd ps []
theorem hot_suite {X : Cx} {a C dx : Addr} {oe : Obj} {pn : List (Addr × Obj)} (hz : L2N.Zn (.ref C) (some dx) oe) (hf : ∃ vs, oe.data = .fields vs) : HotC (X.suite a ((a, oe) :: pn)) := by
  obtain ⟨vs, e⟩ := hf
  exact ⟨(a, oe), ⟨rfl, vs, e, hz.2.2 vs e⟩, List.mem_cons_self⟩
section
variable {X : Cx} {T : Tb} {Z : Addr → Prop} {W : WX} {o : Expr} {g : Den D} {pos p : Pos} {k : Nat} {c : Str} {q : List D → Hl → Res D}
theorem se_strH (U : MethH X.prog X.w X.base (gx X T) k c "__str__" 0 q) (hot : HotC X) (hr : RoomH (k + 1) X.A) (hg : Gl X "str") (hm : X.mg "str" = none) (ho : SE X T Z W o g) (hst : starEach [o] X.env = (false, eval o X.env) :: starEach [] X.env := by rfl) :
    SE X T Z W (.Call (.Name "str" p) [o] [] pos) (dStrI c q g) := by
  obtain ⟨C, f, fd, ps, hmc, hcl, hme, F, hb⟩ := U.is
  obtain ⟨hp, hot1, hpn⟩ := hot
  refine ⟨fun pins s σ H Q I hq => ?_⟩
  refine wpAny_Call_Name_kw (ld_blt I hg hm (u := .type "str") rfl ?_ (by decide) (by decide))
  have st : tE (gx X T) Z W g σ H fun x H1 => ∃ a dx vs w1 h1 d, x = .ref a ∧ H1 a = some (.ins C dx vs) ∧ HRel (gx X T) w1 H1 h1 ∧ Rep (gx X T) w1 H1 x d ∧ Post (gx X T) w1 H1 (q [d] h1) (QD (gx X T) fun v H' => ∃ z, v = .str z ∧ Q v H') (fun _ _ _ => False) := by
    obtain ⟨w, ρ, h, S, R, pp⟩ := hq
    exact step_E S R pp fun w1 H1 h1 d x e1 S1 R1 r1 p1 => by
      obtain ⟨a, dx, vs, ex, ea, p2⟩ := strI_at R1 r1 hmc p1
      exact ⟨a, dx, vs, w1, h1, d, ex, ea, R1, r1, p2⟩
  refine PyProof.Rows.callWith_type1 ?_ hst rfl
  rw [hst]
  show wpAny _ _ (spliced ((false, eval o X.env) :: backTo pos (starEach [] X.env))) _ _ s
  refine Calls.spliced_cons (thn (ho.run pins s σ H _ I st) fun u s1 ⟨x, H1, I1, rx, a, dx, vs, w1, h1, d, ex, ea, R1, r1, p1⟩ => ?_)
  refine Calls.spliced_nil ?_
  subst ex
  obtain rfl : u = Value.ref a := rx
  have hr2 : RoomH k X.A.in1.in1 := ⟨by have := hr.dp; show X.A.depth + 3 * k + 5 < _; omega, by have := hr.un; show X.A.units + 1 + 1 + 16 * k + 200 < _; omega⟩
  refine strI_go (by have := hr2.un; omega) I1 ea hme.at_ hme.fn ?_
  have sp : spF (gx X T) 1 q [.ref a] H1 (fun v H' => ∃ z, v = .str z ∧ Q v H') (fun _ _ _ => False) := ⟨rfl, w1, h1, [d], R1, .cons r1 .nil, p1⟩
  have hl : ([Value.ref a] : List Value).length = ps.length := F.len _ _ _ _ sp
  have b := hb s1 [.ref a] I1.kIn (by rw [List.append_nil]; exact hl)
  rw [List.append_nil] at b
  have P1 := I1.pin hp (List.mem_append_left _ hpn)
  have hpin : PinOk X.stack H1 s1 hp := ⟨P1.1, P1.2.1, fun hm => (List.mem_cons.mp (I1.stkSub hp.1 hm)).elim P1.2.2.1 P1.2.2.2.1, P1.2.2.2.2⟩
  refine codeAny_mono (F.run X.A.in1.in1 X.stack s1 H1 ⟨[.ref a], []⟩ [.ref a] [.ref a] _ (fun _ _ _ => False) hp hr2 hot1 hpin I1.env0.in1.in1 b (.cons rfl .nil) sp) fun r s' hq => ?_
  cases r with
  | error e => obtain ⟨_, _, _, _, _, _, _, _, _, _, _, _, z⟩ := hq; exact z.elim
  | ok fl =>
    cases fl with
    | ret u => exact I1.after hq
    | next => exact False.elim hq
    | brk => exact False.elim hq
    | cont => exact False.elim hq
end
end Pf
end
section
set_option maxRecDepth 100000
set_option maxHeartbeats 1000000
namespace Pf
open PySem PySem.Spec PyProof.Rows L2 LamX

theorem roomH_mk {k : Nat} {A : Around} (r : Room k A) (h : Option Value) : L2H.RoomH k (A.mark h) := ⟨r.dp, r.un⟩
def sFrz (i : Nat) (g : SDen) : SDen := fun ρ h => g (sFreeze i ρ) h
theorem sb_frz {X : Cx} {T : Tb} {W : WX} {rest : List Stmt} {g : SDen} (i : Nat) (hb : SB X T W rest g) : SB X T W rest (sFrz i g) := sb_freeze i hb
/-- a try whose body raises nothing -/
theorem ss_thru {X : Cx} {T : Tb} {W : WX} {body : List Stmt} {h₀ : ExceptHandler} {hs : List ExceptHandler} {pos : Pos} {b : SDen} (hb : SB X.nox T Wn body b) : SS X T W (.Try body (h₀ :: hs) [] [] pos) (fun ρ h => noExc (b ρ h)) := fun w0 H0 =>
  ps_imp (ps_try_thru0 (hb w0 H0)) fun D σ H ⟨w, ρ, h, S, R, L, p⟩ => ⟨w, ρ, h, S, R, L, p.noExc⟩
theorem pOF {P : Program} {w : World} {K : PySem.W.Frag} {mg : Str → Option Value} {base : Heap} {N : List Str} {qual : Str} {scope : Scope} {f : Addr} {cd : Value} {A : Around} {outer : List Env} {s : Shared} {H : Hp} {E : XK} :
    PassesOwn (model P w) (cxOf (L2N.CX P w) P w K mg base N qual scope f cd A outer s H E).A (cxOf (L2N.CX P w) P w K mg base N qual scope f cd A outer s H E).env (cxOf (L2N.CX P w) P w K mg base N qual scope f cd A outer s H E).xe := PassesOwn.leaving
theorem tkL {X : Cx} {A : Around} {outer : List Env} {s : Shared} {H : Hp} {E : XK} {scope : Scope} {f c' : Addr} : L2N.Takes (LamN.lamCxN X A outer s H E scope f c') (fun c d _ H => E c d H) := L2N.takes_of rfl rfl rfl rfl
section
variable {X : Cx} {T : Tb} {Z : Addr → Prop} {W : WX} {a b ob e : Expr} {es : List Expr} {f g : Den D} {t : Den (List D)} {pos apos cpos : Pos}
def subAll : D → D → Option D
  | .int i, .int j => some (.int (i - j))
  | _, _ => none
theorem se_sub (ha : SE X T Z W a f) (hb : SE X T Z W b g) : SE X T Z W (.BinOp a .Sub b pos) (dBin subAll f g) := se_bin op_sub (fun w H h x y d e Q EX R rx ry p => ok_sub w H h x y d e Q EX R rx ry (by
  revert p
  cases d <;> cases e <;> exact fun p => p)) ha hb
theorem mS_split (ho : SE X T Z W ob f) (ha : SA X T Z W (e :: es) t)
    (hbase : attributeBase ob "split" X.env (eval ob X.env) = eval ob X.env := by rfl)
    (hfew : ((backTo cpos (starEach (e :: es) X.env)).all (fun x => !x.1) && (backToKw cpos (keywordEach [] X.env)).all (fun x => x.1.isSome)
      && decide ((e :: es).length + ([] : List Keyword).length + (if ([] : List Keyword).isEmpty then 0 else 1) < 30)) = true := by rfl)
    (hline : (apos.endLine == cpos.line) = true := by rfl) (hs : starEach (e :: es) X.env = (false, eval e X.env) :: starEach es X.env := by rfl) (hplain : (backTo cpos (starEach es X.env)).any (·.1) = false := by rfl) :
    SE X T Z W (.Call (.Attribute ob "split" apos) (e :: es) [] cpos) (dMt isStrD splitO f t) := se_mtS ok_splitO F.slot_str_split rfl mt_split ho ha hbase hfew hline hs hplain
theorem mS_partition (ho : SE X T Z W ob f) (ha : SA X T Z W (e :: es) t)
    (hbase : attributeBase ob "partition" X.env (eval ob X.env) = eval ob X.env := by rfl)
    (hfew : ((backTo cpos (starEach (e :: es) X.env)).all (fun x => !x.1) && (backToKw cpos (keywordEach [] X.env)).all (fun x => x.1.isSome)
      && decide ((e :: es).length + ([] : List Keyword).length + (if ([] : List Keyword).isEmpty then 0 else 1) < 30)) = true := by rfl)
    (hline : (apos.endLine == cpos.line) = true := by rfl) (hs : starEach (e :: es) X.env = (false, eval e X.env) :: starEach es X.env := by rfl) (hplain : (backTo cpos (starEach es X.env)).any (·.1) = false := by rfl) :
    SE X T Z W (.Call (.Attribute ob "partition" apos) (e :: es) [] cpos) (dMt isStrD partO f t) := se_mtS ok_partO F.slot_str_partition rfl mt_partition ho ha hbase hfew hline hs hplain
theorem mS_join (ho : SE X T Z W ob f) (ha : SA X T Z W (e :: es) t)
    (hbase : attributeBase ob "join" X.env (eval ob X.env) = eval ob X.env := by rfl)
    (hfew : ((backTo cpos (starEach (e :: es) X.env)).all (fun x => !x.1) && (backToKw cpos (keywordEach [] X.env)).all (fun x => x.1.isSome)
      && decide ((e :: es).length + ([] : List Keyword).length + (if ([] : List Keyword).isEmpty then 0 else 1) < 30)) = true := by rfl)
    (hline : (apos.endLine == cpos.line) = true := by rfl) (hs : starEach (e :: es) X.env = (false, eval e X.env) :: starEach es X.env := by rfl) (hplain : (backTo cpos (starEach es X.env)).any (·.1) = false := by rfl) :
    SE X T Z W (.Call (.Attribute ob "join" apos) (e :: es) [] cpos) (dMt isStrD joinO f t) := se_mtS ok_joinO F.slot_str_join rfl mt_join ho ha hbase hfew hline hs hplain
theorem mL_count (ho : SE X T Z W ob f) (ha : SA X T Z W (e :: es) t)
    (hbase : attributeBase ob "count" X.env (eval ob X.env) = eval ob X.env := by rfl)
    (hfew : ((backTo cpos (starEach (e :: es) X.env)).all (fun x => !x.1) && (backToKw cpos (keywordEach [] X.env)).all (fun x => x.1.isSome)
      && decide ((e :: es).length + ([] : List Keyword).length + (if ([] : List Keyword).isEmpty then 0 else 1) < 30)) = true := by rfl)
    (hline : (apos.endLine == cpos.line) = true := by rfl) (hs : starEach (e :: es) X.env = (false, eval e X.env) :: starEach es X.env := by rfl) (hplain : (backTo cpos (starEach es X.env)).any (·.1) = false := by rfl) :
    SE X T Z W (.Call (.Attribute ob "count" apos) (e :: es) [] cpos) (dMt isLstD lcountO f t) := se_mtL ok_lcountO F.slot_list_count rfl mt_countF ho ha hbase hfew hline hs hplain
theorem mL_index (ho : SE X T Z W ob f) (ha : SA X T Z W (e :: es) t)
    (hbase : attributeBase ob "index" X.env (eval ob X.env) = eval ob X.env := by rfl)
    (hfew : ((backTo cpos (starEach (e :: es) X.env)).all (fun x => !x.1) && (backToKw cpos (keywordEach [] X.env)).all (fun x => x.1.isSome)
      && decide ((e :: es).length + ([] : List Keyword).length + (if ([] : List Keyword).isEmpty then 0 else 1) < 30)) = true := by rfl)
    (hline : (apos.endLine == cpos.line) = true := by rfl) (hs : starEach (e :: es) X.env = (false, eval e X.env) :: starEach es X.env := by rfl) (hplain : (backTo cpos (starEach es X.env)).any (·.1) = false := by rfl) :
    SE X T Z W (.Call (.Attribute ob "index" apos) (e :: es) [] cpos) (dMt isLstD lindexO f t) := se_mtL ok_lindexO F.slot_list_index rfl mt_index ho ha hbase hfew hline hs hplain
end
section
variable {P : Program} {w : World} {base : Heap} {K : PySem.W.Frag} {mg : Str → Option Value} {T : Tb} {x qual c : Str} {params : Arguments} {body : List Stmt} {scope : Scope} {dvs : List V} {C f p : Addr} {mc : Value} {fd : FuncData} {N ps : List Str} {k n : Nat} {b : SDen}
abbrev HB (P : Program) (w : World) (K : PySem.W.Frag) (mg : Str → Option Value) (base : Heap) (N : List Str) (qual : Str) (scope : Scope) (f : Addr) (T : Tb) (body : List Stmt) (k : Nat) (b : SDen) : Prop :=
  ∀ (cdv : Value) (A : Around) (outer : List Env) (s : Shared) (H : Hp) (E : XK), Room k (A.deeper (envOfC qual scope s.heap.objs.size f cdv)) → SB (cxOf (L2N.CX P w) P w K mg base N qual scope f cdv A outer s H E) T (fun cls d _ H' => E cls d H') body b
/-- every parameter is written, defaults or not -/
theorem binds_all (F : FunD K x qual params body scope dvs [] f fd)
    (h : ∀ (dV kV doc pm : Value) (an : Option Addr) (cdv ct : Value) (us : List Value), (dV = .none ∨ ∃ t, dV = .ref t) → us.length = ps.length → (dV = .none → bindArgs (PySem.W.fnOf x qual params body scope dV kV doc pm an cdv ct) ⟨us, []⟩ = pure (ps.zip us)) ∧
      ∀ t, dV = .ref t → ∃ k, bindArgs (PySem.W.fnOf x qual params body scope dV kV doc pm an cdv ct) ⟨us, []⟩ = seqItems? (.ref t) >>= k ∧ ∀ its : List Value, its.length = dvs.length → k (some its.toArray) = pure (ps.zip us)) : Binds K fd ps [] := by
  obtain ⟨oc, od, dV, kV, doc, pm, an, cdv, ct, osl, rfl, lk, hcd, hD, hK⟩ := F.ex
  rcases hD with ⟨_, rfl⟩ | ⟨_, t, o, its, m, rfl, lT, oT, rT⟩
  · exact .all fun us hl => (h .none kV doc pm an cdv ct us (.inl rfl) hl).1 rfl
  · intro s us Kin hl
    rw [List.append_nil] at hl ⊢
    obtain ⟨k, e1, e2⟩ := (h (.ref t) kV doc pm an cdv ct us (.inr ⟨t, rfl⟩) hl).2 t rfl
    refine BindsTo.of_looks fun M => ?_
    rw [e1]
    exact looks_items Kin lT oT (.of_pure (e2 its rT.length.symm))
theorem methU_of (hm : mg c = some (.ref C)) (hc : Cls K C) (me : Meth K C x f) (F : FunD K x qual params body scope dvs [] f fd) (hbd : Binds K fd ps []) (S : FnScope N ps scope) (hl : ps.length = n + 1) (hb : HB P w K mg base N qual scope f T body k b) : MethU P w base ⟨K, mg, T⟩ (k + 1) c x n (runB N.length b) :=
  ⟨C, f, fd, ps, hm, hc, me, hl ▸ fn_body (T := T) F S hb, hbd⟩
theorem propU_of (hm : mg c = some (.ref C)) (hc : Cls K C) (me : PropOf K C x p f) (F : FunD K x qual params body scope dvs [] f fd) (hbd : Binds K fd ps []) (S : FnScope N ps scope) (hl : ps.length = 1) (hb : HB P w K mg base N qual scope f T body k b) : PropU P w base ⟨K, mg, T⟩ (k + 1) c x (runB N.length b) :=
  ⟨C, p, f, fd, ps, hm, hc, me, hl ▸ fn_body (T := T) F S hb, hbd⟩
theorem cmethU_of (hm : mg c = some (.ref C)) (cr : ClX.CRead K C mc) (me : ClX.CMet K C mc x p f) (F : FunD K x qual params body scope dvs [] f fd) (hbd : Binds K fd ps []) (S : FnScope N ps scope) (hl : ps.length = n + 1) (hb : HB P w K mg base N qual scope f T body k b) : CMethU P w base ⟨K, mg, T⟩ (k + 1) c x n (runB N.length b) :=
  ⟨C, mc, p, f, fd, ps, hm, cr, me, hl ▸ fn_body (T := T) F S hb, hbd⟩
theorem mkU_of (hm : mg c = some (.ref C)) (M : Mk K C f) (F : FunD K x qual params body scope dvs [] f fd) (hbd : Binds K fd ps []) (S : FnScope N ps scope) (hl : ps.length = n + 1) (hb : HB P w K mg base N qual scope f T body k b) : MkU P w base ⟨K, mg, T⟩ (k + 1) c n (runB N.length b) :=
  ⟨C, f, fd, ps, hm, M, hl ▸ fn_body (T := T) F S hb, hbd⟩
theorem methH_of (hm : mg c = some (.ref C)) (hc : Cls K C) (me : Meth K C x f) (F : FunD K x qual params body scope dvs [] f fd) (hbd : Binds K fd ps []) (S : FnScope N ps scope) (hl : ps.length = n + 1)
    (hb : ∀ (cdv : Value) (A : Around) (outer : List Env) (s : Shared) (H : Hp) (E : XK) (q : Addr × Obj), L2H.Hot1 A q → L2H.RoomH k (A.deeper (envOfC qual scope s.heap.objs.size f cdv)) → SB (L2H.cxH (L2N.CX P w) P w K mg base N qual scope f cdv A outer s H E q) T Wn body b) : MethH P w base ⟨K, mg, T⟩ (k + 1) c x n (fun ds h => calmR (runB N.length b ds h)) :=
  ⟨C, f, fd, ps, hm, hc, me, hl ▸ fn_bodyH (T := T) F S hb, hbd⟩
theorem genU_of {gd : GDen} (F : FunD K x x params body scope [] [] f fd) (hm : mg x = some (.ref f)) (S : GScope N ps scope)
    (hbd : ∀ (kV doc pm : Value) (an : Option Addr) (cdv ct : Value) (us : List Value), us.length = ps.length → bindArgs (PySem.W.fnOf x x params body scope .none kV doc pm an cdv ct) ⟨us, []⟩ = pure (ps.zip us))
    (hb : ∀ (cdv : Value) (A : Around) (outer : List Env) (s : Shared) (H : Hp) (E : XK), Room k (A.deeper (envOfC x scope s.heap.objs.size f cdv)) → GSB (gcxOf P w K mg base N x scope f cdv A outer s H E []) T body gd) : GenU P w base ⟨K, mg, T⟩ k x ps.length (runG N.length gd) := by
  have b := F.bindsN (ps := ps) hbd
  obtain ⟨oc, od, dV, kV, doc, pm, an, cdv, ct, osl, rfl, lk, hcd, _, _⟩ := F.ex
  exact ⟨f, x, params, body, scope, dV, kV, doc, pm, cdv, ct, oc, an, od, osl, N, ps, gd, hm, F.kp, lk, hcd, S, rfl, b, hb cdv, fun _ => rfl⟩
/-- a call by keywords alone -/
theorem fnK_of {ks : List Str} {is : List Nat} (U : ∃ f fd, mg x = some (.ref f) ∧ FunD K x x params body scope [] [] f fd ∧ FnOk P w K mg base (L2N.CX P w) k f fd ps (spF ⟨K, mg, T⟩ ps.length (runB N.length b))) (hl : is.length = ps.length) (hi : ∀ i ∈ is, i < 0 + ks.length)
    (hbd : ∀ (kV doc pm : Value) (an : Option Addr) (cdv ct : Value) (ws : List Value), ws.length = ks.length → bindArgs (PySem.W.fnOf x x params body scope .none kV doc pm an cdv ct) ⟨[], ks.zip ws⟩ = pure (ps.zip (pick is ws))) : FnK P w base ⟨K, mg, T⟩ k x 0 ks is (runB N.length b) := by
  obtain ⟨f, fd, hm, F, Fn⟩ := U
  refine ⟨f, fd, ps, hm, F.kp, Fn, hl, hi, fun s us ws l1 l2 => ?_⟩
  obtain rfl : us = [] := List.length_eq_zero_iff.mp l1
  obtain ⟨oc, od, dV, kV, doc, pm, an, cdv, ct, osl, rfl, lk, hcd, hD, _⟩ := F.ex
  rcases hD with ⟨_, rfl⟩ | ⟨e, _⟩
  · exact .of_eq (hbd kV doc pm an cdv ct ws l2)
  · exact absurd rfl e
end
end Pf
end
section
set_option maxRecDepth 100000
set_option maxHeartbeats 1000000
namespace K33
open PySem PySem.Spec PyProof.Rows L2 LamX Pf
def top (i : Nat) : Stmt := PySem.Challenge.pw_passedits_k33_errors_of_likeness.main.body.getD i (.Pass ⟨0, 0, 0, 0⟩)
abbrev FnP (K : PySem.W.Frag) (x : Str) (st : Stmt) (f : Addr) (fd : FuncData) : Prop := FunD K x x (defArgs st) (defBody st) (defScope st) [] [] f fd
def lamName (x : Str) (sc : Scope) : Str := (envOfC x sc 0 0 .none).qual ++ "<lambda>"
def st__law_draw : Stmt := top 52
def st__law_pick : Stmt := top 53
def st__law_sorts : Stmt := top 62
def st_are_kinds : Stmt := top 11
def st_check_kinds : Stmt := top 37
def st_is_result : Stmt := top 16
def st_has_sign : Stmt := top 9
def st_is_condition : Stmt := top 17
def st_is_option : Stmt := top 18
def st_Cell___init__ : Stmt := inClass (top 15) 0
def st_parsed_row : Stmt := top 19
def st_check_rows : Stmt := top 38
def st_Table___init__ : Stmt := inClass (top 39) 0
def st_Table_read : Stmt := inClass (top 39) 1
def st__law_text : Stmt := top 57
def st__law_good : Stmt := top 54
def st__law_options : Stmt := top 55
def st__law_cells : Stmt := top 56
def st_Table___str__ : Stmt := inClass (top 39) 8
def st__law_caught : Stmt := top 63
def st_check_table : Stmt := top 43
def st_Table_kinds : Stmt := inClass (top 39) 2
def st_check_both : Stmt := top 44
def st_pairs_of : Stmt := top 46
def st_Table_options_of : Stmt := inClass (top 39) 10
def st_relation_of : Stmt := top 20
def st_turned : Stmt := top 23
def st_does_hold : Stmt := top 21
def st_result_of : Stmt := top 22
def st_Table_turn : Stmt := inClass (top 39) 11
def st_unlike_of : Stmt := top 47
def st_unlike : Stmt := top 48
def st_alike : Stmt := top 49
def st__law_right : Stmt := top 64
def st__law_purse : Stmt := top 51
def st_law : Stmt := top 65
def exTop (c : Str) : Option Bool := if c ∈ (["NotATable", "OtherKinds"] : List Str) then some true else none
def exTabL : List ((Str × Str) × Bool) := [(("NotATable", "BadValue"), true), (("NotATable", "InvalidKinds"), false), (("NotATable", "NotATable"), true), (("NotATable", "OtherKinds"), false), (("OtherKinds", "BadValue"), true), (("OtherKinds", "InvalidKinds"), false), (("OtherKinds", "NotATable"), false), (("OtherKinds", "OtherKinds"), true)]
def exTab (c d : Str) : Option Bool := exTabL.lookup (c, d)
def tyTabL : List ((Ty × Ty) × Bool) := [((.b "NoneType", .b "int"), false), ((.b "NoneType", .b "list"), false), ((.b "NoneType", .b "str"), false), ((.b "NoneType", .b "tuple"), false), ((.b "NoneType", .o "Table"), false), ((.b "bool", .b "int"), true), ((.b "bool", .b "list"), false), ((.b "bool", .b "str"), false), ((.b "bool", .b "tuple"), false), ((.b "bool", .o "Table"), false), ((.b "int", .b "int"), true), ((.b "int", .b "list"), false), ((.b "int", .b "str"), false), ((.b "int", .b "tuple"), false), ((.b "int", .o "Table"), false), ((.b "str", .b "int"), false), ((.b "str", .b "list"), false), ((.b "str", .b "str"), true), ((.b "str", .b "tuple"), false), ((.b "str", .o "Table"), false), ((.b "tuple", .b "int"), false), ((.b "tuple", .b "list"), false), ((.b "tuple", .b "str"), false), ((.b "tuple", .b "tuple"), true), ((.b "tuple", .o "Table"), false), ((.b "list", .b "int"), false), ((.b "list", .b "list"), true), ((.b "list", .b "str"), false), ((.b "list", .b "tuple"), false), ((.b "list", .o "Table"), false), ((.b "dict", .b "int"), false), ((.b "dict", .b "list"), false), ((.b "dict", .b "str"), false), ((.b "dict", .b "tuple"), false), ((.b "dict", .o "Table"), false), ((.o "Cell", .b "int"), false), ((.o "Cell", .b "list"), false), ((.o "Cell", .b "str"), false), ((.o "Cell", .b "tuple"), false), ((.o "Cell", .o "Table"), false), ((.o "Table", .b "int"), false), ((.o "Table", .b "list"), false), ((.o "Table", .b "str"), false), ((.o "Table", .b "tuple"), false), ((.o "Table", .o "Table"), true)]
def tyTab (a b : Ty) : Option Bool := tyTabL.lookup (a, b)
structure Row (K : PySem.W.Frag) (mg : Str → Option Value) : Prop where
  d__law_draw : ∃ f fd, mg "_law_draw" = some (.ref f) ∧ FnP K "_law_draw" st__law_draw f fd
  d__law_pick : ∃ f fd, mg "_law_pick" = some (.ref f) ∧ FnP K "_law_pick" st__law_pick f fd
  d__law_sorts : ∃ f fd, mg "_law_sorts" = some (.ref f) ∧ FnP K "_law_sorts" st__law_sorts f fd
  d_are_kinds : ∃ f fd, mg "are_kinds" = some (.ref f) ∧ FnP K "are_kinds" st_are_kinds f fd
  d_check_kinds : ∃ f fd, mg "check_kinds" = some (.ref f) ∧ FnP K "check_kinds" st_check_kinds f fd
  d_is_result : ∃ f fd, mg "is_result" = some (.ref f) ∧ FnP K "is_result" st_is_result f fd
  d_has_sign : ∃ f fd, mg "has_sign" = some (.ref f) ∧ FnP K "has_sign" st_has_sign f fd
  d_is_condition : ∃ f fd, mg "is_condition" = some (.ref f) ∧ FnP K "is_condition" st_is_condition f fd
  d_is_option : ∃ f fd, mg "is_option" = some (.ref f) ∧ FnP K "is_option" st_is_option f fd
  d_Cell___init__ : ∃ (C f : Addr) (p : Addr) (mc : Value) (fd : FuncData) , mg "Cell" = some (.ref C) ∧ (Cls K C ∧ Mk K C f) ∧ FunD K "__init__" "Cell.__init__" (defArgs st_Cell___init__) (defBody st_Cell___init__) (defScope st_Cell___init__) [] [] f fd
  d_parsed_row : ∃ f fd, mg "parsed_row" = some (.ref f) ∧ FnP K "parsed_row" st_parsed_row f fd
  d_check_rows : ∃ f fd, mg "check_rows" = some (.ref f) ∧ FnP K "check_rows" st_check_rows f fd
  d_Table___init__ : ∃ (C f : Addr) (p : Addr) (mc : Value) (fd : FuncData) (v0 : V) , mg "Table" = some (.ref C) ∧ (Cls K C ∧ Mk K C f) ∧ FunD K "__init__" "Table.__init__" (defArgs st_Table___init__) (defBody st_Table___init__) (defScope st_Table___init__) [v0] [] f fd
  d_Table_read : ∃ (C f : Addr) (p : Addr) (mc : Value) (fd : FuncData) , mg "Table" = some (.ref C) ∧ (ClX.CRead K C mc ∧ ClX.CMet K C mc "read" p f) ∧ FunD K "read" "Table.read" (defArgs st_Table_read) (defBody st_Table_read) (defScope st_Table_read) [] [] f fd
  d__law_text : ∃ f fd, mg "_law_text" = some (.ref f) ∧ FnP K "_law_text" st__law_text f fd
  d__law_good : ∃ f fd, mg "_law_good" = some (.ref f) ∧ FnP K "_law_good" st__law_good f fd
  d__law_options : ∃ f fd, mg "_law_options" = some (.ref f) ∧ FnP K "_law_options" st__law_options f fd
  d__law_cells : ∃ f fd, mg "_law_cells" = some (.ref f) ∧ FnP K "_law_cells" st__law_cells f fd
  d_Table___str__ : ∃ (C f : Addr) (p : Addr) (mc : Value) (fd : FuncData) , mg "Table" = some (.ref C) ∧ (Cls K C ∧ Meth K C "__str__" f) ∧ FunD K "__str__" "Table.__str__" (defArgs st_Table___str__) (defBody st_Table___str__) (defScope st_Table___str__) [] [] f fd
  d__law_caught : ∃ f fd, mg "_law_caught" = some (.ref f) ∧ FnP K "_law_caught" st__law_caught f fd
  ex3 : ∃ C1 C2 C3, mg "BadValue" = some (.ref C1) ∧ mg "BadName" = some (.ref C2) ∧ mg "NoAnswer" = some (.ref C3) ∧ ∀ c r C, exTop c = some r → mg c = some (.ref C) → PySem.W.exmAny K (.ref C) [.ref C1, .ref C2, .ref C3] = some r
  d_check_table : ∃ f fd, mg "check_table" = some (.ref f) ∧ FnP K "check_table" st_check_table f fd
  d_Table_kinds : ∃ (C f : Addr) (p : Addr) (mc : Value) (fd : FuncData) , mg "Table" = some (.ref C) ∧ (Cls K C ∧ PropOf K C "kinds" p f) ∧ FunD K "kinds" "Table.kinds" (defArgs st_Table_kinds) (defBody st_Table_kinds) (defScope st_Table_kinds) [] [] f fd
  d_check_both : ∃ f fd, mg "check_both" = some (.ref f) ∧ FnP K "check_both" st_check_both f fd
  d_pairs_of : ∃ f fd, mg "pairs_of" = some (.ref f) ∧ FnP K "pairs_of" st_pairs_of f fd
  d_Table_options_of : ∃ (C f : Addr) (p : Addr) (mc : Value) (fd : FuncData) , mg "Table" = some (.ref C) ∧ (Cls K C ∧ Meth K C "options_of" f) ∧ FunD K "options_of" "Table.options_of" (defArgs st_Table_options_of) (defBody st_Table_options_of) (defScope st_Table_options_of) [] [] f fd
  d_relation_of : ∃ f fd, mg "relation_of" = some (.ref f) ∧ FnP K "relation_of" st_relation_of f fd
  d_turned : ∃ f fd, mg "turned" = some (.ref f) ∧ FnP K "turned" st_turned f fd
  d_does_hold : ∃ f fd, mg "does_hold" = some (.ref f) ∧ FnP K "does_hold" st_does_hold f fd
  d_result_of : ∃ f fd, mg "result_of" = some (.ref f) ∧ FnP K "result_of" st_result_of f fd
  d_Table_turn : ∃ (C f : Addr) (p : Addr) (mc : Value) (fd : FuncData) , mg "Table" = some (.ref C) ∧ (Cls K C ∧ Meth K C "turn" f) ∧ FunD K "turn" "Table.turn" (defArgs st_Table_turn) (defBody st_Table_turn) (defScope st_Table_turn) [] [] f fd
  d_unlike_of : ∃ f fd, mg "unlike_of" = some (.ref f) ∧ FnP K "unlike_of" st_unlike_of f fd
  d_unlike : ∃ f fd, mg "unlike" = some (.ref f) ∧ FnP K "unlike" st_unlike f fd
  d_alike : ∃ f fd, mg "alike" = some (.ref f) ∧ FnP K "alike" st_alike f fd
  d__law_right : ∃ f fd, mg "_law_right" = some (.ref f) ∧ FnP K "_law_right" st__law_right f fd
  d__law_purse : ∃ f fd, mg "_law_purse" = some (.ref f) ∧ FnP K "_law_purse" st__law_purse f fd
  d_law : ∃ f fd, mg "law" = some (.ref f) ∧ FnP K "law" st_law f fd
  c_KINDS : ∀ {T}, GloIs ⟨K, mg, T⟩ "KINDS" (.kup [(.str "put"), (.str "out"), (.str "set")])
  c_MOST_OPTIONS : ∀ {T}, GloIs ⟨K, mg, T⟩ "MOST_OPTIONS" (.int 5)
  c_RELATIONS : ∀ {T}, GloIs ⟨K, mg, T⟩ "RELATIONS" (.kup [(.str "<"), (.str "="), (.str ">")])
  c_SIGN_CONDITIONS : ∀ {T}, GloIs ⟨K, mg, T⟩ "SIGN_CONDITIONS" (.kup [(.str "less"), (.str "same"), (.str "more")])
  k_BadValue : ∀ {T}, GloIs ⟨K, mg, T⟩ "BadValue" (.cls "BadValue")
  k_InvalidKinds : ∀ {T}, GloIs ⟨K, mg, T⟩ "InvalidKinds" (.cls "InvalidKinds")
  k_NotATable : ∀ {T}, GloIs ⟨K, mg, T⟩ "NotATable" (.cls "NotATable")
  k_OtherKinds : ∀ {T}, GloIs ⟨K, mg, T⟩ "OtherKinds" (.cls "OtherKinds")
  k_Table : ∀ {T}, GloIs ⟨K, mg, T⟩ "Table" (.cls "Table")
  n_abs : mg "abs" = none
  n_all : mg "all" = none
  n_divmod : mg "divmod" = none
  n_enumerate : mg "enumerate" = none
  n_int : mg "int" = none
  n_isinstance : mg "isinstance" = none
  n_len : mg "len" = none
  n_list : mg "list" = none
  n_max : mg "max" = none
  n_min : mg "min" = none
  n_range : mg "range" = none
  n_repr : mg "repr" = none
  n_str : mg "str" = none
  n_tuple : mg "tuple" = none
  n_zip : mg "zip" = none
  f_cells : FldOk K mg ["Table"] "cells"
  f_held_kinds : FldOk K mg ["Table"] "held_kinds"
  f_held_rows : FldOk K mg ["Table"] "held_rows"
  f_key : FldOk K mg ["Cell"] "key"
  f_options : FldOk K mg ["Cell"] "options"
  isi : ∀ {T}, IsiT ⟨K, mg, T⟩ tyTab
  e_NotATable : ∀ P w base {T}, ExcU P w base ⟨K, mg, T⟩ "NotATable" "given"
  e_OtherKinds : ∀ P w base {T}, ExcU P w base ⟨K, mg, T⟩ "OtherKinds" "given"
  a_given : ∀ {C}, ∀ c ∈ (["NotATable", "OtherKinds"] : List Str), mg c = some (.ref C) → ExcA K C ∧ PySem.W.findIn K (.ref C) "given" = some none
  x_tab : ∀ (c2 : Str) {C : Addr} (c : Str) (b : Bool) (C2 : Addr), exTab c c2 = some b → mg c = some (.ref C) → mg c2 = some (.ref C2) → ExcA K C ∧ PySem.W.kitOne K (.ref C) (.ref C2) = some b
def b__law_draw : SDen := sSeq (sPar (dCons (dIx (dView 0) (dC (.int 1))) (dCons (dBin addD (dBin modD (dFn intF (dCons (dIx (dView 0) (dC (.int 1))) (dNil))) (dC (.int 40009))) (dC (.int 20021))) (dNil))) 2 3) (sSeq (sAsg (dBin addD (dIx (dView 0) (dC (.int 2))) (dC (.int 1))) (gSub 0 (dC (.int 2)))) (sSeq (sAsg (dBin modD (dFn intF (dCons (dBin addD (dBin addD (dBin mulD (dVar 2) (dVar 3)) (dBin mulD (dC (.int 60013)) (dIx (dView 0) (dC (.int 2))))) (dC (.int 11))) (dNil))) (dC (.int 2147483629))) (gSub 0 (dC (.int 1)))) (sSeq (sIf (dB (dBin gtD (dIx (dView 0) (dC (.int 0))) (dC (.int 0)))) (sSeq (sAsg (dFn divmodF (dCons (dIx (dView 0) (dC (.int 0))) (dCons (dVar 1) (dNil)))) (gItems 2 (gsCons (gSub 0 (dC (.int 0))) (gsCons (gSlot 4) (gsNil))))) (sRet (dVar 4))) (sNext)) (sRet (dBin modD (dFn intF (dCons (dBin fdivD (dIx (dView 0) (dC (.int 1))) (dC (.int 89))) (dNil))) (dVar 1))))))
theorem sc__law_draw : FnScope ["purse", "size", "seed", "by", "digit"] ["purse", "size"] (defScope st__law_draw) := ⟨rfl, rfl, rfl, by decide +kernel, rfl, by decide +kernel, by decide +kernel⟩
theorem u__law_draw {P : Program} {w : World} {base : Heap} {K : PySem.W.Frag} {mg : Str → Option Value} {T : Tb} (R : Row K mg) : FnU P w base ⟨K, mg, T⟩ 1 "_law_draw" ["purse", "size"] (runB 5 b__law_draw) := by
  obtain ⟨f, fd, hm, F⟩ := R.d__law_draw
  exact fnU_of F hm sc__law_draw (fun _ _ _ _ _ _ us hl => match us, hl with | [_, _], _ => rfl) fun cdv A outer s H E hr => sb_cons (ss_par (i := 2) (j := 3) rfl sc__law_draw.nd rfl rfl (by decide) rfl rfl (fun Z => sa_cons (se_idx (rmU hr) (vw 0) (se_int) (fun _ _ => rfl)) (sa_cons (se_add (se_mod (se_fnT call_int1 ok_intF rfl R.n_int (sa_cons (se_idx (rmU hr) (vw 0) (se_int) (fun _ _ => rfl)) (sa_nil))) (se_int)) (se_int)) (sa_nil))) (by rfl)) (sb_cons (ss_asg (fun Z => se_add (se_idx (rmU hr) (vw 0) (se_int) (fun _ _ => rfl)) (se_int)) (sg_sub (rmU hr) rfl (by first | exact Or.inl rfl | exact Or.inr (Or.inl rfl) | exact Or.inr (Or.inr rfl)) (fun _ => se_int))) (sb_cons (ss_asg (fun Z => se_mod (se_fnT call_int1 ok_intF rfl R.n_int (sa_cons (se_add (se_add (se_mul (sv 2) (sv 3)) (se_mul (se_int) (se_idx (rmU hr) (vw 0) (se_int) (fun _ _ => rfl)))) (se_int)) (sa_nil))) (se_int)) (sg_sub (rmU hr) rfl (by first | exact Or.inl rfl | exact Or.inr (Or.inl rfl) | exact Or.inr (Or.inr rfl)) (fun _ => se_int))) (sb_cons (ss_if (fun Z => st_gt (se_idx (rmU hr) (vw 0) (se_int) (fun _ _ => rfl)) (se_int)) (sb_cons (ss_asg (fun Z => se_fnB call_divmod ok_divmodF rfl R.n_divmod (sa_cons (se_idx (rmU hr) (vw 0) (se_int) (fun _ _ => rfl)) (sa_cons (sv 1) (sa_nil)))) (sg_tup rfl (sgs_cons (sg_sub (rmU hr) rfl (by first | exact Or.inl rfl | exact Or.inr (Or.inl rfl) | exact Or.inr (Or.inr rfl)) (fun _ => se_int)) (sgs_cons (sg_name sc__law_draw.nd) (sgs_nil))))) (sb_one (ss_ret fun Z => sv 4))) (sb_nil)) (sb_one (ss_ret fun Z => se_mod (se_fnT call_int1 ok_intF rfl R.n_int (sa_cons (se_fdiv (se_idx (rmU hr) (vw 0) (se_int) (fun _ _ => rfl)) (se_int)) (sa_nil))) (sv 1))))))
def b__law_pick : SDen := sRet (dIx (dView 1) (dCall (runB 5 b__law_draw) (dCons (dVar 0) (dCons (dLen (dView 1)) (dNil)))))
theorem sc__law_pick : FnScope ["purse", "menu"] ["purse", "menu"] (defScope st__law_pick) := ⟨rfl, rfl, rfl, by decide +kernel, rfl, by decide +kernel, by decide +kernel⟩
theorem u__law_pick {P : Program} {w : World} {base : Heap} {K : PySem.W.Frag} {mg : Str → Option Value} {T : Tb} (R : Row K mg) : FnU P w base ⟨K, mg, T⟩ 2 "_law_pick" ["purse", "menu"] (runB 2 b__law_pick) := by
  obtain ⟨f, fd, hm, F⟩ := R.d__law_pick
  exact fnU_of F hm sc__law_pick (fun _ _ _ _ _ _ us hl => match us, hl with | [_, _], _ => rfl) fun cdv A outer s H E hr => sb_one (ss_ret fun Z => se_idx (rmU hr) (vw 1) (se_call (u__law_draw R) (hr.mono (by decide)) rfl tkF (sa_cons (sv 0) (sa_cons (se_len rfl R.n_len (vw 1)) (sa_nil))) (len_cons (len_cons len_nil))) (fun _ _ => rfl))
def b__law_sorts : SDen := sSeq (sSet 2 (dLst (dCons (dLst (dCons (dC (.str "put")) (dNil))) (dCons (dLst (dCons (dC (.str "out")) (dNil))) (dCons (dLst (dCons (dC (.str "set")) (dNil))) (dCons (dLst (dCons (dC (.str "put")) (dCons (dC (.str "out")) (dNil)))) (dCons (dLst (dCons (dC (.str "put")) (dCons (dC (.str "set")) (dNil)))) (dCons (dLst (dCons (dC (.str "out")) (dCons (dC (.str "set")) (dNil)))) (dCons (dLst (dCons (dC (.str "put")) (dCons (dC (.str "out")) (dCons (dC (.str "set")) (dNil))))) (dNil)))))))))) (sRet (dCall (runB 2 b__law_pick) (dCons (dVar 0) (dCons (dComp [3] (dOver iterD (dVar 2)) (gSlot 3) (dB (dBin leD (dLen (dView 3)) (dVar 1))) (dVar 3)) (dNil)))))
theorem sc__law_sorts : FnScope ["purse", "most_here", "menu", "row"] ["purse", "most_here"] (defScope st__law_sorts) := ⟨rfl, rfl, rfl, by decide +kernel, rfl, by decide +kernel, by decide +kernel⟩
theorem u__law_sorts {P : Program} {w : World} {base : Heap} {K : PySem.W.Frag} {mg : Str → Option Value} {T : Tb} (R : Row K mg) : FnU P w base ⟨K, mg, T⟩ 3 "_law_sorts" ["purse", "most_here"] (runB 4 b__law_sorts) := by
  obtain ⟨f, fd, hm, F⟩ := R.d__law_sorts
  exact fnU_of F hm sc__law_sorts (fun _ _ _ _ _ _ us hl => match us, hl with | [_, _], _ => rfl) fun cdv A outer s H E hr => sb_cons (ss_set (i := 2) sc__law_sorts.nd rfl (by first | exact Or.inl rfl | exact Or.inr rfl) (fun Z => se_lst (sa_cons (se_lst (sa_cons (se_str) (sa_nil))) (sa_cons (se_lst (sa_cons (se_str) (sa_nil))) (sa_cons (se_lst (sa_cons (se_str) (sa_nil))) (sa_cons (se_lst (sa_cons (se_str) (sa_cons (se_str) (sa_nil)))) (sa_cons (se_lst (sa_cons (se_str) (sa_cons (se_str) (sa_nil)))) (sa_cons (se_lst (sa_cons (se_str) (sa_cons (se_str) (sa_nil)))) (sa_cons (se_lst (sa_cons (se_str) (sa_cons (se_str) (sa_cons (se_str) (sa_nil))))) (sa_nil)))))))))) (sb_one (ss_ret fun Z => se_call (u__law_pick R) (hr.mono (by decide)) rfl tkF (sa_cons (sv 0) (sa_cons (se_comp (own := [("row", 3)]) rfl sc__law_sorts.nd (si_any (sv 2)) (by rfl) (by decide) (fun _ _ _ _ _ => sg_name sc__law_sorts.nd) (fun _ _ _ _ _ => sts_one (st_le (se_len rfl R.n_len (vw 3)) (sv 1))) (fun _ _ _ _ _ => sv 3)) (sa_nil))) (len_cons (len_cons len_nil))))
def b_are_kinds : SDen := sSeq (sIf (dOr (dNot (dB (dFn (isiF tyTab) (dCons (dVar 0) (dCons (dC (.ty "tuple")) (dNil)))))) (dOr (dB (dBin eqD (dLen (dView 0)) (dC (.int 0)))) (dNot (dB (dFn allF (dCons (dComp [1] (dOver iterD (dVar 0)) (gSlot 1) (dYes) (dFn (isiF tyTab) (dCons (dVar 1) (dCons (dC (.ty "str")) (dNil))))) (dNil))))))) (sRet (dC (.bl false))) (sNext)) (sRet (dBin eqD (dFn listF (dCons (dVar 0) (dNil))) (dComp [1] (dOver iterD (dC (.kup [(.str "put"), (.str "out"), (.str "set")]))) (gSlot 1) (dB (dIn (dVar 1) (dView 0))) (dVar 1))))
theorem sc_are_kinds : FnScope ["value", "kind"] ["value"] (defScope st_are_kinds) := ⟨rfl, rfl, rfl, by decide +kernel, rfl, by decide +kernel, by decide +kernel⟩
theorem u_are_kinds {P : Program} {w : World} {base : Heap} {K : PySem.W.Frag} {mg : Str → Option Value} {T : Tb} (R : Row K mg) : FnU P w base ⟨K, mg, T⟩ 1 "are_kinds" ["value"] (runB 2 b_are_kinds) := by
  obtain ⟨f, fd, hm, F⟩ := R.d_are_kinds
  exact fnU_of F hm sc_are_kinds (fun _ _ _ _ _ _ us hl => match us, hl with | [_], _ => rfl) fun cdv A outer s H E hr => sb_cons (ss_if (fun Z => st_of (sw_or (st_not (st_val (se_isi R.isi rfl R.n_isinstance (sa_cons (sv 0) (sa_cons (se_ty rfl R.n_tuple) (sa_nil)))))) (sw_or (st_eq (rmU hr) (se_len rfl R.n_len (vw 0)) (se_int)) (sw_or1 (st_not (st_val (se_fnB (cr_all rfl) ok_allF rfl R.n_all (sa_cons (se_comp (own := [("kind", 1)]) rfl sc_are_kinds.nd (si_any (sv 0)) (by rfl) (by decide) (fun _ _ _ _ _ => sg_name sc_are_kinds.nd) (fun _ _ _ _ _ => sts_nil) (fun _ _ _ _ _ => se_isi R.isi rfl R.n_isinstance (sa_cons (sv 1) (sa_cons (se_ty rfl R.n_str) (sa_nil))))) (sa_nil))))))))) (sb_one (ss_ret fun Z => se_bl)) (sb_nil)) (sb_one (ss_ret fun Z => se_eq (rmU hr) (se_fnT call_list_of ok_listF rfl R.n_list (sa_cons (sv 0) (sa_nil))) (se_comp (own := [("kind", 1)]) rfl sc_are_kinds.nd (si_any (se_glo (R.c_KINDS) rfl)) (by rfl) (by decide) (fun _ _ _ _ _ => sg_name sc_are_kinds.nd) (fun _ _ _ _ _ => sts_one (st_inV (rmU hr) (sv 1) (vw 0))) (fun _ _ _ _ _ => sv 1))))
def b_check_kinds : SDen := sIf (dNot (dB (dCall (runB 2 b_are_kinds) (dCons (dVar 0) (dNil))))) ((fun _ _ => .bad)) (sNext)
theorem sc_check_kinds : FnScope ["value"] ["value"] (defScope st_check_kinds) := ⟨rfl, rfl, rfl, by decide +kernel, rfl, by decide +kernel, by decide +kernel⟩
theorem u_check_kinds {P : Program} {w : World} {base : Heap} {K : PySem.W.Frag} {mg : Str → Option Value} {T : Tb} (R : Row K mg) : FnU P w base ⟨K, mg, T⟩ 2 "check_kinds" ["value"] (runB 1 b_check_kinds) := by
  obtain ⟨f, fd, hm, F⟩ := R.d_check_kinds
  exact fnU_of F hm sc_check_kinds (fun _ _ _ _ _ _ us hl => match us, hl with | [_], _ => rfl) fun cdv A outer s H E hr => sb_one (ss_if (fun Z => st_not (st_val (se_call (u_are_kinds R) (hr.mono (by decide)) rfl tkF (sa_cons (sv 0) (sa_nil)) (len_cons len_nil)))) (sb_one (ss_never)) (sb_nil))
def b_is_result : SDen := sRet (dOrV (dIn (dVar 0) (dTup (dCons (dC (.str "keep")) (dCons (dC (.str "up")) (dCons (dC (.str "down")) (dCons (dC (.str "stay")) (dNil))))))) (dAndV (dBin eqD (dVar 0) (dC (.str "put"))) (dAndV (dBin eqD (dVar 1) (dC (.str "set"))) (dIn (dC (.str "put")) (dView 2)))))
theorem sc_is_result : FnScope ["word", "mine", "kinds"] ["word", "mine", "kinds"] (defScope st_is_result) := ⟨rfl, rfl, rfl, by decide +kernel, rfl, by decide +kernel, by decide +kernel⟩
theorem u_is_result {P : Program} {w : World} {base : Heap} {K : PySem.W.Frag} {mg : Str → Option Value} {T : Tb} (R : Row K mg) : FnU P w base ⟨K, mg, T⟩ 1 "is_result" ["word", "mine", "kinds"] (runB 3 b_is_result) := by
  obtain ⟨f, fd, hm, F⟩ := R.d_is_result
  exact fnU_of F hm sc_is_result (fun _ _ _ _ _ _ us hl => match us, hl with | [_, _, _], _ => rfl) fun cdv A outer s H E hr => sb_one (ss_ret fun Z => se_or (se_inV (rmU hr) (sv 0) (vw_se (se_tup (sa_cons (se_str) (sa_cons (se_str) (sa_cons (se_str) (sa_cons (se_str) (sa_nil)))))))) (se_one (se_and (se_eq (rmU hr) (sv 0) (se_str)) (se_and (se_eq (rmU hr) (sv 1) (se_str)) (se_one (se_inV (rmU hr) (se_str) (vw 2)))))))
def b_has_sign : SDen := sRet (dIn (dVar 0) (dTup (dCons (dC (.str "put")) (dCons (dC (.str "set")) (dNil)))))
theorem sc_has_sign : FnScope ["kind"] ["kind"] (defScope st_has_sign) := ⟨rfl, rfl, rfl, by decide +kernel, rfl, by decide +kernel, by decide +kernel⟩
theorem u_has_sign {P : Program} {w : World} {base : Heap} {K : PySem.W.Frag} {mg : Str → Option Value} {T : Tb} (R : Row K mg) : FnU P w base ⟨K, mg, T⟩ 1 "has_sign" ["kind"] (runB 1 b_has_sign) := by
  obtain ⟨f, fd, hm, F⟩ := R.d_has_sign
  exact fnU_of F hm sc_has_sign (fun _ _ _ _ _ _ us hl => match us, hl with | [_], _ => rfl) fun cdv A outer s H E hr => sb_one (ss_ret fun Z => se_inV (rmU hr) (sv 0) (vw_se (se_tup (sa_cons (se_str) (sa_cons (se_str) (sa_nil))))))
def b_is_condition : SDen := sRet (dOrV (dBin eqD (dVar 0) (dC (.str "first"))) (dAndV (dIn (dVar 0) (dC (.kup [(.str "less"), (.str "same"), (.str "more")]))) (dAndV (dCall (runB 1 b_has_sign) (dCons (dVar 1) (dNil))) (dCall (runB 1 b_has_sign) (dCons (dVar 2) (dNil))))))
theorem sc_is_condition : FnScope ["word", "mine", "its"] ["word", "mine", "its"] (defScope st_is_condition) := ⟨rfl, rfl, rfl, by decide +kernel, rfl, by decide +kernel, by decide +kernel⟩
theorem u_is_condition {P : Program} {w : World} {base : Heap} {K : PySem.W.Frag} {mg : Str → Option Value} {T : Tb} (R : Row K mg) : FnU P w base ⟨K, mg, T⟩ 2 "is_condition" ["word", "mine", "its"] (runB 3 b_is_condition) := by
  obtain ⟨f, fd, hm, F⟩ := R.d_is_condition
  exact fnU_of F hm sc_is_condition (fun _ _ _ _ _ _ us hl => match us, hl with | [_, _, _], _ => rfl) fun cdv A outer s H E hr => sb_one (ss_ret fun Z => se_or (se_eq (rmU hr) (sv 0) (se_str)) (se_one (se_and (se_inV (rmU hr) (sv 0) (vw_se (se_glo (R.c_SIGN_CONDITIONS) rfl))) (se_and (se_call (u_has_sign R) (hr.mono (by decide)) rfl tkF (sa_cons (sv 1) (sa_nil)) (len_cons len_nil)) (se_one (se_call (u_has_sign R) (hr.mono (by decide)) rfl tkF (sa_cons (sv 2) (sa_nil)) (len_cons len_nil)))))))
def b_is_option : SDen := sSeq (sAsg (dMt isStrD partO (dVar 0) (dCons (dC (.str ":")) (dNil))) (gItems 3 (gsCons (gSlot 4) (gsCons (gSlot 5) (gsCons (gSlot 6) (gsNil)))))) (sRet (dAndV (dBin eqD (dVar 5) (dC (.str ":"))) (dAndV (dCall (runB 3 b_is_condition) (dCons (dVar 4) (dCons (dVar 1) (dCons (dVar 2) (dNil))))) (dCall (runB 3 b_is_result) (dCons (dVar 6) (dCons (dVar 1) (dCons (dVar 3) (dNil))))))))
theorem sc_is_option : FnScope ["word", "mine", "its", "kinds", "condition", "colon", "result"] ["word", "mine", "its", "kinds"] (defScope st_is_option) := ⟨rfl, rfl, rfl, by decide +kernel, rfl, by decide +kernel, by decide +kernel⟩
theorem u_is_option {P : Program} {w : World} {base : Heap} {K : PySem.W.Frag} {mg : Str → Option Value} {T : Tb} (R : Row K mg) : FnU P w base ⟨K, mg, T⟩ 3 "is_option" ["word", "mine", "its", "kinds"] (runB 7 b_is_option) := by
  obtain ⟨f, fd, hm, F⟩ := R.d_is_option
  exact fnU_of F hm sc_is_option (fun _ _ _ _ _ _ us hl => match us, hl with | [_, _, _, _], _ => rfl) fun cdv A outer s H E hr => sb_cons (ss_asg (fun Z => mS_partition (sv 0) (sa_cons (se_str) (sa_nil))) (sg_tup rfl (sgs_cons (sg_name sc_is_option.nd) (sgs_cons (sg_name sc_is_option.nd) (sgs_cons (sg_name sc_is_option.nd) (sgs_nil)))))) (sb_one (ss_ret fun Z => se_and (se_eq (rmU hr) (sv 5) (se_str)) (se_and (se_call (u_is_condition R) (hr.mono (by decide)) rfl tkF (sa_cons (sv 4) (sa_cons (sv 1) (sa_cons (sv 2) (sa_nil)))) (len_cons (len_cons (len_cons len_nil)))) (se_one (se_call (u_is_result R) (hr.mono (by decide)) rfl tkF (sa_cons (sv 6) (sa_cons (sv 1) (sa_cons (sv 3) (sa_nil)))) (len_cons (len_cons (len_cons len_nil))))))))
def b_Cell___init__ : SDen := sSeq (sFput ["Cell"] 0 "key" (dVar 1)) (sFput ["Cell"] 0 "options" (dVar 2))
theorem sc_Cell___init__ : FnScope ["self", "key", "options"] ["self", "key", "options"] (defScope st_Cell___init__) := ⟨rfl, rfl, rfl, by decide +kernel, rfl, by decide +kernel, by decide +kernel⟩
theorem u_Cell___init__ {P : Program} {w : World} {base : Heap} {K : PySem.W.Frag} {mg : Str → Option Value} {T : Tb} (R : Row K mg) : MkU P w base ⟨K, mg, T⟩ 1 "Cell" 2 (runB 3 b_Cell___init__) := by
  obtain ⟨C, f, p, mc, fd, hm, ⟨h1, h2⟩, F⟩ := R.d_Cell___init__
  have hbd := F.bindsN (ps := ["self", "key", "options"]) (fun _ _ _ _ _ _ us hl => match us, hl with | [_, _, _], _ => rfl)
  exact mkU_of hm h2 F hbd sc_Cell___init__ rfl fun cdv A outer s H E hr => sb_cons (ss_fput (i := 0) R.f_key rfl (by first | exact Or.inl rfl | exact Or.inr (Or.inl rfl) | exact Or.inr (Or.inr rfl)) (fun Z => sv 1)) (sb_one (ss_fput (i := 0) R.f_options rfl (by first | exact Or.inl rfl | exact Or.inr (Or.inl rfl) | exact Or.inr (Or.inr rfl)) (fun Z => sv 2)))
def b_parsed_row : SDen := sSeq (sIf (dNot (dB (dFn (isiF tyTab) (dCons (dVar 0) (dCons (dC (.ty "str")) (dNil)))))) (sRet (dC .non)) (sNext)) (sSeq (sSet 2 (dMt isStrD splitO (dVar 0) (dCons (dC (.str " ")) (dNil)))) (sSeq (sIf (dOr (dNot (dB (dChain leD leD (dC (.int 4)) (dLen (dView 2)) (dBin addD (dC (.int 3)) (dC (.int 5)))))) (dB (dNin (dIx (dView 2) (dC (.int 2))) (dC (.kup [(.str "<"), (.str "="), (.str ">")]))))) (sRet (dC .non)) (sNext)) (sSeq (sAsg (dSlice (dVar 2) dNoPart (dPart (dC (.int 3)))) (gItems 3 (gsCons (gSlot 3) (gsCons (gSlot 4) (gsCons (gSlot 5) (gsNil)))))) (sSeq (sSet 6 (dSlice (dVar 2) (dPart (dC (.int 3))) dNoPart)) (sSeq (sIf (dOr (dB (dNin (dVar 3) (dView 1))) (dOr (dB (dNin (dVar 4) (dView 1))) (dNot (dB (dCall (runB 3 b_is_result) (dCons (dIx (dView 6) (dUn negD (dC (.int 1)))) (dCons (dVar 3) (dCons (dVar 1) (dNil))))))))) (sRet (dC .non)) (sNext)) (sSeq (sIf (dNot (dB (dFn allF (dCons (dComp [7] (dOver iterD (dSlice (dVar 6) dNoPart (dPart (dUn negD (dC (.int 1)))))) (gSlot 7) (dYes) (dCall (runB 7 b_is_option) (dCons (dVar 7) (dCons (dVar 3) (dCons (dVar 4) (dCons (dVar 1) (dNil))))))) (dNil))))) (sRet (dC .non)) (sNext)) (sRet (dMake "Cell" (runB 3 b_Cell___init__) (dCons (dTup (dCons (dVar 3) (dCons (dVar 4) (dCons (dVar 5) (dNil))))) (dCons (dFn tupleF (dCons (dVar 6) (dNil))) (dNil)))))))))))
theorem sc_parsed_row : FnScope ["text", "kinds", "words", "mine", "its", "relation", "options", "word"] ["text", "kinds"] (defScope st_parsed_row) := ⟨rfl, rfl, rfl, by decide +kernel, rfl, by decide +kernel, by decide +kernel⟩
theorem u_parsed_row {P : Program} {w : World} {base : Heap} {K : PySem.W.Frag} {mg : Str → Option Value} {T : Tb} (R : Row K mg) : FnU P w base ⟨K, mg, T⟩ 4 "parsed_row" ["text", "kinds"] (runB 8 b_parsed_row) := by
  obtain ⟨f, fd, hm, F⟩ := R.d_parsed_row
  exact fnU_of F hm sc_parsed_row (fun _ _ _ _ _ _ us hl => match us, hl with | [_, _], _ => rfl) fun cdv A outer s H E hr => sb_cons (ss_if (fun Z => st_not (st_val (se_isi R.isi rfl R.n_isinstance (sa_cons (sv 0) (sa_cons (se_ty rfl R.n_str) (sa_nil)))))) (sb_one (ss_ret fun Z => se_non)) (sb_nil)) (sb_cons (ss_set (i := 2) sc_parsed_row.nd rfl (by first | exact Or.inl rfl | exact Or.inr rfl) (fun Z => mS_split (sv 0) (sa_cons (se_str) (sa_nil)))) (sb_cons (ss_if (fun Z => st_of (sw_or (st_not (st_chain op_le op_le ok_le ok_le (se_int) (se_len rfl R.n_len (vw 2)) (se_add (se_int) (se_glo (R.c_MOST_OPTIONS) rfl)))) (sw_or1 (st_ninV (rmU hr) (se_idx (rmU hr) (vw 2) (se_int) (fun _ _ => rfl)) (vw_se (se_glo (R.c_RELATIONS) rfl)))))) (sb_one (ss_ret fun Z => se_non)) (sb_nil)) (sb_cons (ss_asg (fun Z => se_slice (sv 2) so_none (so_some (se_int))) (sg_tup rfl (sgs_cons (sg_name sc_parsed_row.nd) (sgs_cons (sg_name sc_parsed_row.nd) (sgs_cons (sg_name sc_parsed_row.nd) (sgs_nil)))))) (sb_cons (ss_set (i := 6) sc_parsed_row.nd rfl (by first | exact Or.inl rfl | exact Or.inr rfl) (fun Z => se_slice (sv 2) (so_some (se_int)) so_none)) (sb_cons (ss_if (fun Z => st_of (sw_or (st_ninV (rmU hr) (sv 3) (vw 1)) (sw_or (st_ninV (rmU hr) (sv 4) (vw 1)) (sw_or1 (st_not (st_val (se_call (u_is_result R) (hr.mono (by decide)) rfl tkF (sa_cons (se_idx (rmU hr) (vw 6) (se_neg (se_int)) (fun _ _ => rfl)) (sa_cons (sv 3) (sa_cons (sv 1) (sa_nil)))) (len_cons (len_cons (len_cons len_nil)))))))))) (sb_one (ss_ret fun Z => se_non)) (sb_nil)) (sb_cons (ss_if (fun Z => st_not (st_val (se_fnB (cr_all rfl) ok_allF rfl R.n_all (sa_cons (se_comp (own := [("word", 7)]) rfl sc_parsed_row.nd (si_any (se_slice (sv 6) so_none (so_some (se_neg (se_int))))) (by rfl) (by decide) (fun _ _ _ _ _ => sg_name sc_parsed_row.nd) (fun _ _ _ _ _ => sts_nil) (fun _ _ _ _ _ => se_call (u_is_option R) (hr.mono (by decide)) rfl takes0N (sa_cons (sv 7) (sa_cons (sv 3) (sa_cons (sv 4) (sa_cons (sv 1) (sa_nil))))) (len_cons (len_cons (len_cons (len_cons len_nil)))))) (sa_nil))))) (sb_one (ss_ret fun Z => se_non)) (sb_nil)) (sb_one (ss_ret fun Z => se_make (u_Cell___init__ R) (hr.mono (by decide)) rfl tkF (sa_cons (se_tup (sa_cons (sv 3) (sa_cons (sv 4) (sa_cons (sv 5) (sa_nil))))) (sa_cons (se_fnT call_tuple_of ok_tupleF rfl R.n_tuple (sa_cons (sv 6) (sa_nil))) (sa_nil))) (len_cons (len_cons len_nil))))))))))
def b_check_rows : SDen := sSeq (sIf (dNot (dB (dFn (isiF tyTab) (dCons (dVar 1) (dCons (dC (.ty "tuple")) (dNil)))))) ((fun _ _ => .bad)) (sNext)) (sSeq (sOwn 2 (dNew true)) (sSeq (sFor (dOverA enumO (dCons (dVar 1) (dNil))) (gItems 2 (gsCons (gSlot 3) (gsCons (gSlot 4) (gsNil)))) (sSeq (sSet 5 (dCall (runB 8 b_parsed_row) (dCons (dVar 4) (dCons (dVar 0) (dNil))))) (sSeq (sIf (dOr (dB (dBin isND (dVar 5) (dC .non))) (dB (dIn (dFld ["Cell"] "key" (dView 5)) (dView 2)))) ((fun _ _ => .bad)) (sNext)) (sAsg (dFld ["Cell"] "options" (dView 5)) (gSub 2 (dFld ["Cell"] "key" (dView 5))))))) (sFrz 2 (sRet (dVar 2)))))
theorem sc_check_rows : FnScope ["kinds", "value", "found", "index", "row", "cell"] ["kinds", "value"] (defScope st_check_rows) := ⟨rfl, rfl, rfl, by decide +kernel, rfl, by decide +kernel, by decide +kernel⟩
theorem u_check_rows {P : Program} {w : World} {base : Heap} {K : PySem.W.Frag} {mg : Str → Option Value} {T : Tb} (R : Row K mg) : FnU P w base ⟨K, mg, T⟩ 5 "check_rows" ["kinds", "value"] (runB 6 b_check_rows) := by
  obtain ⟨f, fd, hm, F⟩ := R.d_check_rows
  exact fnU_of F hm sc_check_rows (fun _ _ _ _ _ _ us hl => match us, hl with | [_, _], _ => rfl) fun cdv A outer s H E hr => sb_cons (ss_if (fun Z => st_not (st_val (se_isi R.isi rfl R.n_isinstance (sa_cons (sv 1) (sa_cons (se_ty rfl R.n_tuple) (sa_nil)))))) (sb_one (ss_never)) (sb_nil)) (sb_cons (ss_own (i := 2) sc_check_rows.nd rfl (by first | exact Or.inl rfl | exact Or.inr rfl) (fun Z => sf_newT)) (sb_cons (ss_for (by first | exact pOF | exact PassesOwn.never) rfl (fun Z => si_enum rfl R.n_enumerate (sa_cons (sv 1) (sa_nil))) (sg_tup rfl (sgs_cons (sg_name sc_check_rows.nd) (sgs_cons (sg_name sc_check_rows.nd) (sgs_nil)))) (sb_cons (ss_set (i := 5) sc_check_rows.nd rfl (by first | exact Or.inl rfl | exact Or.inr rfl) (fun Z => se_call (u_parsed_row R) (hr.mono (by decide)) rfl tkF (sa_cons (sv 4) (sa_cons (sv 0) (sa_nil))) (len_cons (len_cons len_nil)))) (sb_cons (ss_if (fun Z => st_of (sw_or (st_isN (sv 5) (se_non)) (sw_or1 (st_inV (rmU hr) (se_fldV R.f_key (vw 5)) (vw 2))))) (sb_one (ss_never)) (sb_nil)) (sb_one (ss_asg (fun Z => se_fldV R.f_options (vw 5)) (sg_sub (rmU hr) rfl (by first | exact Or.inl rfl | exact Or.inr (Or.inl rfl) | exact Or.inr (Or.inr rfl)) (fun _ => se_fldV R.f_key (vw 5)))))))) (sb_frz 2 (sb_one (ss_ret fun Z => sv 2)))))
def b_Table___init__ : SDen := sSeq (sExpr (dCall (runB 1 b_check_kinds) (dCons (dVar 1) (dNil)))) (sSeq (sFput ["Table"] 0 "cells" (dCall (runB 6 b_check_rows) (dCons (dVar 1) (dCons (dVar 2) (dNil))))) (sSeq (sFput ["Table"] 0 "held_kinds" (dVar 1)) (sFput ["Table"] 0 "held_rows" (dVar 2))))
theorem sc_Table___init__ : FnScope ["self", "kinds", "rows"] ["self", "kinds", "rows"] (defScope st_Table___init__) := ⟨rfl, rfl, rfl, by decide +kernel, rfl, by decide +kernel, by decide +kernel⟩
theorem u_Table___init__ {P : Program} {w : World} {base : Heap} {K : PySem.W.Frag} {mg : Str → Option Value} {T : Tb} (R : Row K mg) : MkU P w base ⟨K, mg, T⟩ 6 "Table" 2 (runB 3 b_Table___init__) := by
  obtain ⟨C, f, p, mc, fd, v0, hm, ⟨h1, h2⟩, F⟩ := R.d_Table___init__
  have hbd : Binds K fd ["self", "kinds", "rows"] [] := binds_all (ps := ["self", "kinds", "rows"]) F (fun dV kV doc pm an cdv ct us hd hl => match us, hl with | [_, _, _], _ => ⟨fun e => by subst e; rfl, fun t e => by subst e; exact ⟨_, rfl, fun its hi => by (try cases its with | nil => cases hi | cons a r => (cases r with | nil => rfl | cons _ _ => cases hi))⟩⟩)
  exact mkU_of hm h2 F hbd sc_Table___init__ rfl fun cdv A outer s H E hr => sb_cons (ss_expr (fun Z => se_call (u_check_kinds R) (hr.mono (by decide)) rfl tkF (sa_cons (sv 1) (sa_nil)) (len_cons len_nil))) (sb_cons (ss_fput (i := 0) R.f_cells rfl (by first | exact Or.inl rfl | exact Or.inr (Or.inl rfl) | exact Or.inr (Or.inr rfl)) (fun Z => se_call (u_check_rows R) (hr.mono (by decide)) rfl tkF (sa_cons (sv 1) (sa_cons (sv 2) (sa_nil))) (len_cons (len_cons len_nil)))) (sb_cons (ss_fput (i := 0) R.f_held_kinds rfl (by first | exact Or.inl rfl | exact Or.inr (Or.inl rfl) | exact Or.inr (Or.inr rfl)) (fun Z => sv 1)) (sb_one (ss_fput (i := 0) R.f_held_rows rfl (by first | exact Or.inl rfl | exact Or.inr (Or.inl rfl) | exact Or.inr (Or.inr rfl)) (fun Z => sv 2)))))
def b_Table_read : SDen := sSeq (sIf (dNot (dB (dFn (isiF tyTab) (dCons (dVar 1) (dCons (dC (.ty "str")) (dNil)))))) ((fun _ _ => .bad)) (sNext)) (sSeq (sAsg (dMt isStrD splitO (dVar 1) (dCons (dC (.str "\n")) (dNil))) (gStar 1 (gsCons (gSlot 2) (gsCons (gSlot 3) (gsNil))))) (sSeq (sAsg (dMt isStrD splitO (dVar 2) (dCons (dC (.str " ")) (dNil))) (gStar 1 (gsCons (gSlot 4) (gsCons (gSlot 5) (gsNil))))) (sSeq ((fun ρ h => noExc ((sSet 6 (dMakeV 0 "Table" (runB 3 b_Table___init__) (dCons (dFn tupleF (dCons (dVar 5) (dNil))) (dCons (dFn tupleF (dCons (dVar 3) (dNil))) (dNil))))) ρ h))) (sSeq (sIf (dB (dBin neD (dVar 4) (dC (.str "kinds")))) ((fun _ _ => .bad)) (sNext)) (sRet (dVar 6))))))
theorem sc_Table_read : FnScope ["cls", "text", "head", "rows", "word", "kinds", "table"] ["cls", "text"] (defScope st_Table_read) := ⟨rfl, rfl, rfl, by decide +kernel, rfl, by decide +kernel, by decide +kernel⟩
theorem u_Table_read {P : Program} {w : World} {base : Heap} {K : PySem.W.Frag} {mg : Str → Option Value} {T : Tb} (R : Row K mg) : CMethU P w base ⟨K, mg, T⟩ 8 "Table" "read" 1 (runB 7 b_Table_read) := by
  obtain ⟨C, f, p, mc, fd, hm, ⟨h1, h2⟩, F⟩ := R.d_Table_read
  have hbd := F.bindsN (ps := ["cls", "text"]) (fun _ _ _ _ _ _ us hl => match us, hl with | [_, _], _ => rfl)
  exact cmethU_of hm h1 h2 F hbd sc_Table_read rfl fun cdv A outer s H E hr => sb_cons (ss_if (fun Z => st_not (st_val (se_isi R.isi rfl R.n_isinstance (sa_cons (sv 1) (sa_cons (se_ty rfl R.n_str) (sa_nil)))))) (sb_one (ss_never)) (sb_nil)) (sb_cons (ss_asg (fun Z => mS_split (sv 1) (sa_cons (se_str) (sa_nil))) (sg_starL rfl (sgs_cons (sg_name sc_Table_read.nd) (sgs_star (sg_name sc_Table_read.nd) (sgs_nil))))) (sb_cons (ss_asg (fun Z => mS_split (sv 2) (sa_cons (se_str) (sa_nil))) (sg_starL rfl (sgs_cons (sg_name sc_Table_read.nd) (sgs_star (sg_name sc_Table_read.nd) (sgs_nil))))) (sb_cons (ss_thru (sb_one (ss_set (i := 6) sc_Table_read.nd rfl (by first | exact Or.inl rfl | exact Or.inr rfl) (fun Z => se_makeV (u_Table___init__ R) (hr.mono (by decide)) rfl (by first | exact Or.inl rfl | exact Or.inr (Or.inl rfl) | exact Or.inr (Or.inr rfl)) takes0N (sa_cons (se_fnT call_tuple_of ok_tupleF rfl R.n_tuple (sa_cons (sv 5) (sa_nil))) (sa_cons (se_fnT call_tuple_of ok_tupleF rfl R.n_tuple (sa_cons (sv 3) (sa_nil))) (sa_nil))) (len_cons (len_cons len_nil)))))) (sb_cons (ss_if (fun Z => st_ne (rmU hr) (sv 4) (se_str)) (sb_one (ss_never)) (sb_nil)) (sb_one (ss_ret fun Z => sv 6))))))
def b__law_text : SDen := sSeq (sOwn 2 (dLst (dCons (dMt isStrD joinO (dC (.str " ")) (dCons (dBin addD (dLst (dCons (dC (.str "kinds")) (dNil))) (dVar 0)) (dNil))) (dNil)))) (sSeq (sFor (dOver dkeysD (dVar 1)) (gSlot 3) (sApp 2 (dMt isStrD joinO (dC (.str " ")) (dCons (dBin addD (dFn listF (dCons (dVar 3) (dNil))) (dIx (dView 1) (dVar 3))) (dNil))))) (sFrz 2 (sRet (dMt isStrD joinO (dC (.str "\n")) (dCons (dVar 2) (dNil))))))
theorem sc__law_text : FnScope ["sorts", "cells", "found", "key"] ["sorts", "cells"] (defScope st__law_text) := ⟨rfl, rfl, rfl, by decide +kernel, rfl, by decide +kernel, by decide +kernel⟩
theorem u__law_text {P : Program} {w : World} {base : Heap} {K : PySem.W.Frag} {mg : Str → Option Value} {T : Tb} (R : Row K mg) : FnU P w base ⟨K, mg, T⟩ 1 "_law_text" ["sorts", "cells"] (runB 4 b__law_text) := by
  obtain ⟨f, fd, hm, F⟩ := R.d__law_text
  exact fnU_of F hm sc__law_text (fun _ _ _ _ _ _ us hl => match us, hl with | [_, _], _ => rfl) fun cdv A outer s H E hr => sb_cons (ss_own (i := 2) sc__law_text.nd rfl (by first | exact Or.inl rfl | exact Or.inr rfl) (fun Z => sf_lst (sa_cons (mS_join (se_str) (sa_cons (se_add (se_lst (sa_cons (se_str) (sa_nil))) (sv 0)) (sa_nil))) (sa_nil)))) (sb_cons (ss_for (by first | exact pOF | exact PassesOwn.never) rfl (fun Z => si_keys (sv 1)) (sg_name sc__law_text.nd) (sb_one (ss_app (i := 2) rfl (by first | exact Or.inl rfl | exact Or.inr (Or.inl rfl) | exact Or.inr (Or.inr rfl)) (fun Z => mS_join (se_str) (sa_cons (se_add (se_fnT call_list_of ok_listF rfl R.n_list (sa_cons (sv 3) (sa_nil))) (se_idx (rmU hr) (vw 1) (sv 3) (fun _ _ => rfl))) (sa_nil)))))) (sb_frz 2 (sb_one (ss_ret fun Z => mS_join (se_str) (sa_cons (sv 2) (sa_nil))))))
def b__law_good : SDen := sSeq (sOwn 0 (dDisp true [(dTup (dCons (dC (.str "put")) (dCons (dC (.str "put")) (dCons (dC (.str ">")) (dNil)))), dLst (dCons (dC (.str "up")) (dNil))), (dTup (dCons (dC (.str "put")) (dCons (dC (.str "put")) (dCons (dC (.str "=")) (dNil)))), dLst (dCons (dC (.str "first:keep")) (dCons (dC (.str "up")) (dNil)))), (dTup (dCons (dC (.str "put")) (dCons (dC (.str "out")) (dCons (dC (.str ">")) (dNil)))), dLst (dCons (dC (.str "down")) (dNil)))])) (sSeq (sUpd 0 (dDisp true [(dTup (dCons (dC (.str "out")) (dCons (dC (.str "put")) (dCons (dC (.str ">")) (dNil)))), dLst (dCons (dC (.str "up")) (dNil))), (dTup (dCons (dC (.str "out")) (dCons (dC (.str "put")) (dCons (dC (.str "=")) (dNil)))), dLst (dCons (dC (.str "up")) (dNil))), (dTup (dCons (dC (.str "out")) (dCons (dC (.str "out")) (dCons (dC (.str ">")) (dNil)))), dLst (dCons (dC (.str "down")) (dNil)))])) (sSeq (sUpd 0 (dDisp true [(dTup (dCons (dC (.str "out")) (dCons (dC (.str "out")) (dCons (dC (.str "=")) (dNil)))), dLst (dCons (dC (.str "stay")) (dNil))), (dTup (dCons (dC (.str "set")) (dCons (dC (.str "put")) (dCons (dC (.str ">")) (dNil)))), dLst (dCons (dC (.str "up")) (dNil))), (dTup (dCons (dC (.str "set")) (dCons (dC (.str "put")) (dCons (dC (.str "=")) (dNil)))), dLst (dCons (dC (.str "up")) (dNil)))])) (sSeq (sUpd 0 (dDisp true [(dTup (dCons (dC (.str "set")) (dCons (dC (.str "out")) (dCons (dC (.str ">")) (dNil)))), dLst (dCons (dC (.str "down")) (dNil))), (dTup (dCons (dC (.str "set")) (dCons (dC (.str "out")) (dCons (dC (.str "=")) (dNil)))), dLst (dCons (dC (.str "stay")) (dNil)))])) (sSeq (sAsg (dLst (dCons (dC (.str "first:keep")) (dCons (dC (.str "stay")) (dNil)))) (gSub 0 (dTup (dCons (dC (.str "set")) (dCons (dC (.str "set")) (dCons (dC (.str "=")) (dNil))))))) (sFrz 0 (sRet (dVar 0)))))))
theorem sc__law_good : FnScope ["cells"] [] (defScope st__law_good) := ⟨rfl, rfl, rfl, by decide +kernel, rfl, by decide +kernel, by decide +kernel⟩
theorem u__law_good {P : Program} {w : World} {base : Heap} {K : PySem.W.Frag} {mg : Str → Option Value} {T : Tb} (R : Row K mg) : FnU P w base ⟨K, mg, T⟩ 1 "_law_good" [] (runB 1 b__law_good) := by
  obtain ⟨f, fd, hm, F⟩ := R.d__law_good
  exact fnU_of F hm sc__law_good (fun _ _ _ _ _ _ us hl => match us, hl with | [], _ => rfl) fun cdv A outer s H E hr => sb_cons (ss_own (i := 0) sc__law_good.nd rfl (by first | exact Or.inl rfl | exact Or.inr rfl) (fun Z => sf_dispT (rmU hr) (sps_cons (se_tup (sa_cons (se_str) (sa_cons (se_str) (sa_cons (se_str) (sa_nil))))) (se_lst (sa_cons (se_str) (sa_nil))) (sps_cons (se_tup (sa_cons (se_str) (sa_cons (se_str) (sa_cons (se_str) (sa_nil))))) (se_lst (sa_cons (se_str) (sa_cons (se_str) (sa_nil)))) (sps_cons (se_tup (sa_cons (se_str) (sa_cons (se_str) (sa_cons (se_str) (sa_nil))))) (se_lst (sa_cons (se_str) (sa_nil))) (sps_nil)))))) (sb_cons (ss_upd (i := 0) (rmU hr) rfl (by first | exact Or.inl rfl | exact Or.inr (Or.inl rfl) | exact Or.inr (Or.inr rfl)) (fun Z => se_fr (sf_dispT (rmU hr) (sps_cons (se_tup (sa_cons (se_str) (sa_cons (se_str) (sa_cons (se_str) (sa_nil))))) (se_lst (sa_cons (se_str) (sa_nil))) (sps_cons (se_tup (sa_cons (se_str) (sa_cons (se_str) (sa_cons (se_str) (sa_nil))))) (se_lst (sa_cons (se_str) (sa_nil))) (sps_cons (se_tup (sa_cons (se_str) (sa_cons (se_str) (sa_cons (se_str) (sa_nil))))) (se_lst (sa_cons (se_str) (sa_nil))) (sps_nil))))))) (sb_cons (ss_upd (i := 0) (rmU hr) rfl (by first | exact Or.inl rfl | exact Or.inr (Or.inl rfl) | exact Or.inr (Or.inr rfl)) (fun Z => se_fr (sf_dispT (rmU hr) (sps_cons (se_tup (sa_cons (se_str) (sa_cons (se_str) (sa_cons (se_str) (sa_nil))))) (se_lst (sa_cons (se_str) (sa_nil))) (sps_cons (se_tup (sa_cons (se_str) (sa_cons (se_str) (sa_cons (se_str) (sa_nil))))) (se_lst (sa_cons (se_str) (sa_nil))) (sps_cons (se_tup (sa_cons (se_str) (sa_cons (se_str) (sa_cons (se_str) (sa_nil))))) (se_lst (sa_cons (se_str) (sa_nil))) (sps_nil))))))) (sb_cons (ss_upd (i := 0) (rmU hr) rfl (by first | exact Or.inl rfl | exact Or.inr (Or.inl rfl) | exact Or.inr (Or.inr rfl)) (fun Z => se_fr (sf_dispT (rmU hr) (sps_cons (se_tup (sa_cons (se_str) (sa_cons (se_str) (sa_cons (se_str) (sa_nil))))) (se_lst (sa_cons (se_str) (sa_nil))) (sps_cons (se_tup (sa_cons (se_str) (sa_cons (se_str) (sa_cons (se_str) (sa_nil))))) (se_lst (sa_cons (se_str) (sa_nil))) (sps_nil)))))) (sb_cons (ss_asg (fun Z => se_lst (sa_cons (se_str) (sa_cons (se_str) (sa_nil)))) (sg_sub (rmU hr) rfl (by first | exact Or.inl rfl | exact Or.inr (Or.inl rfl) | exact Or.inr (Or.inr rfl)) (fun _ => se_tup (sa_cons (se_str) (sa_cons (se_str) (sa_cons (se_str) (sa_nil))))))) (sb_frz 0 (sb_one (ss_ret fun Z => sv 0)))))))
def b__law_options : SDen := sSeq (sSet 5 (dBin addD (dLst (dCons (dC (.str "keep")) (dCons (dC (.str "up")) (dCons (dC (.str "down")) (dCons (dC (.str "stay")) (dNil)))))) (dIf (dAnd (dB (dBin eqD (dVar 1) (dC (.str "set")))) (dB (dIn (dC (.str "put")) (dView 3)))) (dLst (dCons (dC (.str "put")) (dNil))) (dLst (dNil))))) (sSeq (sSet 6 (dLst (dCons (dC (.str "first")) (dNil)))) (sSeq (sIf (dAnd (dB (dVar 4)) (dAnd (dB (dBin neD (dVar 1) (dC (.str "out")))) (dB (dBin neD (dVar 2) (dC (.str "out")))))) (sSet 6 (dLst (dCons (dC (.str "first")) (dCons (dC (.str "less")) (dCons (dC (.str "same")) (dCons (dC (.str "more")) (dNil))))))) (sNext)) (sSeq (sOwn 7 (dLst (dNil))) (sSeq (sFor (dOverA rngD (dCons (dCall (runB 2 b__law_pick) (dCons (dVar 0) (dCons (dLst (dCons (dC (.int 0)) (dCons (dC (.int 0)) (dCons (dC (.int 1)) (dCons (dC (.int 2)) (dNil)))))) (dNil)))) (dNil))) (gSlot 8) (sApp 7 (dBin addD (dBin addD (dCall (runB 2 b__law_pick) (dCons (dVar 0) (dCons (dVar 6) (dNil)))) (dC (.str ":"))) (dCall (runB 2 b__law_pick) (dCons (dVar 0) (dCons (dVar 5) (dNil))))))) (sFrz 7 (sRet (dBin addD (dVar 7) (dLst (dCons (dCall (runB 2 b__law_pick) (dCons (dVar 0) (dCons (dVar 5) (dNil)))) (dNil))))))))))
theorem sc__law_options : FnScope ["purse", "mine", "its", "sorts", "is_asked", "results", "words", "found", "k"] ["purse", "mine", "its", "sorts", "is_asked"] (defScope st__law_options) := ⟨rfl, rfl, rfl, by decide +kernel, rfl, by decide +kernel, by decide +kernel⟩
theorem u__law_options {P : Program} {w : World} {base : Heap} {K : PySem.W.Frag} {mg : Str → Option Value} {T : Tb} (R : Row K mg) : FnU P w base ⟨K, mg, T⟩ 3 "_law_options" ["purse", "mine", "its", "sorts", "is_asked"] (runB 9 b__law_options) := by
  obtain ⟨f, fd, hm, F⟩ := R.d__law_options
  exact fnU_of F hm sc__law_options (fun _ _ _ _ _ _ us hl => match us, hl with | [_, _, _, _, _], _ => rfl) fun cdv A outer s H E hr => sb_cons (ss_set (i := 5) sc__law_options.nd rfl (by first | exact Or.inl rfl | exact Or.inr rfl) (fun Z => se_add (se_lst (sa_cons (se_str) (sa_cons (se_str) (sa_cons (se_str) (sa_cons (se_str) (sa_nil)))))) (se_if (st_of (sw_and (st_eq (rmU hr) (sv 1) (se_str)) (sw_and1 (st_inV (rmU hr) (se_str) (vw 3))))) (se_lst (sa_cons (se_str) (sa_nil))) (se_lst (sa_nil))))) (sb_cons (ss_set (i := 6) sc__law_options.nd rfl (by first | exact Or.inl rfl | exact Or.inr rfl) (fun Z => se_lst (sa_cons (se_str) (sa_nil)))) (sb_cons (ss_if (fun Z => st_of (sw_and (st_val (sv 4)) (sw_and (st_ne (rmU hr) (sv 1) (se_str)) (sw_and1 (st_ne (rmU hr) (sv 2) (se_str)))))) (sb_one (ss_set (i := 6) sc__law_options.nd rfl (by first | exact Or.inl rfl | exact Or.inr rfl) (fun Z => se_lst (sa_cons (se_str) (sa_cons (se_str) (sa_cons (se_str) (sa_cons (se_str) (sa_nil)))))))) (sb_nil)) (sb_cons (ss_own (i := 7) sc__law_options.nd rfl (by first | exact Or.inl rfl | exact Or.inr rfl) (fun Z => sf_lst (sa_nil))) (sb_cons (ss_for (by first | exact pOF | exact PassesOwn.never) rfl (fun Z => si_range1 rfl R.n_range (sa_cons (se_call (u__law_pick R) (hr.mono (by decide)) rfl tkF (sa_cons (sv 0) (sa_cons (se_lst (sa_cons (se_int) (sa_cons (se_int) (sa_cons (se_int) (sa_cons (se_int) (sa_nil)))))) (sa_nil))) (len_cons (len_cons len_nil))) (sa_nil))) (sg_name sc__law_options.nd) (sb_one (ss_app (i := 7) rfl (by first | exact Or.inl rfl | exact Or.inr (Or.inl rfl) | exact Or.inr (Or.inr rfl)) (fun Z => se_add (se_add (se_call (u__law_pick R) (hr.mono (by decide)) rfl tkF (sa_cons (sv 0) (sa_cons (sv 6) (sa_nil))) (len_cons (len_cons len_nil))) (se_str)) (se_call (u__law_pick R) (hr.mono (by decide)) rfl tkF (sa_cons (sv 0) (sa_cons (sv 5) (sa_nil))) (len_cons (len_cons len_nil))))))) (sb_frz 7 (sb_one (ss_ret fun Z => se_add (sv 7) (se_lst (sa_cons (se_call (u__law_pick R) (hr.mono (by decide)) rfl tkF (sa_cons (sv 0) (sa_cons (sv 5) (sa_nil))) (len_cons (len_cons len_nil))) (sa_nil))))))))))
def b__law_cells : SDen := sSeq (sParO (dCall (runB 1 b__law_good) dNil) (dNew true) 4 5) (sSeq (sFor (dOver dkeysD (dVar 4)) (gSlot 6) (sIf (dAnd (dB (dIn (dIx (dView 6) (dC (.int 0))) (dView 1))) (dB (dIn (dIx (dView 6) (dC (.int 1))) (dView 1)))) (sAsg (dIx (dView 4) (dVar 6)) (gSub 5 (dVar 6))) (sNext))) (sSeq (sFor (dOverA rngD (dCons (dVar 2) (dNil))) (gSlot 7) (sSeq (sPar (dCons (dCall (runB 2 b__law_pick) (dCons (dVar 0) (dCons (dVar 1) (dNil)))) (dCons (dCall (runB 2 b__law_pick) (dCons (dVar 0) (dCons (dVar 1) (dNil)))) (dNil))) 8 9) (sSeq (sSet 6 (dTup (dCons (dVar 8) (dCons (dVar 9) (dCons (dCall (runB 2 b__law_pick) (dCons (dVar 0) (dCons (dLst (dCons (dC (.str "<")) (dCons (dC (.str "=")) (dCons (dC (.str "=")) (dCons (dC (.str ">")) (dNil)))))) (dNil)))) (dNil)))))) (sAsg (dCall (runB 9 b__law_options) (dCons (dVar 0) (dCons (dVar 8) (dCons (dVar 9) (dCons (dVar 1) (dCons (dVar 3) (dNil))))))) (gSub 5 (dVar 6)))))) (sSeq (sIf (dAnd (dB (dVar 3)) (dAnd (dB (dIn (dC (.str "put")) (dView 1))) (dB (dBin eqD (dCall (runB 5 b__law_draw) (dCons (dVar 0) (dCons (dC (.int 2)) (dNil)))) (dC (.int 0)))))) (sAsg (dLst (dCons (dC (.str "less:keep")) (dCons (dC (.str "more:up")) (dCons (dC (.str "first:keep")) (dCons (dC (.str "up")) (dNil)))))) (gSub 5 (dTup (dCons (dC (.str "put")) (dCons (dC (.str "put")) (dCons (dC (.str "=")) (dNil))))))) (sNext)) (sFrz 5 (sRet (dVar 5))))))
theorem sc__law_cells : FnScope ["purse", "sorts", "bends", "is_asked", "good", "found", "key", "k", "mine", "its"] ["purse", "sorts", "bends", "is_asked"] (defScope st__law_cells) := ⟨rfl, rfl, rfl, by decide +kernel, rfl, by decide +kernel, by decide +kernel⟩
theorem u__law_cells {P : Program} {w : World} {base : Heap} {K : PySem.W.Frag} {mg : Str → Option Value} {T : Tb} (R : Row K mg) : FnU P w base ⟨K, mg, T⟩ 4 "_law_cells" ["purse", "sorts", "bends", "is_asked"] (runB 10 b__law_cells) := by
  obtain ⟨f, fd, hm, F⟩ := R.d__law_cells
  exact fnU_of F hm sc__law_cells (fun _ _ _ _ _ _ us hl => match us, hl with | [_, _, _, _], _ => rfl) fun cdv A outer s H E hr => sb_cons (ss_parO (i := 4) (j := 5) rfl sc__law_cells.nd rfl rfl (by decide) rfl rfl (fun Z => se_call0 (u__law_good R) (hr.mono (by decide)) rfl tkF) (fun Z => sf_newT) (by rfl)) (sb_cons (ss_for (by first | exact pOF | exact PassesOwn.never) rfl (fun Z => si_keys (sv 4)) (sg_name sc__law_cells.nd) (sb_one (ss_if (fun Z => st_of (sw_and (st_inV (rmU hr) (se_idx (rmU hr) (vw 6) (se_int) (fun _ _ => rfl)) (vw 1)) (sw_and1 (st_inV (rmU hr) (se_idx (rmU hr) (vw 6) (se_int) (fun _ _ => rfl)) (vw 1))))) (sb_one (ss_asg (fun Z => se_idx (rmU hr) (vw 4) (sv 6) (fun _ _ => rfl)) (sg_sub (rmU hr) rfl (by first | exact Or.inl rfl | exact Or.inr (Or.inl rfl) | exact Or.inr (Or.inr rfl)) (fun _ => sv 6)))) (sb_nil)))) (sb_cons (ss_for (by first | exact pOF | exact PassesOwn.never) rfl (fun Z => si_range1 rfl R.n_range (sa_cons (sv 2) (sa_nil))) (sg_name sc__law_cells.nd) (sb_cons (ss_par (i := 8) (j := 9) rfl sc__law_cells.nd rfl rfl (by decide) rfl rfl (fun Z => sa_cons (se_call (u__law_pick R) (hr.mono (by decide)) rfl tkF (sa_cons (sv 0) (sa_cons (sv 1) (sa_nil))) (len_cons (len_cons len_nil))) (sa_cons (se_call (u__law_pick R) (hr.mono (by decide)) rfl tkF (sa_cons (sv 0) (sa_cons (sv 1) (sa_nil))) (len_cons (len_cons len_nil))) (sa_nil))) (by rfl)) (sb_cons (ss_set (i := 6) sc__law_cells.nd rfl (by first | exact Or.inl rfl | exact Or.inr rfl) (fun Z => se_tup (sa_cons (sv 8) (sa_cons (sv 9) (sa_cons (se_call (u__law_pick R) (hr.mono (by decide)) rfl tkF (sa_cons (sv 0) (sa_cons (se_lst (sa_cons (se_str) (sa_cons (se_str) (sa_cons (se_str) (sa_cons (se_str) (sa_nil)))))) (sa_nil))) (len_cons (len_cons len_nil))) (sa_nil)))))) (sb_one (ss_asg (fun Z => se_call (u__law_options R) (hr.mono (by decide)) rfl tkF (sa_cons (sv 0) (sa_cons (sv 8) (sa_cons (sv 9) (sa_cons (sv 1) (sa_cons (sv 3) (sa_nil)))))) (len_cons (len_cons (len_cons (len_cons (len_cons len_nil)))))) (sg_sub (rmU hr) rfl (by first | exact Or.inl rfl | exact Or.inr (Or.inl rfl) | exact Or.inr (Or.inr rfl)) (fun _ => sv 6))))))) (sb_cons (ss_if (fun Z => st_of (sw_and (st_val (sv 3)) (sw_and (st_inV (rmU hr) (se_str) (vw 1)) (sw_and1 (st_eq (rmU hr) (se_call (u__law_draw R) (hr.mono (by decide)) rfl tkF (sa_cons (sv 0) (sa_cons (se_int) (sa_nil))) (len_cons (len_cons len_nil))) (se_int)))))) (sb_one (ss_asg (fun Z => se_lst (sa_cons (se_str) (sa_cons (se_str) (sa_cons (se_str) (sa_cons (se_str) (sa_nil)))))) (sg_sub (rmU hr) rfl (by first | exact Or.inl rfl | exact Or.inr (Or.inl rfl) | exact Or.inr (Or.inr rfl)) (fun _ => se_tup (sa_cons (se_str) (sa_cons (se_str) (sa_cons (se_str) (sa_nil)))))))) (sb_nil)) (sb_frz 5 (sb_one (ss_ret fun Z => sv 5))))))
def b_Table___str__ : SDen := sRet (dMt isStrD joinO (dC (.str "\n")) (dCons (dLst (dCons (dMt isStrD joinO (dC (.str " ")) (dCons (dLst (dCons (dC (.str "kinds")) (dStar (dFld ["Table"] "held_kinds" (dView 0)) (dNil)))) (dNil))) (dStar (dFld ["Table"] "held_rows" (dView 0)) (dNil)))) (dNil)))
theorem sc_Table___str__ : FnScope ["self"] ["self"] (defScope st_Table___str__) := ⟨rfl, rfl, rfl, by decide +kernel, rfl, by decide +kernel, by decide +kernel⟩
theorem u_Table___str__ {P : Program} {w : World} {base : Heap} {K : PySem.W.Frag} {mg : Str → Option Value} {T : Tb} (R : Row K mg) : MethU P w base ⟨K, mg, T⟩ 1 "Table" "__str__" 0 (runB 1 b_Table___str__) := by
  obtain ⟨C, f, p, mc, fd, hm, ⟨h1, h2⟩, F⟩ := R.d_Table___str__
  have hbd := F.bindsN (ps := ["self"]) (fun _ _ _ _ _ _ us hl => match us, hl with | [_], _ => rfl)
  exact methU_of hm h1 h2 F hbd sc_Table___str__ rfl fun cdv A outer s H E hr => sb_one (ss_ret fun Z => mS_join (se_str) (sa_cons (se_lst (sa_cons (mS_join (se_str) (sa_cons (se_lst (sa_cons (se_str) (sa_star (se_fldV R.f_held_kinds (vw 0)) (sa_nil)))) (sa_nil))) (sa_star (se_fldV R.f_held_rows (vw 0)) (sa_nil)))) (sa_nil)))
theorem h_Table___str__ {P : Program} {w : World} {base : Heap} {K : PySem.W.Frag} {mg : Str → Option Value} {T : Tb} (R : Row K mg) : MethH P w base ⟨K, mg, T⟩ 1 "Table" "__str__" 0 (fun ds h => calmR (runB 1 b_Table___str__ ds h)) := by
  obtain ⟨C, f, p, mc, fd, hm, ⟨h1, h2⟩, F⟩ := R.d_Table___str__
  exact methH_of hm h1 h2 F (F.bindsN (ps := ["self"]) (fun _ _ _ _ _ _ us hl => match us, hl with | [_], _ => rfl)) sc_Table___str__ rfl fun cdv A outer s H E q hot hr => sb_one (ss_ret fun Z => mS_join (se_str) (sa_cons (se_lst (sa_cons (mS_join (se_str) (sa_cons (se_lst (sa_cons (se_str) (sa_star (se_fldV R.f_held_kinds (vw 0)) (sa_nil)))) (sa_nil))) (sa_star (se_fldV R.f_held_rows (vw 0)) (sa_nil)))) (sa_nil)))
theorem sc__law_caught : FnScope ["act", "e", "some", "word"] ["act"] (defScope st__law_caught) := ⟨rfl, rfl, rfl, by decide +kernel, rfl, by decide +kernel, by decide +kernel⟩
def bs__law_caught : SDen := sSeq (sSet 2 (dLst (dCons (dExI exTab 1 "NotATable") (dCons (dExI exTab 1 "OtherKinds") (dCons (dExI exTab 1 "InvalidKinds") (dNil)))))) (sSeq (sIf (dOr (dB (dBin neD (dMt isLstD lcountO (dVar 2) (dCons (dC (.bl true)) (dNil))) (dC (.int 1)))) (dNot (dB (dExI exTab 1 "BadValue")))) (sRet (dLst (dCons (dC (.str "another error")) (dNil)))) (sNext)) (sSeq (sSet 3 (dIx (dLst (dCons (dC (.str "NotATable")) (dCons (dC (.str "OtherKinds")) (dCons (dC (.str "InvalidKinds")) (dNil))))) (dMt isLstD lindexO (dVar 2) (dCons (dC (.bl true)) (dNil))))) (sRet (dLst (dCons (dVar 3) (dCons (dIf (dB (dBin eqD (dVar 3) (dC (.str "OtherKinds")))) (dStrI "Table" (fun ds h => calmR (runB 1 b_Table___str__ ds h)) (dExF ["NotATable", "OtherKinds"] 1 "given")) (dFn reprF (dCons (dExF ["NotATable", "OtherKinds"] 1 "given") (dNil)))) (dNil)))))))
def br__law_caught : SDen := sRet (dLst (dNil))
def cg__law_caught : Th → Hl → Res D := cgOf 4 1 exTop bs__law_caught br__law_caught
theorem u__law_caught {X : Cx} {T : Tb} {qq : Str} (R : Row X.K X.mg) (hT : T.xc = none) (hgd : X.A.guards = some []) : CaughtU X (gx X T) "_law_caught" qq 2 cg__law_caught := by
  obtain ⟨f, fd, hm, F⟩ := R.d__law_caught
  obtain ⟨C1, C2, C3, m1, m2, m3, ex⟩ := R.ex3
  have hbd := F.bindsN (ps := ["act"]) (fun _ _ _ _ _ _ us hl => match us, hl with | [_], _ => rfl)
  have kp := F.kp
  obtain ⟨oc, od, dV, kV, doc, pm, an, cdv, ct, osl, rfl, lk, hcd, _, _⟩ := F.ex
  refine ⟨f, "act", _, _, _, dV, kV, doc, pm, cdv, ct, oc, an, od, osl, ["act", "e", "some", "word"], hm, kp, lk, hcd, hbd, sc__law_caught, rfl, Or.inl rfl, by decide, by decide, ?_⟩
  refine caught_gives (i := 1) (n := "e") (y1 := "BadValue") (y2 := "BadName") (y3 := "NoAnswer") (ex := exTop) (s := bs__law_caught) (r := br__law_caught) hT rfl sc__law_caught.nd rfl (fun _ _ _ => ⟨⟨rfl, by decide, .inl m1⟩, ⟨rfl, by decide, .inl m2⟩, ⟨rfl, by decide, .inl m3⟩⟩) ex (by decide) (fun _ => rfl) (fun s0 H0 hr a C dx oe pn hz hf => ?_) (fun s0 H0 hr => ?_)
  · have hus := rmU hr
    have hh := roomH_mk hr (some (.ref a))
    exact sb_cons (ss_set (i := 2) sc__law_caught.nd rfl (by first | exact Or.inl rfl | exact Or.inr rfl) (fun Z => se_lst (sa_cons (se_isX (x := "") hz hf (R.x_tab "NotATable") rfl R.n_isinstance rfl (R.k_NotATable) rfl (by first | exact Or.inl rfl | exact Or.inr (Or.inl rfl) | exact Or.inr (Or.inr rfl))) (sa_cons (se_isX (x := "") hz hf (R.x_tab "OtherKinds") rfl R.n_isinstance rfl (R.k_OtherKinds) rfl (by first | exact Or.inl rfl | exact Or.inr (Or.inl rfl) | exact Or.inr (Or.inr rfl))) (sa_cons (se_isX (x := "") hz hf (R.x_tab "InvalidKinds") rfl R.n_isinstance rfl (R.k_InvalidKinds) rfl (by first | exact Or.inl rfl | exact Or.inr (Or.inl rfl) | exact Or.inr (Or.inr rfl))) (sa_nil)))))) (sb_cons (ss_if (fun Z => st_of (sw_or (st_ne hus (mL_count (sv 2) (sa_cons (se_bl) (sa_nil))) (se_int)) (sw_or1 (st_not (st_val (se_isX (x := "") hz hf (R.x_tab "BadValue") rfl R.n_isinstance rfl (R.k_BadValue) rfl (by first | exact Or.inl rfl | exact Or.inr (Or.inl rfl) | exact Or.inr (Or.inr rfl)))))))) (sb_one (ss_ret fun Z => se_lst (sa_cons (se_str) (sa_nil)))) (sb_nil)) (sb_cons (ss_set (i := 3) sc__law_caught.nd rfl (by first | exact Or.inl rfl | exact Or.inr rfl) (fun Z => se_idx hus (vw_se (se_lst (sa_cons (se_str) (sa_cons (se_str) (sa_cons (se_str) (sa_nil)))))) (mL_index (sv 2) (sa_cons (se_bl) (sa_nil))) (fun _ _ => rfl))) (sb_one (ss_ret fun Z => se_lst (sa_cons (sv 3) (sa_cons (se_if (st_eq hus (sv 3) (se_str)) (se_strH (h_Table___str__ R) (hot_suite hz hf) (hh.mono (by decide)) rfl R.n_str (se_given hz hf (R.a_given) rfl (by first | exact Or.inl rfl | exact Or.inr (Or.inl rfl) | exact Or.inr (Or.inr rfl)))) (se_fnB (call_repr hus hgd) ok_reprF rfl R.n_repr (sa_cons (se_given hz hf (R.a_given) rfl (by first | exact Or.inl rfl | exact Or.inr (Or.inl rfl) | exact Or.inr (Or.inr rfl))) (sa_nil)))) (sa_nil)))))))
  · exact sb_one (ss_ret fun Z => se_lst (sa_nil))
def b_check_table : SDen := sIf (dNot (dB (dFn (isiF tyTab) (dCons (dVar 0) (dCons (dC (.cls "Table")) (dNil)))))) (sRaise "NotATable" "given" (dVar 0)) (sNext)
theorem sc_check_table : FnScope ["value"] ["value"] (defScope st_check_table) := ⟨rfl, rfl, rfl, by decide +kernel, rfl, by decide +kernel, by decide +kernel⟩
theorem u_check_table {P : Program} {w : World} {base : Heap} {K : PySem.W.Frag} {mg : Str → Option Value} {T : Tb} (R : Row K mg) : FnU P w base ⟨K, mg, T⟩ 3 "check_table" ["value"] (runB 1 b_check_table) := by
  obtain ⟨f, fd, hm, F⟩ := R.d_check_table
  exact fnU_of F hm sc_check_table (fun _ _ _ _ _ _ us hl => match us, hl with | [_], _ => rfl) fun cdv A outer s H E hr => sb_one (ss_if (fun Z => st_not (st_val (se_isi R.isi rfl R.n_isinstance (sa_cons (sv 0) (sa_cons (se_glo (R.k_Table) rfl) (sa_nil)))))) (sb_one (ss_raise (R.e_NotATable P w base) rfl (hr.mono (by decide)) rfl tkF (fun Z => sv 0))) (sb_nil))
def b_Table_kinds : SDen := sRet (dFld ["Table"] "held_kinds" (dView 0))
theorem sc_Table_kinds : FnScope ["self"] ["self"] (defScope st_Table_kinds) := ⟨rfl, rfl, rfl, by decide +kernel, rfl, by decide +kernel, by decide +kernel⟩
theorem u_Table_kinds {P : Program} {w : World} {base : Heap} {K : PySem.W.Frag} {mg : Str → Option Value} {T : Tb} (R : Row K mg) : PropU P w base ⟨K, mg, T⟩ 1 "Table" "kinds" (runB 1 b_Table_kinds) := by
  obtain ⟨C, f, p, mc, fd, hm, ⟨h1, h2⟩, F⟩ := R.d_Table_kinds
  have hbd := F.bindsN (ps := ["self"]) (fun _ _ _ _ _ _ us hl => match us, hl with | [_], _ => rfl)
  exact propU_of hm h1 h2 F hbd sc_Table_kinds rfl fun cdv A outer s H E hr => sb_one (ss_ret fun Z => se_fldV R.f_held_kinds (vw 0))
def b_check_both : SDen := sIf (dB (dBin neD (dProp "Table" (runB 1 b_Table_kinds) (dVar 0)) (dProp "Table" (runB 1 b_Table_kinds) (dVar 1)))) (sRaise "OtherKinds" "given" (dVar 1)) (sNext)
theorem sc_check_both : FnScope ["one", "other"] ["one", "other"] (defScope st_check_both) := ⟨rfl, rfl, rfl, by decide +kernel, rfl, by decide +kernel, by decide +kernel⟩
theorem u_check_both {P : Program} {w : World} {base : Heap} {K : PySem.W.Frag} {mg : Str → Option Value} {T : Tb} (R : Row K mg) : FnU P w base ⟨K, mg, T⟩ 3 "check_both" ["one", "other"] (runB 2 b_check_both) := by
  obtain ⟨f, fd, hm, F⟩ := R.d_check_both
  exact fnU_of F hm sc_check_both (fun _ _ _ _ _ _ us hl => match us, hl with | [_, _], _ => rfl) fun cdv A outer s H E hr => sb_one (ss_if (fun Z => st_ne (rmU hr) (se_prop (u_Table_kinds R) (hr.mono (by decide)) (sv 0)) (se_prop (u_Table_kinds R) (hr.mono (by decide)) (sv 1))) (sb_one (ss_raise (R.e_OtherKinds P w base) rfl (hr.mono (by decide)) rfl tkF (fun Z => sv 1))) (sb_nil))
def gd_pairs_of : GDen := gSeq (gFor (dOver iterD (dVar 0)) (gSlot 1) (gSeq (gFor (dOver iterD (dVar 0)) (gSlot 2) (gSeq (gFor (dOverA zipO (dCons (dC (.kup [(.str "<"), (.str "="), (.str ">")])) (dCons (dTup (dCons (dC (.int 0)) (dCons (dC (.int 1)) (dCons (dC (.int 2)) (dNil))))) (dNil)))) (gItems 2 (gsCons (gSlot 3) (gsCons (gSlot 4) (gsNil)))) (gSeq (gFor (dOver iterD (dIf (dAnd (dB (dCall (runB 1 b_has_sign) (dCons (dVar 1) (dNil)))) (dB (dCall (runB 1 b_has_sign) (dCons (dVar 2) (dNil))))) (dC (.str "abc")) (dC (.str "a")))) (gSlot 5) (gSeq (gPlain (sSet 6 (dIf (dB (dCall (runB 1 b_has_sign) (dCons (dVar 1) (dNil)))) (dTup (dCons (dVar 1) (dCons (dVar 4) (dCons (dVar 5) (dNil))))) (dTup (dCons (dVar 1) (dCons (dVar 4) (dNil))))))) (gSeq (gPlain (sSet 7 (dIf (dB (dCall (runB 1 b_has_sign) (dCons (dVar 2) (dNil)))) (dTup (dCons (dVar 2) (dCons (dC (.int 1)) (dCons (dC (.str "b")) (dNil))))) (dTup (dCons (dVar 2) (dCons (dC (.int 1)) (dNil))))))) (gSeq (gYield (dTup (dCons (dVar 6) (dCons (dVar 7) (dCons (dC (.bl true)) (dNil)))))) (gSeq (gYield (dTup (dCons (dVar 6) (dCons (dVar 7) (dCons (dC (.bl false)) (dNil)))))) ((fun ρ => some ([], ρ)))))))) ((fun ρ => some ([], ρ))))) ((fun ρ => some ([], ρ))))) ((fun ρ => some ([], ρ))))) ((fun ρ => some ([], ρ)))
theorem sc_pairs_of : GScope ["kinds", "mine", "its", "relation", "place", "sign", "edit", "past"] ["kinds"] (defScope st_pairs_of) := ⟨rfl, rfl, rfl, by decide +kernel, rfl, by decide +kernel, by decide +kernel⟩
theorem u_pairs_of {P : Program} {w : World} {base : Heap} {K : PySem.W.Frag} {mg : Str → Option Value} {T : Tb} (R : Row K mg) : GenU P w base ⟨K, mg, T⟩ 1 "pairs_of" 1 (runG 8 gd_pairs_of) := by
  obtain ⟨f, fd, hm, F⟩ := R.d_pairs_of
  exact genU_of F hm sc_pairs_of (fun _ _ _ _ _ _ us hl => match us, hl with | [_], _ => rfl) fun cdv A outer s H E hr => gs_cons (gs_for rfl (fun _ _ Z => si_any (sv 0)) (fun _ _ => sg_name sc_pairs_of.nd) (gs_cons (gs_for rfl (fun _ _ Z => si_any (sv 0)) (fun _ _ => sg_name sc_pairs_of.nd) (gs_cons (gs_for rfl (fun _ _ Z => si_zip rfl R.n_zip (sa_cons (se_glo (R.c_RELATIONS) rfl) (sa_cons (se_tup (sa_cons (se_int) (sa_cons (se_int) (sa_cons (se_int) (sa_nil))))) (sa_nil)))) (fun _ _ => sg_tup rfl (sgs_cons (sg_name sc_pairs_of.nd) (sgs_cons (sg_name sc_pairs_of.nd) (sgs_nil)))) (gs_cons (gs_for rfl (fun _ _ Z => si_any (se_if (st_of (sw_and (st_val (se_call (u_has_sign R) (hr.mono (by decide)) rfl takes0N (sa_cons (sv 1) (sa_nil)) (len_cons len_nil))) (sw_and1 (st_val (se_call (u_has_sign R) (hr.mono (by decide)) rfl takes0N (sa_cons (sv 2) (sa_nil)) (len_cons len_nil)))))) (se_str) (se_str))) (fun _ _ => sg_name sc_pairs_of.nd) (gs_cons (gs_ss (fun _ _ => ss_set (i := 6) sc_pairs_of.nd rfl (by first | exact Or.inl rfl | exact Or.inr rfl) (fun Z => se_if (st_val (se_call (u_has_sign R) (hr.mono (by decide)) rfl takes0N (sa_cons (sv 1) (sa_nil)) (len_cons len_nil))) (se_tup (sa_cons (sv 1) (sa_cons (sv 4) (sa_cons (sv 5) (sa_nil))))) (se_tup (sa_cons (sv 1) (sa_cons (sv 4) (sa_nil))))))) (gs_cons (gs_ss (fun _ _ => ss_set (i := 7) sc_pairs_of.nd rfl (by first | exact Or.inl rfl | exact Or.inr rfl) (fun Z => se_if (st_val (se_call (u_has_sign R) (hr.mono (by decide)) rfl takes0N (sa_cons (sv 2) (sa_nil)) (len_cons len_nil))) (se_tup (sa_cons (sv 2) (sa_cons (se_int) (sa_cons (se_str) (sa_nil))))) (se_tup (sa_cons (sv 2) (sa_cons (se_int) (sa_nil))))))) (gs_cons (gs_yield (fun _ _ Z => se_tup (sa_cons (sv 6) (sa_cons (sv 7) (sa_cons (se_bl) (sa_nil)))))) (gs_cons (gs_yield (fun _ _ Z => se_tup (sa_cons (sv 6) (sa_cons (sv 7) (sa_cons (se_bl) (sa_nil)))))) (gs_nil)))))) (gs_nil))) (gs_nil))) (gs_nil))) (gs_nil)
def b_Table_options_of : SDen := sRet (dGetB (dFld ["Table"] "cells" (dView 0)) (dTup (dCons (dVar 1) (dCons (dVar 2) (dCons (dVar 3) (dNil))))) (dTup (dCons (dC (.str "keep")) (dNil))))
theorem sc_Table_options_of : FnScope ["self", "mine", "its", "relation"] ["self", "mine", "its", "relation"] (defScope st_Table_options_of) := ⟨rfl, rfl, rfl, by decide +kernel, rfl, by decide +kernel, by decide +kernel⟩
theorem u_Table_options_of {P : Program} {w : World} {base : Heap} {K : PySem.W.Frag} {mg : Str → Option Value} {T : Tb} (R : Row K mg) : MethU P w base ⟨K, mg, T⟩ 1 "Table" "options_of" 3 (runB 4 b_Table_options_of) := by
  obtain ⟨C, f, p, mc, fd, hm, ⟨h1, h2⟩, F⟩ := R.d_Table_options_of
  have hbd := F.bindsN (ps := ["self", "mine", "its", "relation"]) (fun _ _ _ _ _ _ us hl => match us, hl with | [_, _, _, _], _ => rfl)
  exact methU_of hm h1 h2 F hbd sc_Table_options_of rfl fun cdv A outer s H E hr => sb_one (ss_ret fun Z => se_get2 (rmU hr) (vw_se (se_fldV R.f_cells (vw 0))) (se_tup (sa_cons (sv 1) (sa_cons (sv 2) (sa_cons (sv 3) (sa_nil))))) (se_tup (sa_cons (se_str) (sa_nil))) ⟨rfl, rfl, rfl, rfl⟩)
def b_relation_of : SDen := sSeq (sIf (dB (dBin eqD (dVar 0) (dVar 1))) (sRet (dC (.str "="))) (sNext)) (sRet (dIf (dB (dBin ltD (dVar 0) (dVar 1))) (dC (.str "<")) (dC (.str ">"))))
theorem sc_relation_of : FnScope ["one", "other"] ["one", "other"] (defScope st_relation_of) := ⟨rfl, rfl, rfl, by decide +kernel, rfl, by decide +kernel, by decide +kernel⟩
theorem u_relation_of {P : Program} {w : World} {base : Heap} {K : PySem.W.Frag} {mg : Str → Option Value} {T : Tb} (R : Row K mg) : FnU P w base ⟨K, mg, T⟩ 1 "relation_of" ["one", "other"] (runB 2 b_relation_of) := by
  obtain ⟨f, fd, hm, F⟩ := R.d_relation_of
  exact fnU_of F hm sc_relation_of (fun _ _ _ _ _ _ us hl => match us, hl with | [_, _], _ => rfl) fun cdv A outer s H E hr => sb_cons (ss_if (fun Z => st_eq (rmU hr) (sv 0) (sv 1)) (sb_one (ss_ret fun Z => se_str)) (sb_nil)) (sb_one (ss_ret fun Z => se_if (st_lt (sv 0) (sv 1)) (se_str) (se_str)))
def b_turned : SDen := sSeq (sIf (dB (dBin eqD (dVar 1) (dC (.str "stay")))) (sRet (dTup (dCons (dC (.str "stay")) (dNil)))) (sNext)) (sSeq (sIf (dB (dBin eqD (dVar 1) (dC (.str "put")))) (sRet (dTup (dCons (dC (.str "put")) (dCons (dIx (dView 0) (dC (.int 1))) (dCons (dIx (dView 0) (dC (.int 2))) (dNil)))))) (sNext)) (sSeq (sSet 2 (dIx (dDisp false [(dC (.str "keep"), dC (.int 0)), (dC (.str "up"), dC (.int 1)), (dC (.str "down"), dUn negD (dC (.int 1)))]) (dVar 1))) (sRet (dTup (dCons (dIx (dView 0) (dC (.int 0))) (dCons (dBin addD (dIx (dView 0) (dC (.int 1))) (dVar 2)) (dStar (dSlice (dVar 0) (dPart (dC (.int 2))) dNoPart) (dNil))))))))
theorem sc_turned : FnScope ["edit", "result", "shift"] ["edit", "result"] (defScope st_turned) := ⟨rfl, rfl, rfl, by decide +kernel, rfl, by decide +kernel, by decide +kernel⟩
theorem u_turned {P : Program} {w : World} {base : Heap} {K : PySem.W.Frag} {mg : Str → Option Value} {T : Tb} (R : Row K mg) : FnU P w base ⟨K, mg, T⟩ 1 "turned" ["edit", "result"] (runB 3 b_turned) := by
  obtain ⟨f, fd, hm, F⟩ := R.d_turned
  exact fnU_of F hm sc_turned (fun _ _ _ _ _ _ us hl => match us, hl with | [_, _], _ => rfl) fun cdv A outer s H E hr => sb_cons (ss_if (fun Z => st_eq (rmU hr) (sv 1) (se_str)) (sb_one (ss_ret fun Z => se_tup (sa_cons (se_str) (sa_nil)))) (sb_nil)) (sb_cons (ss_if (fun Z => st_eq (rmU hr) (sv 1) (se_str)) (sb_one (ss_ret fun Z => se_tup (sa_cons (se_str) (sa_cons (se_idx (rmU hr) (vw 0) (se_int) (fun _ _ => rfl)) (sa_cons (se_idx (rmU hr) (vw 0) (se_int) (fun _ _ => rfl)) (sa_nil)))))) (sb_nil)) (sb_cons (ss_set (i := 2) sc_turned.nd rfl (by first | exact Or.inl rfl | exact Or.inr rfl) (fun Z => se_idx (rmU hr) (vw_se (se_fr (sf_disp (sps_cons (se_str) (se_int) (sps_cons (se_str) (se_int) (sps_cons (se_str) (se_neg (se_int)) (sps_nil))))))) (sv 1) (fun _ _ => rfl))) (sb_one (ss_ret fun Z => se_tup (sa_cons (se_idx (rmU hr) (vw 0) (se_int) (fun _ _ => rfl)) (sa_cons (se_add (se_idx (rmU hr) (vw 0) (se_int) (fun _ _ => rfl)) (sv 2)) (sa_star (se_slice (sv 0) (so_some (se_int)) so_none) (sa_nil))))))))
def b_does_hold : SDen := sSeq (sIf (dB (dBin eqD (dVar 0) (dC (.str "first")))) (sRet (dVar 3)) (sNext)) (sSeq (sIf (dB (dBin eqD (dVar 0) (dC (.str "same")))) (sRet (dBin eqD (dIx (dView 1) (dC (.int 2))) (dIx (dView 2) (dC (.int 2))))) (sNext)) (sRet (dIf (dB (dBin eqD (dVar 0) (dC (.str "less")))) (dBin ltD (dIx (dView 1) (dC (.int 2))) (dIx (dView 2) (dC (.int 2)))) (dBin gtD (dIx (dView 1) (dC (.int 2))) (dIx (dView 2) (dC (.int 2)))))))
theorem sc_does_hold : FnScope ["condition", "edit", "past", "is_first"] ["condition", "edit", "past", "is_first"] (defScope st_does_hold) := ⟨rfl, rfl, rfl, by decide +kernel, rfl, by decide +kernel, by decide +kernel⟩
theorem u_does_hold {P : Program} {w : World} {base : Heap} {K : PySem.W.Frag} {mg : Str → Option Value} {T : Tb} (R : Row K mg) : FnU P w base ⟨K, mg, T⟩ 1 "does_hold" ["condition", "edit", "past", "is_first"] (runB 4 b_does_hold) := by
  obtain ⟨f, fd, hm, F⟩ := R.d_does_hold
  exact fnU_of F hm sc_does_hold (fun _ _ _ _ _ _ us hl => match us, hl with | [_, _, _, _], _ => rfl) fun cdv A outer s H E hr => sb_cons (ss_if (fun Z => st_eq (rmU hr) (sv 0) (se_str)) (sb_one (ss_ret fun Z => sv 3)) (sb_nil)) (sb_cons (ss_if (fun Z => st_eq (rmU hr) (sv 0) (se_str)) (sb_one (ss_ret fun Z => se_eq (rmU hr) (se_idx (rmU hr) (vw 1) (se_int) (fun _ _ => rfl)) (se_idx (rmU hr) (vw 2) (se_int) (fun _ _ => rfl)))) (sb_nil)) (sb_one (ss_ret fun Z => se_if (st_eq (rmU hr) (sv 0) (se_str)) (se_lt (se_idx (rmU hr) (vw 1) (se_int) (fun _ _ => rfl)) (se_idx (rmU hr) (vw 2) (se_int) (fun _ _ => rfl))) (se_gt (se_idx (rmU hr) (vw 1) (se_int) (fun _ _ => rfl)) (se_idx (rmU hr) (vw 2) (se_int) (fun _ _ => rfl))))))
def b_result_of : SDen := sSeq (sFor (dOver iterD (dSlice (dVar 0) dNoPart (dPart (dUn negD (dC (.int 1)))))) (gSlot 4) (sSeq (sAsg (dMt isStrD partO (dVar 4) (dCons (dC (.str ":")) (dNil))) (gItems 3 (gsCons (gSlot 5) (gsCons (gSlot 6) (gsCons (gSlot 7) (gsNil)))))) (sIf (dB (dCall (runB 4 b_does_hold) (dCons (dVar 5) (dCons (dVar 1) (dCons (dVar 2) (dCons (dVar 3) (dNil))))))) (sRet (dVar 7)) (sNext)))) (sRet (dIx (dView 0) (dUn negD (dC (.int 1)))))
theorem sc_result_of : FnScope ["options", "edit", "past", "is_first", "word", "condition", "colon", "result"] ["options", "edit", "past", "is_first"] (defScope st_result_of) := ⟨rfl, rfl, rfl, by decide +kernel, rfl, by decide +kernel, by decide +kernel⟩
theorem u_result_of {P : Program} {w : World} {base : Heap} {K : PySem.W.Frag} {mg : Str → Option Value} {T : Tb} (R : Row K mg) : FnU P w base ⟨K, mg, T⟩ 2 "result_of" ["options", "edit", "past", "is_first"] (runB 8 b_result_of) := by
  obtain ⟨f, fd, hm, F⟩ := R.d_result_of
  exact fnU_of F hm sc_result_of (fun _ _ _ _ _ _ us hl => match us, hl with | [_, _, _, _], _ => rfl) fun cdv A outer s H E hr => sb_cons (ss_for (by first | exact pOF | exact PassesOwn.never) rfl (fun Z => si_any (se_slice (sv 0) so_none (so_some (se_neg (se_int))))) (sg_name sc_result_of.nd) (sb_cons (ss_asg (fun Z => mS_partition (sv 4) (sa_cons (se_str) (sa_nil))) (sg_tup rfl (sgs_cons (sg_name sc_result_of.nd) (sgs_cons (sg_name sc_result_of.nd) (sgs_cons (sg_name sc_result_of.nd) (sgs_nil)))))) (sb_one (ss_if (fun Z => st_val (se_call (u_does_hold R) (hr.mono (by decide)) rfl tkF (sa_cons (sv 5) (sa_cons (sv 1) (sa_cons (sv 2) (sa_cons (sv 3) (sa_nil))))) (len_cons (len_cons (len_cons (len_cons len_nil)))))) (sb_one (ss_ret fun Z => sv 7)) (sb_nil))))) (sb_one (ss_ret fun Z => se_idx (rmU hr) (vw 0) (se_neg (se_int)) (fun _ _ => rfl)))
def b_Table_turn : SDen := sSeq (sIf (dB (dIn (dC (.str "stay")) (dTup (dCons (dIx (dView 1) (dC (.int 0))) (dCons (dIx (dView 2) (dC (.int 0))) (dNil)))))) (sRet (dVar 1)) (sNext)) (sSeq (sSet 4 (dMeth "Table" "options_of" (runB 4 b_Table_options_of) (dVar 0) (dCons (dIx (dView 1) (dC (.int 0))) (dCons (dIx (dView 2) (dC (.int 0))) (dCons (dCall (runB 2 b_relation_of) (dCons (dIx (dView 1) (dC (.int 1))) (dCons (dIx (dView 2) (dC (.int 1))) (dNil)))) (dNil)))))) (sRet (dCall (runB 3 b_turned) (dCons (dVar 1) (dCons (dCall (runB 8 b_result_of) (dCons (dVar 4) (dCons (dVar 1) (dCons (dVar 2) (dCons (dVar 3) (dNil)))))) (dNil))))))
theorem sc_Table_turn : FnScope ["self", "edit", "past", "is_first", "options"] ["self", "edit", "past", "is_first"] (defScope st_Table_turn) := ⟨rfl, rfl, rfl, by decide +kernel, rfl, by decide +kernel, by decide +kernel⟩
theorem u_Table_turn {P : Program} {w : World} {base : Heap} {K : PySem.W.Frag} {mg : Str → Option Value} {T : Tb} (R : Row K mg) : MethU P w base ⟨K, mg, T⟩ 3 "Table" "turn" 3 (runB 5 b_Table_turn) := by
  obtain ⟨C, f, p, mc, fd, hm, ⟨h1, h2⟩, F⟩ := R.d_Table_turn
  have hbd := F.bindsN (ps := ["self", "edit", "past", "is_first"]) (fun _ _ _ _ _ _ us hl => match us, hl with | [_, _, _, _], _ => rfl)
  exact methU_of hm h1 h2 F hbd sc_Table_turn rfl fun cdv A outer s H E hr => sb_cons (ss_if (fun Z => st_inV (rmU hr) (se_str) (vw_se (se_tup (sa_cons (se_idx (rmU hr) (vw 1) (se_int) (fun _ _ => rfl)) (sa_cons (se_idx (rmU hr) (vw 2) (se_int) (fun _ _ => rfl)) (sa_nil)))))) (sb_one (ss_ret fun Z => sv 1)) (sb_nil)) (sb_cons (ss_set (i := 4) sc_Table_turn.nd rfl (by first | exact Or.inl rfl | exact Or.inr rfl) (fun Z => se_meth (u_Table_options_of R) (hr.mono (by decide)) tkF (sv 0) (sa_cons (se_idx (rmU hr) (vw 1) (se_int) (fun _ _ => rfl)) (sa_cons (se_idx (rmU hr) (vw 2) (se_int) (fun _ _ => rfl)) (sa_cons (se_call (u_relation_of R) (hr.mono (by decide)) rfl tkF (sa_cons (se_idx (rmU hr) (vw 1) (se_int) (fun _ _ => rfl)) (sa_cons (se_idx (rmU hr) (vw 2) (se_int) (fun _ _ => rfl)) (sa_nil))) (len_cons (len_cons len_nil))) (sa_nil)))) (len_cons (len_cons (len_cons len_nil))))) (sb_one (ss_ret fun Z => se_call (u_turned R) (hr.mono (by decide)) rfl tkF (sa_cons (sv 1) (sa_cons (se_call (u_result_of R) (hr.mono (by decide)) rfl tkF (sa_cons (sv 4) (sa_cons (sv 1) (sa_cons (sv 2) (sa_cons (sv 3) (sa_nil))))) (len_cons (len_cons (len_cons (len_cons len_nil))))) (sa_nil))) (len_cons (len_cons len_nil)))))
def b_unlike_of : SDen := sSeq (sForG (runG 8 gd_pairs_of) (dCons (dProp "Table" (runB 1 b_Table_kinds) (dVar 0)) (dNil)) (gItems 3 (gsCons (gSlot 2) (gsCons (gSlot 3) (gsCons (gSlot 4) (gsNil))))) (sIf (dB (dBin neD (dMeth "Table" "turn" (runB 5 b_Table_turn) (dVar 0) (dCons (dVar 2) (dCons (dVar 3) (dCons (dVar 4) (dNil))))) (dMeth "Table" "turn" (runB 5 b_Table_turn) (dVar 1) (dCons (dVar 2) (dCons (dVar 3) (dCons (dVar 4) (dNil))))))) (sRet (dTup (dCons (dVar 2) (dCons (dVar 3) (dCons (dVar 4) (dNil)))))) (sNext))) (sRet (dC .non))
theorem sc_unlike_of : FnScope ["one", "other", "edit", "past", "is_first"] ["one", "other"] (defScope st_unlike_of) := ⟨rfl, rfl, rfl, by decide +kernel, rfl, by decide +kernel, by decide +kernel⟩
theorem u_unlike_of {P : Program} {w : World} {base : Heap} {K : PySem.W.Frag} {mg : Str → Option Value} {T : Tb} (R : Row K mg) : FnU P w base ⟨K, mg, T⟩ 4 "unlike_of" ["one", "other"] (runB 5 b_unlike_of) := by
  obtain ⟨f, fd, hm, F⟩ := R.d_unlike_of
  exact fnU_of F hm sc_unlike_of (fun _ _ _ _ _ _ us hl => match us, hl with | [_, _], _ => rfl) fun cdv A outer s H E hr => sb_cons (ss_forgen (u_pairs_of R) (hr.mono (by decide)) rfl rfl (fun Z => sa_cons (se_prop (u_Table_kinds R) (hr.mono (by decide)) (sv 0)) (sa_nil)) (len_cons len_nil) (sg_tup rfl (sgs_cons (sg_name sc_unlike_of.nd) (sgs_cons (sg_name sc_unlike_of.nd) (sgs_cons (sg_name sc_unlike_of.nd) (sgs_nil))))) (sb_one (ss_if (fun Z => st_ne (rmU hr) (se_meth (u_Table_turn R) (hr.mono (by decide)) takes0N (sv 0) (sa_cons (sv 2) (sa_cons (sv 3) (sa_cons (sv 4) (sa_nil)))) (len_cons (len_cons (len_cons len_nil)))) (se_meth (u_Table_turn R) (hr.mono (by decide)) takes0N (sv 1) (sa_cons (sv 2) (sa_cons (sv 3) (sa_cons (sv 4) (sa_nil)))) (len_cons (len_cons (len_cons len_nil))))) (sb_one (ss_ret fun Z => se_tup (sa_cons (sv 2) (sa_cons (sv 3) (sa_cons (sv 4) (sa_nil)))))) (sb_nil)))) (sb_one (ss_ret fun Z => se_non))
def b_unlike : SDen := sSeq (sExpr (dCall (runB 1 b_check_table) (dCons (dVar 0) (dNil)))) (sSeq (sExpr (dCall (runB 1 b_check_table) (dCons (dVar 1) (dNil)))) (sSeq (sExpr (dCall (runB 2 b_check_both) (dCons (dVar 0) (dCons (dVar 1) (dNil))))) (sRet (dCall (runB 5 b_unlike_of) (dCons (dVar 0) (dCons (dVar 1) (dNil)))))))
theorem sc_unlike : FnScope ["one", "other"] ["one", "other"] (defScope st_unlike) := ⟨rfl, rfl, rfl, by decide +kernel, rfl, by decide +kernel, by decide +kernel⟩
theorem u_unlike {P : Program} {w : World} {base : Heap} {K : PySem.W.Frag} {mg : Str → Option Value} {T : Tb} (R : Row K mg) : FnU P w base ⟨K, mg, T⟩ 5 "unlike" ["one", "other"] (runB 2 b_unlike) := by
  obtain ⟨f, fd, hm, F⟩ := R.d_unlike
  exact fnU_of F hm sc_unlike (fun _ _ _ _ _ _ us hl => match us, hl with | [_, _], _ => rfl) fun cdv A outer s H E hr => sb_cons (ss_expr (fun Z => se_call (u_check_table R) (hr.mono (by decide)) rfl tkF (sa_cons (sv 0) (sa_nil)) (len_cons len_nil))) (sb_cons (ss_expr (fun Z => se_call (u_check_table R) (hr.mono (by decide)) rfl tkF (sa_cons (sv 1) (sa_nil)) (len_cons len_nil))) (sb_cons (ss_expr (fun Z => se_call (u_check_both R) (hr.mono (by decide)) rfl tkF (sa_cons (sv 0) (sa_cons (sv 1) (sa_nil))) (len_cons (len_cons len_nil)))) (sb_one (ss_ret fun Z => se_call (u_unlike_of R) (hr.mono (by decide)) rfl tkF (sa_cons (sv 0) (sa_cons (sv 1) (sa_nil))) (len_cons (len_cons len_nil))))))
theorem uk_unlike_other_one {P : Program} {w : World} {base : Heap} {K : PySem.W.Frag} {mg : Str → Option Value} {T : Tb} (R : Row K mg) : FnK P w base ⟨K, mg, T⟩ 5 "unlike" 0 ["other", "one"] [1, 0] (runB 2 b_unlike) := by
  obtain ⟨f, fd, hm, F⟩ := R.d_unlike
  exact fnK_of (ps := ["one", "other"]) ⟨f, fd, hm, F, fn_body (T := T) F sc_unlike fun cdv A outer s H E hr => sb_cons (ss_expr (fun Z => se_call (u_check_table R) (hr.mono (by decide)) rfl tkF (sa_cons (sv 0) (sa_nil)) (len_cons len_nil))) (sb_cons (ss_expr (fun Z => se_call (u_check_table R) (hr.mono (by decide)) rfl tkF (sa_cons (sv 1) (sa_nil)) (len_cons len_nil))) (sb_cons (ss_expr (fun Z => se_call (u_check_both R) (hr.mono (by decide)) rfl tkF (sa_cons (sv 0) (sa_cons (sv 1) (sa_nil))) (len_cons (len_cons len_nil)))) (sb_one (ss_ret fun Z => se_call (u_unlike_of R) (hr.mono (by decide)) rfl tkF (sa_cons (sv 0) (sa_cons (sv 1) (sa_nil))) (len_cons (len_cons len_nil))))))⟩ rfl (by decide) (fun _ _ _ _ _ _ ws hl => match ws, hl with | [_, _], _ => rfl)
def b_alike : SDen := sRet (dBin isND (dCall (runB 2 b_unlike) (dCons (dVar 0) (dCons (dVar 1) (dNil)))) (dC .non))
theorem sc_alike : FnScope ["one", "other"] ["one", "other"] (defScope st_alike) := ⟨rfl, rfl, rfl, by decide +kernel, rfl, by decide +kernel, by decide +kernel⟩
theorem u_alike {P : Program} {w : World} {base : Heap} {K : PySem.W.Frag} {mg : Str → Option Value} {T : Tb} (R : Row K mg) : FnU P w base ⟨K, mg, T⟩ 6 "alike" ["one", "other"] (runB 2 b_alike) := by
  obtain ⟨f, fd, hm, F⟩ := R.d_alike
  exact fnU_of F hm sc_alike (fun _ _ _ _ _ _ us hl => match us, hl with | [_, _], _ => rfl) fun cdv A outer s H E hr => sb_one (ss_ret fun Z => se_isN (se_call (u_unlike R) (hr.mono (by decide)) rfl tkF (sa_cons (sv 0) (sa_cons (sv 1) (sa_nil))) (len_cons (len_cons len_nil))) (se_non))
theorem uk_alike_other_one {P : Program} {w : World} {base : Heap} {K : PySem.W.Frag} {mg : Str → Option Value} {T : Tb} (R : Row K mg) : FnK P w base ⟨K, mg, T⟩ 6 "alike" 0 ["other", "one"] [1, 0] (runB 2 b_alike) := by
  obtain ⟨f, fd, hm, F⟩ := R.d_alike
  exact fnK_of (ps := ["one", "other"]) ⟨f, fd, hm, F, fn_body (T := T) F sc_alike fun cdv A outer s H E hr => sb_one (ss_ret fun Z => se_isN (se_call (u_unlike R) (hr.mono (by decide)) rfl tkF (sa_cons (sv 0) (sa_cons (sv 1) (sa_nil))) (len_cons (len_cons len_nil))) (se_non))⟩ rfl (by decide) (fun _ _ _ _ _ _ ws hl => match ws, hl with | [_, _], _ => rfl)
def b__law_right : SDen := sSeq (sFor (dOverA rngD (dCons (dC (.int 8)) (dNil))) (gSlot 1) (sSeq (sSet 2 (dLst (dCons (dCall (runB 4 b__law_sorts) (dCons (dVar 0) (dCons (dC (.int 3)) (dNil)))) (dCons (dCall (runB 4 b__law_sorts) (dCons (dVar 0) (dCons (dC (.int 3)) (dNil)))) (dNil))))) (sSeq (sSet 2 (dIf (dB (dBin eqD (dCall (runB 5 b__law_draw) (dCons (dVar 0) (dCons (dC (.int 3)) (dNil)))) (dC (.int 0)))) (dLst (dCons (dIx (dView 2) (dC (.int 0))) (dCons (dIx (dView 2) (dC (.int 0))) (dNil)))) (dVar 2))) (sSeq (sSet 3 (dComp [9] (dOver iterD (dVar 2)) (gSlot 9) (dYes) (dCMeth "Table" (runB 7 b_Table_read) (dCons (dCall (runB 4 b__law_text) (dCons (dVar 9) (dCons (dCall (runB 10 b__law_cells) (dCons (dVar 0) (dCons (dVar 9) (dCons (dCall (runB 5 b__law_draw) (dCons (dVar 0) (dCons (dC (.int 3)) (dNil)))) (dCons (dC (.bl true)) (dNil)))))) (dNil)))) (dNil))))) (sSeq (sSet 4 (dCall (runB 2 b__law_pick) (dCons (dVar 0) (dCons (dLst (dCons (dIx (dView 3) (dC (.int 0))) (dCons (dIx (dView 3) (dC (.int 0))) (dCons (dIx (dView 3) (dC (.int 0))) (dCons (dC .non) (dCons (dStrI "Table" (runB 1 b_Table___str__) (dIx (dView 3) (dC (.int 0)))) (dCons (dTup (dNil)) (dNil)))))))) (dNil))))) (sSeq (sSet 5 (dCall (runB 2 b__law_pick) (dCons (dVar 0) (dCons (dLst (dCons (dIx (dView 3) (dC (.int 1))) (dCons (dIx (dView 3) (dC (.int 1))) (dCons (dIx (dView 3) (dC (.int 1))) (dCons (dC (.int 5)) (dCons (dStrI "Table" (runB 1 b_Table___str__) (dIx (dView 3) (dC (.int 1)))) (dCons (dLst (dNil)) (dNil)))))))) (dNil))))) (sSeq (sOwn 6 (dComp [10] (dOver iterD (dLst (dCons (dVar 4) (dCons (dVar 5) (dNil))))) (gSlot 10) (dYes) (dIf (dB (dFn (isiF tyTab) (dCons (dVar 10) (dCons (dC (.cls "Table")) (dNil))))) (dLst (dNil)) (dLst (dCons (dC (.str "NotATable")) (dCons (dFn reprF (dCons (dVar 10) (dNil))) (dNil))))))) (sSeq (sApp 6 (dIf (dB (dBin eqD (dIx (dView 2) (dC (.int 0))) (dIx (dView 2) (dC (.int 1))))) (dLst (dNil)) (dLst (dCons (dC (.str "OtherKinds")) (dCons (dStrI "Table" (runB 1 b_Table___str__) (dIx (dView 3) (dC (.int 1)))) (dNil)))))) (sFrz 6 (sSeq (sSet 7 (dIx (dBin addD (dComp [10] (dOver iterD (dVar 6)) (gSlot 10) (dB (dBin neD (dVar 10) (dLst (dNil)))) (dVar 10)) (dLst (dCons (dLst (dNil)) (dNil)))) (dC (.int 0)))) (sSeq (sOwn 8 (dLst (dCons (dLam cg__law_caught (dCall (runB 2 b_alike) (dCons (dVar 4) (dCons (dVar 5) (dNil))))) (dNil)))) (sSeq (sApp 8 (dLam cg__law_caught (dCallK [1, 0] (runB 2 b_alike) dNil (dCons (dVar 5) (dCons (dVar 4) (dNil)))))) (sSeq (sApp 8 (dLam cg__law_caught (dCall (runB 2 b_unlike) (dCons (dVar 4) (dCons (dVar 5) (dNil)))))) (sSeq (sApp 8 (dLam cg__law_caught (dCallK [1, 0] (runB 2 b_unlike) dNil (dCons (dVar 5) (dCons (dVar 4) (dNil)))))) (sFrz 8 (sIf (dB (dBin neD (dVar 8) (dBin mulD (dLst (dCons (dVar 7) (dNil))) (dC (.int 4))))) (sRet (dC (.bl false))) (sNext))))))))))))))))) (sRet (dC (.bl true)))
theorem sc__law_right : FnScope ["purse", "turn", "sorts", "both", "head", "tail", "dues", "due", "told", "row", "each"] ["purse"] (defScope st__law_right) := ⟨rfl, rfl, rfl, by decide +kernel, rfl, by decide +kernel, by decide +kernel⟩
theorem u__law_right {P : Program} {w : World} {base : Heap} {K : PySem.W.Frag} {mg : Str → Option Value} {T : Tb} (R : Row K mg) (hT : T.xc = none) {cL PL : Addr} (hcL : ∀ f fd, mg "_law_right" = some (.ref f) → FnP K "_law_right" st__law_right f fd → fd.code = .ref cL) (TB : TabB base mg cL PL) (hmT : T.tabs = [(PL, lamName "_law_right" (defScope st__law_right))]) : FnUG P w base ⟨K, mg, T⟩ 9 "_law_right" ["purse"] (runB 11 b__law_right) := by
  obtain ⟨f, fd, hm, F⟩ := R.d__law_right
  have hcd := hcL f fd hm F
  have huT : ∀ p ∈ T.tabs, p.1 = PL → p.2 = lamName "_law_right" (defScope st__law_right) := fun p hp _ => by rw [hmT] at hp; rw [List.mem_singleton.mp hp]
  exact fnUG_of F hm sc__law_right (fun _ _ _ _ _ _ us hl => match us, hl with | [_], _ => rfl) fun cdv A outer s H E hcv hgd hr => sb_cons (ss_for (by first | exact pOF | exact PassesOwn.never) rfl (fun Z => si_range1 rfl R.n_range (sa_cons (se_int) (sa_nil))) (sg_name sc__law_right.nd) (sb_cons (ss_set (i := 2) sc__law_right.nd rfl (by first | exact Or.inl rfl | exact Or.inr rfl) (fun Z => se_lst (sa_cons (se_call (u__law_sorts R) (hr.mono (by decide)) rfl tkF (sa_cons (sv 0) (sa_cons (se_int) (sa_nil))) (len_cons (len_cons len_nil))) (sa_cons (se_call (u__law_sorts R) (hr.mono (by decide)) rfl tkF (sa_cons (sv 0) (sa_cons (se_int) (sa_nil))) (len_cons (len_cons len_nil))) (sa_nil))))) (sb_cons (ss_set (i := 2) sc__law_right.nd rfl (by first | exact Or.inl rfl | exact Or.inr rfl) (fun Z => se_if (st_eq (rmU hr) (se_call (u__law_draw R) (hr.mono (by decide)) rfl tkF (sa_cons (sv 0) (sa_cons (se_int) (sa_nil))) (len_cons (len_cons len_nil))) (se_int)) (se_lst (sa_cons (se_idx (rmU hr) (vw 2) (se_int) (fun _ _ => rfl)) (sa_cons (se_idx (rmU hr) (vw 2) (se_int) (fun _ _ => rfl)) (sa_nil)))) (sv 2))) (sb_cons (ss_setComp (i := 3) (own := [("row", 9)]) rfl sc__law_right.nd rfl rfl (by rfl) (fun Z => si_any (sv 2)) (by rfl) (by decide) (fun _ _ _ _ _ => sg_name sc__law_right.nd) (fun Z _ _ _ _ _ => sts_nil) (fun Z _ _ _ _ _ => se_cmeth (x := "") (u_Table_read R) (hr.mono (by decide)) takes0N rfl (sa_cons (se_call (u__law_text R) (hr.mono (by decide)) rfl takes0N (sa_cons (sv 9) (sa_cons (se_call (u__law_cells R) (hr.mono (by decide)) rfl takes0N (sa_cons (sv 0) (sa_cons (sv 9) (sa_cons (se_call (u__law_draw R) (hr.mono (by decide)) rfl takes0N (sa_cons (sv 0) (sa_cons (se_int) (sa_nil))) (len_cons (len_cons len_nil))) (sa_cons (se_bl) (sa_nil))))) (len_cons (len_cons (len_cons (len_cons len_nil))))) (sa_nil))) (len_cons (len_cons len_nil))) (sa_nil)) (len_cons len_nil))) (sb_cons (ss_set (i := 4) sc__law_right.nd rfl (by first | exact Or.inl rfl | exact Or.inr rfl) (fun Z => se_call (u__law_pick R) (hr.mono (by decide)) rfl tkF (sa_cons (sv 0) (sa_cons (se_lst (sa_cons (se_idx (rmU hr) (vw 3) (se_int) (fun _ _ => rfl)) (sa_cons (se_idx (rmU hr) (vw 3) (se_int) (fun _ _ => rfl)) (sa_cons (se_idx (rmU hr) (vw 3) (se_int) (fun _ _ => rfl)) (sa_cons (se_non) (sa_cons (se_strI (u_Table___str__ R) (hr.mono (by decide)) rfl R.n_str (se_idx (rmU hr) (vw 3) (se_int) (fun _ _ => rfl))) (sa_cons (se_tup (sa_nil)) (sa_nil)))))))) (sa_nil))) (len_cons (len_cons len_nil)))) (sb_cons (ss_set (i := 5) sc__law_right.nd rfl (by first | exact Or.inl rfl | exact Or.inr rfl) (fun Z => se_call (u__law_pick R) (hr.mono (by decide)) rfl tkF (sa_cons (sv 0) (sa_cons (se_lst (sa_cons (se_idx (rmU hr) (vw 3) (se_int) (fun _ _ => rfl)) (sa_cons (se_idx (rmU hr) (vw 3) (se_int) (fun _ _ => rfl)) (sa_cons (se_idx (rmU hr) (vw 3) (se_int) (fun _ _ => rfl)) (sa_cons (se_int) (sa_cons (se_strI (u_Table___str__ R) (hr.mono (by decide)) rfl R.n_str (se_idx (rmU hr) (vw 3) (se_int) (fun _ _ => rfl))) (sa_cons (se_lst (sa_nil)) (sa_nil)))))))) (sa_nil))) (len_cons (len_cons len_nil)))) (sb_cons (ss_ownComp (i := 6) (own := [("each", 10)]) rfl sc__law_right.nd rfl rfl (by rfl) (fun Z => si_any (se_lst (sa_cons (sv 4) (sa_cons (sv 5) (sa_nil))))) (by rfl) (by decide) (fun _ _ _ _ _ => sg_name sc__law_right.nd) (fun Z _ _ _ _ _ => sts_nil) (fun Z _ _ _ _ _ => se_if (st_val (se_isi R.isi rfl R.n_isinstance (sa_cons (sv 10) (sa_cons (se_glo (R.k_Table) rfl) (sa_nil))))) (se_lst (sa_nil)) (se_lst (sa_cons (se_str) (sa_cons (se_fnB (call_repr (rmU hr) hgd) ok_reprF rfl R.n_repr (sa_cons (sv 10) (sa_nil))) (sa_nil)))))) (sb_cons (ss_app (i := 6) rfl (by first | exact Or.inl rfl | exact Or.inr (Or.inl rfl) | exact Or.inr (Or.inr rfl)) (fun Z => se_if (st_eq (rmU hr) (se_idx (rmU hr) (vw 2) (se_int) (fun _ _ => rfl)) (se_idx (rmU hr) (vw 2) (se_int) (fun _ _ => rfl))) (se_lst (sa_nil)) (se_lst (sa_cons (se_str) (sa_cons (se_strI (u_Table___str__ R) (hr.mono (by decide)) rfl R.n_str (se_idx (rmU hr) (vw 3) (se_int) (fun _ _ => rfl))) (sa_nil)))))) (sb_frz 6 (sb_cons (ss_set (i := 7) sc__law_right.nd rfl (by first | exact Or.inl rfl | exact Or.inr rfl) (fun Z => se_idx (rmU hr) (vw_se (se_add (se_comp (own := [("each", 10)]) rfl sc__law_right.nd (si_any (sv 6)) (by rfl) (by decide) (fun _ _ _ _ _ => sg_name sc__law_right.nd) (fun _ _ _ _ _ => sts_one (st_ne (rmU hr) (sv 10) (se_lst (sa_nil)))) (fun _ _ _ _ _ => sv 10)) (se_lst (sa_cons (se_lst (sa_nil)) (sa_nil))))) (se_int) (fun _ _ => rfl))) (sb_cons (ss_own (i := 8) sc__law_right.nd rfl (by first | exact Or.inl rfl | exact Or.inr rfl) (fun Z => sf_lst (sa_cons (se_lam (k := 5) (u__law_caught R hT hgd) (by decide) rfl TB (hcv.symm.trans hcd) (by rw [hmT]; exact List.mem_cons_self) huT (hr.mono (by decide)) (lamS_by (by rfl)) rfl (fun _ _ _ _ _ => rfl) (fun A2 outer2 s2 H2 E2 f2 c2 hrl => se_call (u_alike R) (hrl.mono (by decide)) rfl tkL (sa_cons (sv 4) (sa_cons (sv 5) (sa_nil))) (len_cons (len_cons len_nil)))) (sa_nil)))) (sb_cons (ss_app (i := 8) rfl (by first | exact Or.inl rfl | exact Or.inr (Or.inl rfl) | exact Or.inr (Or.inr rfl)) (fun Z => se_lam (k := 5) (u__law_caught R hT hgd) (by decide) rfl TB (hcv.symm.trans hcd) (by rw [hmT]; exact List.mem_cons_self) huT (hr.mono (by decide)) (lamS_by (by rfl)) rfl (fun _ _ _ _ _ => rfl) (fun A2 outer2 s2 H2 E2 f2 c2 hrl => se_callK0 (uk_alike_other_one R) (hrl.mono (by decide)) rfl tkL (sk_cons (sv 5) (sk_cons (sv 4) (sk_nil))) (len_cons (len_cons len_nil))))) (sb_cons (ss_app (i := 8) rfl (by first | exact Or.inl rfl | exact Or.inr (Or.inl rfl) | exact Or.inr (Or.inr rfl)) (fun Z => se_lam (k := 4) (u__law_caught R hT hgd) (by decide) rfl TB (hcv.symm.trans hcd) (by rw [hmT]; exact List.mem_cons_self) huT (hr.mono (by decide)) (lamS_by (by rfl)) rfl (fun _ _ _ _ _ => rfl) (fun A2 outer2 s2 H2 E2 f2 c2 hrl => se_call (u_unlike R) (hrl.mono (by decide)) rfl tkL (sa_cons (sv 4) (sa_cons (sv 5) (sa_nil))) (len_cons (len_cons len_nil))))) (sb_cons (ss_app (i := 8) rfl (by first | exact Or.inl rfl | exact Or.inr (Or.inl rfl) | exact Or.inr (Or.inr rfl)) (fun Z => se_lam (k := 4) (u__law_caught R hT hgd) (by decide) rfl TB (hcv.symm.trans hcd) (by rw [hmT]; exact List.mem_cons_self) huT (hr.mono (by decide)) (lamS_by (by rfl)) rfl (fun _ _ _ _ _ => rfl) (fun A2 outer2 s2 H2 E2 f2 c2 hrl => se_callK0 (uk_unlike_other_one R) (hrl.mono (by decide)) rfl tkL (sk_cons (sv 5) (sk_cons (sv 4) (sk_nil))) (len_cons (len_cons len_nil))))) (sb_frz 8 (sb_one (ss_if (fun Z => st_ne (rmU hr) (sv 8) (se_mul (se_lst (sa_cons (sv 7) (sa_nil))) (se_int))) (sb_one (ss_ret fun Z => se_bl)) (sb_nil)))))))))))))))))) (sb_one (ss_ret fun Z => se_bl))
def b__law_purse : SDen := sSeq (sIf (dB (dBin ltD (dVar 1) (dLen (dView 0)))) (sSeq (sSet 2 (dIx (dView 0) (dVar 1))) (sSeq (sSet 3 (dIf (dOr (dB (dBin ltD (dVar 2) (dC (.int 0)))) (dB (dBin geD (dVar 2) (dBin powD (dC (.int 10)) (dC (.int 18)))))) (dFn absF (dCons (dVar 2) (dNil))) (dC (.int 0)))) (sRet (dRef (dLst (dCons (dVar 3) (dCons (dBin modD (dFn intF (dCons (dBin addD (dBin addD (dBin mulD (dVar 2) (dC (.int 39373))) (dBin mulD (dC (.int 104723)) (dVar 1))) (dC (.int 17))) (dNil))) (dC (.int 2147483629))) (dCons (dC (.int 0)) (dNil))))))))) (sNext)) (sSeq (sSet 4 (dBin addD (dBin mulD (dC (.int 86243)) (dVar 1)) (dC (.int 131)))) (sSeq (sFor (dOver iterD (dSlice (dVar 0) dNoPart (dPart (dC (.int 4))))) (gSlot 2) (sSet 4 (dBin modD (dFn intF (dCons (dBin addD (dBin mulD (dVar 4) (dC (.int 48271))) (dVar 2)) (dNil))) (dC (.int 2147483587))))) (sRet (dRef (dLst (dCons (dC (.int 0)) (dCons (dVar 4) (dCons (dC (.int 0)) (dNil)))))))))
theorem sc__law_purse : FnScope ["script", "k", "cell", "digits", "seed"] ["script", "k"] (defScope st__law_purse) := ⟨rfl, rfl, rfl, by decide +kernel, rfl, by decide +kernel, by decide +kernel⟩
theorem u__law_purse {P : Program} {w : World} {base : Heap} {K : PySem.W.Frag} {mg : Str → Option Value} {T : Tb} (R : Row K mg) : FnU P w base ⟨K, mg, T⟩ 1 "_law_purse" ["script", "k"] (runB 5 b__law_purse) := by
  obtain ⟨f, fd, hm, F⟩ := R.d__law_purse
  exact fnU_of F hm sc__law_purse (fun _ _ _ _ _ _ us hl => match us, hl with | [_, _], _ => rfl) fun cdv A outer s H E hr => sb_cons (ss_if (fun Z => st_lt (sv 1) (se_len rfl R.n_len (vw 0))) (sb_cons (ss_set (i := 2) sc__law_purse.nd rfl (by first | exact Or.inl rfl | exact Or.inr rfl) (fun Z => se_idx (rmU hr) (vw 0) (sv 1) (fun _ _ => rfl))) (sb_cons (ss_set (i := 3) sc__law_purse.nd rfl (by first | exact Or.inl rfl | exact Or.inr rfl) (fun Z => se_if (st_of (sw_or (st_lt (sv 2) (se_int)) (sw_or1 (st_ge (sv 2) (se_pow (se_int) (se_int)))))) (se_fnB call_abs ok_absF rfl R.n_abs (sa_cons (sv 2) (sa_nil))) (se_int))) (sb_one (ss_ret fun Z => se_ref (sf_lst (sa_cons (sv 3) (sa_cons (se_mod (se_fnT call_int1 ok_intF rfl R.n_int (sa_cons (se_add (se_add (se_mul (sv 2) (se_int)) (se_mul (se_int) (sv 1))) (se_int)) (sa_nil))) (se_int)) (sa_cons (se_int) (sa_nil))))))))) (sb_nil)) (sb_cons (ss_set (i := 4) sc__law_purse.nd rfl (by first | exact Or.inl rfl | exact Or.inr rfl) (fun Z => se_add (se_mul (se_int) (sv 1)) (se_int))) (sb_cons (ss_for (by first | exact pOF | exact PassesOwn.never) rfl (fun Z => si_any (se_slice (sv 0) so_none (so_some (se_int)))) (sg_name sc__law_purse.nd) (sb_one (ss_set (i := 4) sc__law_purse.nd rfl (by first | exact Or.inl rfl | exact Or.inr rfl) (fun Z => se_mod (se_fnT call_int1 ok_intF rfl R.n_int (sa_cons (se_add (se_mul (sv 4) (se_int)) (sv 2)) (sa_nil))) (se_int))))) (sb_one (ss_ret fun Z => se_ref (sf_lst (sa_cons (se_int) (sa_cons (sv 4) (sa_cons (se_int) (sa_nil)))))))))
def b_law : SDen := sSeq (sFor (dOverA rngD (dCons (dFn maxF (dCons (dC (.int 2)) (dCons (dFn minF (dCons (dLen (dView 0)) (dCons (dC (.int 6)) (dNil)))) (dNil)))) (dNil))) (gSlot 1) (sIf (dNot (dB (dCall (runB 11 b__law_right) (dCons (dCall (runB 5 b__law_purse) (dCons (dVar 0) (dCons (dVar 1) (dNil)))) (dNil))))) (sRet (dC (.bl false))) (sNext))) (sRet (dC (.bl true)))
theorem sc_law : FnScope ["script", "k"] ["script"] (defScope st_law) := ⟨rfl, rfl, rfl, by decide +kernel, rfl, by decide +kernel, by decide +kernel⟩
theorem v_law {P : Program} {w : World} {base : Heap} {K : PySem.W.Frag} {mg : Str → Option Value} {T : Tb} (R : Row K mg) (hT : T.xc = none) {cL PL : Addr} (hcL : ∀ f fd, mg "_law_right" = some (.ref f) → FnP K "_law_right" st__law_right f fd → fd.code = .ref cL) (TB : TabB base mg cL PL) (hmT : T.tabs = [(PL, lamName "_law_right" (defScope st__law_right))]) {f : Addr} {fd : FuncData} (F : FnP K "law" st_law f fd) : FnG P w K mg base (L2N.CX P w) 10 f fd ["script"] (spF ⟨K, mg, T⟩ 1 (runB 2 b_law)) :=
  fn_bodyG (T := T) F sc_law fun cdv A outer s H E hcv hgd hr => sb_cons (ss_for (by first | exact pOF | exact PassesOwn.never) rfl (fun Z => si_range1 rfl R.n_range (sa_cons (se_fnB (call_max2 rfl) ok_maxF rfl R.n_max (sa_cons (se_int) (sa_cons (se_fnB (call_min2 rfl) ok_minF rfl R.n_min (sa_cons (se_len rfl R.n_len (vw 0)) (sa_cons (se_int) (sa_nil)))) (sa_nil)))) (sa_nil))) (sg_name sc_law.nd) (sb_one (ss_if (fun Z => st_not (st_val (se_callG (u__law_right R hT hcL TB hmT) hgd (hr.mono (by decide)) rfl tkF (sa_cons (se_call (u__law_purse R) (hr.mono (by decide)) rfl tkF (sa_cons (sv 0) (sa_cons (sv 1) (sa_nil))) (len_cons (len_cons len_nil))) (sa_nil)) (len_cons len_nil)))) (sb_one (ss_ret fun Z => se_bl)) (sb_nil)))) (sb_one (ss_ret fun Z => se_bl))
end K33
end
section
set_option maxRecDepth 100000
set_option maxHeartbeats 1000000
namespace Pf
open PySem PySem.Spec PyProof.Rows L2 LamX

/-- what is tracked at the law's call: the script (if it is none of the written part), the tables -/
def lawH (K : PySem.W.Frag) (a : Addr) (o : Obj) (ns : List Int) (tb : List Addr) : Hp := fun b =>
  if b = a ∧ K.lookup a = none then some (.frz o (.lst (ns.map V.int))) else if b ∈ tb then some (.tbl #[]) else none
theorem lawH_cases {K : PySem.W.Frag} {a : Addr} {o : Obj} {ns : List Int} {tb : List Addr} {b : Addr} {u : HO} (h : lawH K a o ns tb b = some u) :
    (b = a ∧ K.lookup a = none ∧ u = .frz o (.lst (ns.map V.int))) ∨ (b ∈ tb ∧ u = .tbl #[]) := by
  unfold lawH at h
  split at h
  · rename_i c; cases h; exact .inl ⟨c.1, c.2, rfl⟩
  · split at h
    · rename_i c; cases h; exact .inr ⟨c, rfl⟩
    · cases h
theorem law_callG {P : Program} {w : World} {K : PySem.W.Frag} {mg mb : Str → Option Value} {CX : CXT} {k : Nat} {fa a : Addr} {cs : List (Addr × Addr)} {fd : FuncData} {x : Str} {sp : Sp} {s₁ : Shared} {vs : List Value} {ns : List Int}
    (kin : K.In s₁.heap) (nlK : ∀ b o, K.lookup b = some o → o.cls ≠ .type "list") (gl : s₁.heap.Ns mainGlobals mg) (bl : s₁.heap.Ns builtinsNs mb) (blv : ∀ x : Str, x ≠ "__name__" → mb x = bootBuiltins x) (lim : s₁.heap.NoLimit) (gen0 : s₁.gens = #[])
    (tabE : ∀ p ∈ cs, s₁.heap.get? p.2 = some { cls := .none, data := .fields #[] }) (tabK : ∀ p ∈ cs, K.lookup p.2 = none) (cod : ∀ p ∈ cs, PySem.W.CodeHd s₁.heap p.1 p.2)
    (bmod : ∃ (bm : Addr) (ob : Obj), mg "__builtins__" = some (.ref bm) ∧ bm ≠ builtinsNs ∧ s₁.heap.get? bm = some ob ∧ ob.cls = .type "module" ∧ ob.dict = some builtinsNs ∧ ob.data = .plain)
    (scr : s₁.heap.get? a = some { cls := .type "list", data := .seq vs.toArray }) (ins : IntsAre vs ns) (short : ns.length ≤ sizeLine) (room : Room k callerA)
    (F : ∀ base : Heap, K.In base → base.Ns mainGlobals mg → (∀ p ∈ cs, TabB base mg p.1 p.2) → FnG P w K mg base CX k fa fd [x] sp) (bind1 : ∀ (s : Shared) (u : Value), BindsTo s fd ⟨[u], []⟩ [(x, u)])
    (want : ∀ H : Hp, (∀ p ∈ cs, H p.2 = some (.tbl #[])) → (∀ b ps, H b = some (.tbl ps) → b ≠ a) → (∃ o, H a = some (.frz o (.lst (ns.map V.int)))) → sp [.ref a] H (fun v _ => v = .bl true) fun _ _ _ => False)
    (noX : ∀ H e s', CX [] H s₁ (fun _ _ _ => False) e s' → False) :
    codeAny (model P w) callerA (.call (.ref fa) ⟨[.ref a], []⟩) (fun r s' => r = .ok (.ret (.bool true)) ∧ OldK s₁.heap s'.heap ∧ s'.os = s₁.os ∧ AllBare s'.gens) s₁ := by
  have vals := vals_ints ins
  let so : Obj := { cls := .type "list", data := .seq vs.toArray }
  let tb : List Addr := cs.map (·.2)
  let H : Hp := lawH K a so ns tb
  have tbE : ∀ b ∈ tb, s₁.heap.get? b = some { cls := .none, data := .fields #[] } := fun b hb => by
    obtain ⟨p, hp, e⟩ := List.mem_map.mp hb
    exact e ▸ tabE p hp
  have tbK : ∀ b ∈ tb, K.lookup b = none := fun b hb => by
    obtain ⟨p, hp, e⟩ := List.mem_map.mp hb
    exact e ▸ tabK p hp
  have aNT : a ∉ tb := fun z => by
    have q := (tbE a z).symm.trans scr
    exact nomatch congrArg (fun o : Option Obj => o.map (·.cls)) q
  have hTb : ∀ p ∈ cs, H p.2 = some (.tbl #[]) := fun p hp => by
    have m : p.2 ∈ tb := List.mem_map.mpr ⟨p, hp, rfl⟩
    show lawH K a so ns tb p.2 = _
    unfold lawH
    rw [if_neg (fun z : p.2 = a ∧ K.lookup a = none => aNT (z.1 ▸ m)), if_pos m]
  -- what stands, and is neither list nor table, is not tracked
  have free : ∀ {b : Addr} {o : Obj}, s₁.heap.get? b = some o → o.data ≠ so.data → o.data ≠ .fields #[] → H b = none := fun {b o} e n1 n2 => by
    cases q : H b with
    | none => rfl
    | some u =>
      rcases lawH_cases q with ⟨rfl, _, _⟩ | ⟨m, _⟩
      · rw [scr] at e; cases e; exact (n1 rfl).elim
      · rw [tbE b m] at e; cases e; exact (n2 rfl).elim
  have under : ∀ {b : Addr} {o : Obj}, s₁.heap.get? b = some o → H b = none → (hidT s₁.heap H).get? b = some o := fun e n => hidT_get e n
  have nsU : ∀ {b : Addr} {m : Str → Option Value}, s₁.heap.Ns b m → (hidT s₁.heap H).Ns b m := fun {b m} ⟨o, es, ep, e, d, r⟩ =>
    ⟨o, es, ep, under e (free e (fun z => by rw [d] at z; cases z) fun z => by rw [d] at z; cases z), d, r⟩
  have kinU : K.In (hidT s₁.heap H) := fun b o e => under (kin b o e) (by
    cases q : H b with
    | none => rfl
    | some u =>
      rcases lawH_cases q with ⟨rfl, z, _⟩ | ⟨m, _⟩
      · rw [z] at e; cases e
      · rw [tbK b m] at e; cases e)
  have modU : L2.Mod K mg (hidT s₁.heap H) := ⟨kinU, nsU gl, ⟨mb, nsU bl, blv⟩, let ⟨mc, h1, h2⟩ := lim; ⟨mc, nsU h1, h2⟩⟩
  have tabU : ∀ p ∈ cs, TabB (hidT s₁.heap H) mg p.1 p.2 := fun p hp => by
    refine ⟨?_, ?_, fun z => ?_⟩
    · obtain ⟨o, us, file, tf, flags, tg, inF, text, tt, e1, r1, r2, r3, rr⟩ := cod p hp
      refine ⟨o, us, file, tf, flags, tg, inF, text, tt, under e1 (free e1 (fun z => by rw [r2] at z; cases z) fun z => ?_), r1, r2, r3, rr⟩
      rw [r2] at z; cases z; simp at r3
    · obtain ⟨bm, ob, b1, b2, b3, b4, b5, b6⟩ := bmod
      refine ⟨bm, ob, b1, b2, fun q => ?_, fun q => ?_, under b3 (free b3 (fun z => by rw [b6] at z; cases z) fun z => by rw [b6] at z; cases z), b4, b5, b6⟩
      · obtain ⟨o, es, ep, e, hd, _⟩ := gl
        rw [q, e] at b3; cases b3; rw [hd] at b6; cases b6
      · rw [q, tabE p hp] at b3; cases b3; cases b6
    · obtain ⟨o, es, ep, e, hd, _⟩ := gl
      rw [z, tabE p hp] at e; cases e; cases hd
  have hok : HOk P w H s₁.heap := fun b u q => by
    rcases lawH_cases q with ⟨rfl, _, rfl⟩ | ⟨m, rfl⟩
    · exact ⟨scr, by rw [List.length_map]; exact short, vs, _, vals, scr⟩
    · exact tbE b m
  have e0 : Env0 P w K mg (hidT s₁.heap H) callerA [] s₁ H := ⟨rfl, modU, fun b o e => of_hidT e, Nat.le_of_eq (hidT_size _ _), trivial, fun b hb => (List.not_mem_nil hb).elim, hok, .of_eq gen0⟩
  have wish : sp [.ref a] H (fun v _ => v = .bl true) fun _ _ _ => False := by
    refine want H hTb (fun b ps q => ?_) ?_
    · rcases lawH_cases q with ⟨_, _, z⟩ | ⟨m, _⟩
      · cases z
      · exact fun z => aNT (z ▸ m)
    · cases q : K.lookup a with
      | none => exact ⟨so, if_pos ⟨rfl, q⟩⟩
      | some o =>
        have e := kin a o q
        rw [scr] at e
        cases e
        exact (nlK a _ q rfl).elim
  refine codeAny_mono ((F _ kinU (nsU gl) tabU).go callerA [] s₁ H ⟨[.ref a], []⟩ [.ref a] [.ref a] _ _ rfl room e0 (bind1 s₁ (.ref a)) (.cons rfl .nil) wish) fun r s' h => ?_
  cases r with
  | error e => exact (noX H e s' h).elim
  | ok fl =>
    cases fl with
    | ret u =>
      obtain ⟨v, H', os, bare, un, hok', rv, q⟩ := h
      have q' : v = .bl true := q
      subst q'
      obtain rfl : u = Value.bool true := rv
      have stays : ∀ b o, b ∉ tb → s₁.heap.get? b = some o → s'.heap.get? b = some o := fun b o nb e => by
        cases z : H b with
        | none => exact un.keep b o e z (fun m => (List.not_mem_nil m).elim) (by simp)
        | some u =>
          rcases lawH_cases z with ⟨_, _, rfl⟩ | ⟨m, _⟩
          · have e1 := (hok b _ z).1
            have e2 := (hok' b _ (un.frzs b so _ z)).1
            rw [e] at e1; cases e1; exact e2
          · exact (nb m).elim
      have grew : ∀ p ∈ cs, ∃ more : Array Value, s'.heap.get? p.2 = some { cls := .none, data := .fields more } := fun p hp => by
        obtain ⟨more, z⟩ := un.tbls p.2 #[] (hTb p hp)
        exact ⟨_, hok' p.2 _ z⟩
      refine ⟨rfl, ⟨fun b o e => ?_, fun b o e => ?_⟩, os, bare⟩ <;> by_cases hb : b ∈ tb
      · obtain ⟨p, hp, rfl⟩ := List.mem_map.mp hb
        obtain ⟨more, hm⟩ := grew p hp
        rw [tabE p hp] at e; cases e
        exact .inr (.inl ⟨((cod p hp).tab (tabE p hp)).isCodeTable, rfl, #[], more, rfl, by rw [Array.empty_append]; exact hm⟩)
      · exact .inl (stays b o hb e)
      · obtain ⟨p, hp, rfl⟩ := List.mem_map.mp hb
        obtain ⟨more, hm⟩ := grew p hp
        exact ⟨_, hm⟩
      · exact ⟨o, stays b o hb e⟩
    | next => exact False.elim h
    | brk => exact False.elim h
    | cont => exact False.elim h
/-- what is known of the law's promise at the head's heap h -/
def LawAtG (l : PySem.W.OpenLaw) (w : World) (K : PySem.W.Frag) (CX : CXT) (k n : Nat) (x : Str) (mg : Str → Option Value) (fa : Addr) (h : Heap) : Prop :=
  ∃ (fd : FuncData) (cs : List (Addr × Addr)) (sp : Sp), (∀ b o, K.lookup b = some o → o.cls ≠ .type "list") ∧ (∀ p ∈ cs, h.get? p.2 = some { cls := .none, data := .fields #[] }) ∧ (∀ p ∈ cs, K.lookup p.2 = none) ∧ (∀ p ∈ cs, PySem.W.CodeHd h p.1 p.2) ∧ (∀ (s : Shared) (u : Value), BindsTo s fd ⟨[u], []⟩ [(x, u)]) ∧
    (∀ (H : Hp) (a : Addr) (ns : List Int), ns.length ≤ n → (∀ z ∈ ns, Builtin.Int.intBits z ≤ 1048576) → (∀ p ∈ cs, H p.2 = some (.tbl #[])) → (∀ b ps, H b = some (.tbl ps) → b ≠ a) → (∃ o, H a = some (.frz o (.lst (ns.map V.int)))) → sp [.ref a] H (fun v _ => v = .bl true) fun _ _ _ => False) ∧
    ∀ base : Heap, K.In base → base.Ns mainGlobals mg → (∀ p ∈ cs, TabB base mg p.1 p.2) → FnG l.prog w K mg base CX k fa fd [x] sp
theorem walk_ofG {l : PySem.W.OpenLaw} {n k : Nat} {q : Program} {loose : List Str} {XP : (Str → Option Value) → Heap → Prop} {YP : World → Heap → Prop} {d : DefRec} {CX : World → CXT} {x : Str}
    (hn : l.most = some n) (hn2 : n ≤ sizeLine) (hdf : d.params.defaults = []) (hr : Room k callerA)
    (F : ∀ (w : World) (mg : Str → Option Value) (fa : Addr) (h : Heap), YP w h → h.Ns mainGlobals mg → mg d.name = some (.ref fa) → ∃ K : PySem.W.Frag, K.In h ∧ LawAtG l w K (CX w) k n x mg fa h)
    (hCX : ∀ (w : World) (H : Hp) (s : Shared) (e : Value) (s' : Shared), CX w [] H s (fun _ _ _ => False) e s' → False) :
    PySem.W.WalkO q loose XP YP l.row.toRowW d [] (fun f vs => PySem.call f vs) := by
  refine Att.attach_callB hn hdf fun w s₀ s₁ mg mb fa o pm cd doc a vs ns G Y ho hd hcd hmg hobj hints hlen hbits hg => ?_
  obtain ⟨K, KX, fd, cs, sp, t0, t1, t2, t3, hb, hsp, hF⟩ := F w mg fa _ Y G.T.g hmg
  exact law_callG KX t0 G.T.g G.T.b G.T.builtins G.T.nolimit hg t1 t2 t3 G.T.bmain hobj hints (Nat.le_trans hlen hn2) hr hF hb (fun H => hsp H a ns hlen hbits) fun H e s' => hCX w H s₁ e s'
end Pf
end
section
set_option maxRecDepth 100000
set_option maxHeartbeats 1000000
namespace Pf
open PySem PySem.Spec PyProof.Rows L2 LamX He

structure DefA where
  ad : PySem.W.Frag → Addr
  name : Str
  qual : Str
  params : Arguments
  body : List Stmt
  scope : Scope
  dv : PySem.W.Frag → List V := fun _ => []
def fnAt (K : PySem.W.Frag) (a : Addr) : FnW := match K.lookup a with
  | some ⟨_, _, .func fd, _⟩ => some (fd.name, fd.qualname, fd.params, fd.body, fd.scope, fd.globals, fd.closure, fd.builtins)
  | _ => none
def DefA.val (d : DefA) : FnW := some (d.name, d.qual, d.params, .stmts d.body, d.scope, mainGlobals, [], builtinsNs)
def DefA.ok (K : PySem.W.Frag) (d : DefA) : Bool := PySem.W.keepIn K (.ref (d.ad K)) && (match K.lookup (d.ad K) with
  | some ⟨_, _, .func fd, _⟩ => PySem.W.codeIn K fd.code d.qual && (dflB K fd.defaults (d.dv K) && kwdB K fd.kwdefaults [])
  | _ => false)
theorem DefA.funD {K : PySem.W.Frag} {d : DefA} (e : fnAt K (d.ad K) = d.val) (c : d.ok K = true) : ∃ fd, FunD K d.name d.qual d.params d.body d.scope (d.dv K) [] (d.ad K) fd := by
  obtain ⟨kp, rest⟩ := ba c
  unfold fnAt at e
  cases q : K.lookup (d.ad K) with
  | none => rw [q] at rest; cases rest
  | some o =>
    obtain ⟨oc, od, dt, osl⟩ := o
    rw [q] at rest e
    cases dt with
    | func fd =>
      obtain ⟨n1, n2, n3, n4, n5, n6, n7, n8, n9, n10, n11, n12, n13, n14, n15⟩ := fd
      have e' : (some (n1, n2, n3, n4, n5, n6, n7, n15) : FnW) = some (d.name, d.qual, d.params, .stmts d.body, d.scope, mainGlobals, [], builtinsNs) := e
      simp only [Option.some.injEq, Prod.mk.injEq] at e'
      obtain ⟨h1, h2, h3, h4, h5, h6, h7, h8⟩ := e'
      subst h1 h2 h3 h4 h5 h6 h7 h8
      have rest' : (PySem.W.codeIn K n13 d.qual && (dflB K n8 (d.dv K) && kwdB K n9 [])) = true := rest
      obtain ⟨k1, k2⟩ := ba rest'
      obtain ⟨k3, k4⟩ := ba k2
      exact ⟨_, ⟨oc, od, n8, n9, n10, n11, n12, n13, n14, osl, rfl, q, k1, dflB_ok k3, kwdB_ok k4⟩, kp⟩
    | _ => cases rest
structure SaysA (fn : List DefA) (tf : List Defn) (ex : PySem.W.Frag → Bool) (h : Heap) (K : PySem.W.Frag) : Prop where
  oks : fn.all (fun d => d.ok K) = true
  vals : fn.map (fun d => fnAt K (d.ad K)) = fn.map DefA.val
  more : ex K = true
  hd : ∀ p ∈ tf, PySem.W.codeHdIn K (cT K p).1 (cT K p).2 = true
  out : ∀ p ∈ tf, K.lookup (cT K p).2 = none
  empty : ∀ p ∈ tf, h.get? (cT K p).2 = some { cls := .none, data := .fields #[] }
/-- what is reached, the C modules' statics too -/
def asS (g : Addr → Option Obj) (n : Nat) : List Addr := cStatics :: asD g n
abbrev AlA : Type := Bool × List FnW
def obsK (fn : List DefA) (tf : List Defn) (ex : PySem.W.Frag → Bool) (g : Addr → Option Obj) (K : PySem.W.Frag) : AlA := (fn.all (fun d => d.ok K) && (ex K && tabsB g tf K), fn.map fun d => fnAt K (d.ad K))
def obsA (n : Nat) (fn : List DefA) (tf : List Defn) (ex : PySem.W.Frag → Bool) (g : Addr → Option Obj) : AlA := obsK fn tf ex g (frT g (asS g n))
theorem saysA_of {n : Nat} {fn : List DefA} {tf : List Defn} {ex : PySem.W.Frag → Bool} {h : Heap} (e : obsA n fn tf ex h.get? = (true, fn.map DefA.val)) : SaysA fn tf ex h (frT h.get? (asS h.get? n)) := by
  have e1 : (fn.all (fun d => d.ok (frT h.get? (asS h.get? n))) && (ex (frT h.get? (asS h.get? n)) && tabsB h.get? tf (frT h.get? (asS h.get? n)))) = true := congrArg Prod.fst e
  obtain ⟨h1, h2⟩ := ba e1
  obtain ⟨h3, h4⟩ := ba h2
  have key : ∀ p ∈ tf, PySem.W.codeHdIn (frT h.get? (asS h.get? n)) (cT (frT h.get? (asS h.get? n)) p).1 (cT (frT h.get? (asS h.get? n)) p).2 = true ∧ ∃ o, h.get? (cT (frT h.get? (asS h.get? n)) p).2 = some o ∧ emptyTab o = true := fun p hp => by
    obtain ⟨q1, q2⟩ := ba (List.all_eq_true.mp h4 p hp)
    refine ⟨q1, ?_⟩
    cases q : h.get? (cT (frT h.get? (asS h.get? n)) p).2 with
    | none => rw [q] at q2; cases q2
    | some o => rw [q] at q2; exact ⟨o, rfl, q2⟩
  refine ⟨h1, congrArg Prod.snd e, h3, fun p hp => (key p hp).1, fun p hp => ?_, fun p hp => ?_⟩
  · obtain ⟨_, o, q, z⟩ := key p hp
    exact frT_none q z
  · obtain ⟨_, o, q, z⟩ := key p hp
    rw [q, emptyTab_eq z]
def hookA (n : Nat) (fn : List DefA) (tf : List Defn) (ex : PySem.W.Frag → Bool) : PySem.W.Hook where
  α := AlA
  obs := fun s => obsA n fn tf ex s.heap.get?
  val := fun _ => (true, fn.map DefA.val)
  says := fun _ h => ∃ K : PySem.W.Frag, K.In h ∧ SaysA fn tf ex h K
  of := fun _ _ e => ⟨_, frT_in, saysA_of e⟩
  keeps := fun _ _ _ ⟨K, hK, c⟩ k => ⟨K, PySem.W.Frag.In.keeps hK k, ⟨c.oks, c.vals, c.more, c.hd, c.out, fun p hp => k _ _ (c.empty p hp)⟩⟩
theorem obsA_eq {n : Nat} {fn : List DefA} {tf : List Defn} {ex : PySem.W.Frag → Bool} {g : Addr → Option Obj} {s : Shared} (h : ∀ a, g a = s.heap.get? a) : obsA n fn tf ex g = (hookA n fn tf ex).obs s := by
  have e : g = s.heap.get? := funext h
  rw [e] <;> rfl
theorem SaysA.def_ {fn : List DefA} {tf : List Defn} {ex : PySem.W.Frag → Bool} {h : Heap} {K : PySem.W.Frag} (c : SaysA fn tf ex h K) {d : DefA} (hd : d ∈ fn) : ∃ fd, FunD K d.name d.qual d.params d.body d.scope (d.dv K) [] (d.ad K) fd := by
  obtain ⟨i, hi, e⟩ := List.mem_iff_getElem.mp hd
  have e2 : (fn.map fun d => fnAt K (d.ad K))[i]? = (fn.map DefA.val)[i]? := by rw [c.vals]
  rw [List.getElem?_map, List.getElem?_map, List.getElem?_eq_getElem hi, e] at e2
  exact DefA.funD (Option.some.inj e2) (List.all_eq_true.mp c.oks d hd)

/-- a property's getter -/
def pga (K : PySem.W.Frag) (p : Addr) : Addr := match PySem.W.recIn K p "property" with
  | some (.ref g :: _) => g
  | _ => 0
def cga (K : PySem.W.Frag) (p : Addr) : Addr := match PySem.W.recIn K p "classmethod" with
  | some (.ref g :: _) => g
  | _ => 0
def propB (K : PySem.W.Frag) (C p : Addr) (m : Str) : Bool := He.eqO (PySem.W.findIn K (.ref C) m) (some (some (.ref p))) && (He.eqO (PySem.W.specialIn K (.ref p) "__get__") (some (some (.builtin "property.__get__"))) && (decide (PySem.W.takesIn K (.ref p) = some true) && (match PySem.W.recIn K p "property" with
  | some (.ref _ :: _) => true
  | _ => false)))
theorem propB_ok {K : PySem.W.Frag} {C p : Addr} {m : Str} (h : propB K C p m = true) : PropOf K C m p (pga K p) := by
  obtain ⟨h1, h2⟩ := ba h
  obtain ⟨h2, h3⟩ := ba h2
  obtain ⟨h3, h4⟩ := ba h3
  refine ⟨He.eqO_ok h1, He.eqO_ok h2, of_decide_eq_true h3, ?_⟩
  unfold pga
  split at h4
  · rename_i g r q; rw [q]; exact ⟨_, rfl⟩
  · cases h4
/-- the classmethod's record, off the class -/
def cpa (K : PySem.W.Frag) (C : Addr) (m : Str) : Addr := match PySem.W.findCls K (.ref C) (.type "type") m with
  | some (.get _ (.ref p) _ _) => p
  | _ => 0
def cmetB (K : PySem.W.Frag) (C : Addr) (m : Str) : Bool := PySem.W.readsIn K C (.type "type") && (He.eqO (PySem.W.specialIn K (.ref C) "__getattribute__") (some (some (.builtin "type.__getattribute__"))) && ((match PySem.W.findCls K (.ref C) (.type "type") m with
  | some (.get (.builtin g) (.ref _) .none (.ref C')) => decide (g = "classmethod.__get__") && decide (C' = C)
  | _ => false) && ((match PySem.W.recIn K (cpa K C m) "classmethod" with
  | some (.ref _ :: _) => true
  | _ => false) && PySem.W.fnIn K (cga K (cpa K C m)))))
theorem cmetB_ok {K : PySem.W.Frag} {C : Addr} {m : Str} (h : cmetB K C m = true) : ClX.CRead K C (.type "type") ∧ ClX.CMet K C (.type "type") m (cpa K C m) (cga K (cpa K C m)) := by
  obtain ⟨h1, h2⟩ := ba h
  obtain ⟨h2, h3⟩ := ba h2
  obtain ⟨h3, h4⟩ := ba h3
  obtain ⟨h4, h5⟩ := ba h4
  refine ⟨⟨h1, He.eqO_ok h2⟩, ?_, ?_, h5⟩
  · split at h3
    · rename_i g p C' q
      obtain ⟨e1, e2⟩ := ba h3
      have e1 := of_decide_eq_true e1
      have e2 := of_decide_eq_true e2
      subst e1 e2
      rw [q]; simp only [cpa, q]
    · cases h3
  · unfold cga
    split at h4
    · rename_i g r q; rw [q]; exact ⟨_, rfl⟩
    · cases h4
def insTB (K : PySem.W.Frag) (x : Str) : Bool := (Fa.cls x).ok K && (He.eqO (PySem.W.findIn K (.ref (ga K x)) "__class__") (some (some (.builtin "object.__class__"))) && (He.eqO (PySem.W.specialIn K (.builtin "object.__class__") "__get__") (some (some (.builtin "getset_descriptor.__get__"))) &&
  (decide (PySem.W.takesIn K (.builtin "object.__class__") = some true) && decide (PySem.W.mroIn K (ga K x) (.type "object") = some true))))
theorem insTB_ok {K : PySem.W.Frag} {x : Str} (h : insTB K x = true) : InsT K (ga K x) := by
  obtain ⟨h1, h2⟩ := ba h
  obtain ⟨h2, h3⟩ := ba h2
  obtain ⟨h3, h4⟩ := ba h3
  obtain ⟨h4, h5⟩ := ba h4
  exact ⟨cls_ok h1, He.eqO_ok h2, He.eqO_ok h3, of_decide_eq_true h4, of_decide_eq_true h5⟩
def excAB (K : PySem.W.Frag) (x : Str) : Bool := He.eqO (PySem.W.findIn K (.ref (ga K x)) "__getattribute__") (some (some (.builtin "BaseException.__getattribute__"))) && (He.eqO (PySem.W.findIn K (.ref (ga K x)) "__getattr__") (some none) && (decide (PySem.W.subIn K (.ref (ga K x)) (.type "BaseException") = some true) &&
  (PySem.W.hasDictIn K (ga K x) && ((PySem.W.clsIn K (ga K x)).isSome && (He.eqO (PySem.W.findIn K (.ref (ga K x)) "__class__") (some (some (.builtin "object.__class__"))) && (He.eqO (PySem.W.specialIn K (.builtin "object.__class__") "__get__") (some (some (.builtin "getset_descriptor.__get__"))) &&
  (decide (PySem.W.takesIn K (.builtin "object.__class__") = some true) && decide (PySem.W.mroIn K (ga K x) (.type "object") = some true))))))))
theorem excAB_ok {K : PySem.W.Frag} {x : Str} (h : excAB K x = true) : ExcA K (ga K x) := by
  obtain ⟨h1, h2⟩ := ba h
  obtain ⟨h2, h3⟩ := ba h2
  obtain ⟨h3, h4⟩ := ba h3
  obtain ⟨h4, h5⟩ := ba h4
  obtain ⟨h5, h6⟩ := ba h5
  obtain ⟨h6, h7⟩ := ba h6
  obtain ⟨h7, h8⟩ := ba h7
  obtain ⟨h8, h9⟩ := ba h8
  exact ⟨He.eqO_ok h1, He.eqO_ok h2, of_decide_eq_true h3, h4, h5, He.eqO_ok h6, He.eqO_ok h7, of_decide_eq_true h8, of_decide_eq_true h9⟩
/-- an own exception class whose object has the usual form -/
def oexB (K : PySem.W.Frag) (x : Str) : Bool := (match K.lookup (ga K x) with
  | some ⟨.type t, _, .cls cd, sl⟩ => decide (t = "type") && (cd.hasDict && (!cd.hasDel && ((match cd.mro with
    | .ref C' :: bm => decide (C' = ga K x) && PySem.HandSPX.refsVE bm
    | _ => false) && (match sl.toList with
    | [_, _, _, _, some (.builtin n), _] => decide (n = "ValueError.__new__")
    | _ => false))))
  | _ => false) && (He.eqO (PySem.W.findIn K (.ref (ga K x)) "__setattr__") (some (some (.builtin "object.__setattr__"))) && (decide (PySem.W.subIn K (.ref (ga K x)) (.type "BaseException") = some true) && (decide (PySem.W.typeIn K (.ref (ga K x)) = some (.type "type")) && PySem.W.keepIn K (.ref (ga K x)))))
theorem oexB_ok {K : PySem.W.Frag} {x : Str} (h : oexB K x = true) : OexC K (ga K x) := by
  obtain ⟨h1, h2⟩ := ba h
  obtain ⟨h2, h3⟩ := ba h2
  obtain ⟨h3, h4⟩ := ba h3
  obtain ⟨h4, h5⟩ := ba h4
  refine ⟨?_, He.eqO_ok h2, of_decide_eq_true h3, of_decide_eq_true h4, h5⟩
  cases q : K.lookup (ga K x) with
  | none => rw [q] at h1; cases h1
  | some o =>
    obtain ⟨oc, od, dt, sl⟩ := o
    rw [q] at h1
    cases oc with
    | type t =>
      cases dt with
      | cls cd =>
        obtain ⟨nm, bs, mro, ns, qn, hd, sn, sub, ab, col, del⟩ := cd
        obtain ⟨k1, k2⟩ := ba h1
        obtain ⟨k2, k3⟩ := ba k2
        obtain ⟨k3, k4⟩ := ba k3
        obtain ⟨k4, k5⟩ := ba k4
        have k1 := of_decide_eq_true k1
        subst k1
        have k2 : hd = true := k2
        subst k2
        have k3 : del = false := by simpa using k3
        subst k3
        cases mro with
        | nil => cases k4
        | cons c bm =>
          cases c with
          | ref C' =>
            obtain ⟨e1, e2⟩ := ba k4
            have e1 := of_decide_eq_true e1
            subst e1
            split at k5
            · rename_i z0 z1 z2 z3 n z5 hs
              have k5 := of_decide_eq_true k5
              subst k5
              have hsl : sl = #[z0, z1, z2, z3, some (.builtin "ValueError.__new__"), z5] := by
                rw [← Array.toList_inj, hs]
              subst hsl
              exact ⟨nm, qn, ns, bs, bm, sn, sub, ab, col, od, z0, z1, z2, z3, z5, rfl, e2⟩
            · cases k5
          | _ => cases k4
      | _ => cases h1
    | _ => cases dt <;> cases h1
/-- no list in the written part -/
def noLst (K : PySem.W.Frag) : Bool := K.all fun q => match q.2.cls with
  | .type t => !decide (t = "list")
  | _ => true
theorem noLst_ok {K : PySem.W.Frag} (h : noLst K = true) : ∀ b o, K.lookup b = some o → o.cls ≠ .type "list" := fun b o e z => by
  have := List.all_eq_true.mp h _ (lookup_mem e)
  rw [z] at this
  simp at this
end Pf
end
section
set_option maxRecDepth 100000
set_option maxHeartbeats 1000000
namespace Pf
open PySem PySem.Spec PyProof.Rows L2 LamX He

def tv (K : PySem.W.Frag) : Ty → Value
  | .b n => .type n
  | .o c => .ref (ga K c)
def kitB (K : PySem.W.Frag) (l : List ((Ty × Ty) × Bool)) : Bool := l.all fun p => decide (PySem.W.kitOne K (tv K p.1.1) (tv K p.1.2) = some p.2)
def xkB (K : PySem.W.Frag) (l : List ((Str × Str) × Bool)) : Bool := l.all fun p => excAB K p.1.1 && ((Fa.glo p.1.1).ok K && ((Fa.glo p.1.2).ok K && decide (PySem.W.kitOne K (.ref (ga K p.1.1)) (.ref (ga K p.1.2)) = some p.2)))
def eiB (K : PySem.W.Frag) (x : Str) : Bool := He.eqO (PySem.W.findIn K (.ref (ga K x)) "__init__") (some (some (.ref (ma K (ga K x) "__init__")))) && decide (PySem.W.typeIn K (.ref (ma K (ga K x) "__init__")) = some (.type "function"))
def exmB (K : PySem.W.Frag) (cs ts : List Str) : Bool := cs.all fun c => decide (PySem.W.exmAny K (.ref (ga K c)) (ts.map fun t => .ref (ga K t)) = some true)
theorem lookup_memP {α β : Type} [BEq α] [LawfulBEq α] {a : α} {b : β} : ∀ {l : List (α × β)}, l.lookup a = some b → (a, b) ∈ l
  | [], h => by cases h
  | (k, v) :: r, h => by
    have h2 : (match a == k with | true => some v | false => r.lookup a) = some b := h
    cases q : (a == k) with
    | true => rw [q] at h2; cases h2; rw [beq_iff_eq.mp q]; exact List.mem_cons_self
    | false => rw [q] at h2; exact List.mem_cons_of_mem _ (lookup_memP h2)
def tyIn (cs : List Str) : Ty → Bool
  | .o c => decide (c ∈ cs)
  | .b _ => true
theorem tyVal_tv {K : PySem.W.Frag} {mg : Str → Option Value} {cs : List Str} (hg : ∀ c ∈ cs, mg c = some (.ref (ga K c))) {a : Ty} {u : Value} (hi : tyIn cs a = true) (h : tyVal mg a = some u) : u = tv K a := by
  cases a with
  | b n => cases h; rfl
  | o c => simp only [tyVal, hg c (of_decide_eq_true hi)] at h; cases h; rfl
section
variable {K : PySem.W.Frag} {h : Heap} {mg : Str → Option Value} {T : Tb}
theorem isi_of {l : List ((Ty × Ty) × Bool)} {cs : List Str} (hk : kitB K l = true) (hi : ∀ c ∈ cs, insTB K c = true) (hg : ∀ c ∈ cs, mg c = some (.ref (ga K c)))
    (hl : l.all (fun p => tyIn cs p.1.1 && tyIn cs p.1.2) = true) : IsiT ⟨K, mg, T⟩ (fun a b => l.lookup (a, b)) := by
  refine ⟨fun a b r u v e e1 e2 => ?_, fun c b r C e e1 => ?_⟩
  · have m := lookup_memP e
    obtain ⟨i1, i2⟩ := ba (List.all_eq_true.mp hl _ m)
    have k := of_decide_eq_true (List.all_eq_true.mp hk _ m)
    rw [tyVal_tv hg i1 e1, tyVal_tv hg i2 e2]; exact k
  · have m := lookup_memP e
    obtain ⟨i1, i2⟩ := ba (List.all_eq_true.mp hl _ m)
    have hc : c ∈ cs := of_decide_eq_true i1
    have e1 : mg c = some (.ref C) := e1
    rw [hg c hc] at e1; cases e1
    exact insTB_ok (hi c hc)
theorem xtab_of (X : K.In h) (G : h.Ns mainGlobals mg) {l : List ((Str × Str) × Bool)} (hk : xkB K l = true) (c2 : Str) {C : Addr} (c : Str) (b : Bool) (C2 : Addr) (e : l.lookup (c, c2) = some b) (m1 : mg c = some (.ref C)) (m2 : mg c2 = some (.ref C2)) : ExcA K C ∧ PySem.W.kitOne K (.ref C) (.ref C2) = some b := by
  obtain ⟨k1, k2⟩ := ba (List.all_eq_true.mp hk _ (lookup_memP e))
  obtain ⟨k2, k3⟩ := ba k2
  obtain ⟨k3, k4⟩ := ba k3
  rw [He.glo_ok X G k2] at m1; cases m1
  rw [He.glo_ok X G k3] at m2; cases m2
  exact ⟨excAB_ok k1, of_decide_eq_true k4⟩
theorem gloCls {c : Str} (m : mg c = some (.ref (ga K c))) : GloIs ⟨K, mg, T⟩ c (.cls c) := ⟨_, .ref _, m, rfl, fun _ _ => .cls m⟩
theorem gloInt (X : K.In h) (G : h.Ns mainGlobals mg) {x : Str} {i : Int} (c : (Fa.int x i).ok K = true) : GloIs ⟨K, mg, T⟩ x (.int i) := by
  obtain ⟨t, m⟩ := He.int_ok X G c
  exact ⟨_, .int i, m, ⟨t, rfl⟩, fun _ _ => .int i⟩
theorem gloStr (X : K.In h) (G : h.Ns mainGlobals mg) {x z : Str} (c : (Fa.str x z).ok K = true) : GloIs ⟨K, mg, T⟩ x (.str z) := by
  obtain ⟨t, m⟩ := He.str_ok X G c
  exact ⟨_, .str z, m, ⟨t, rfl⟩, fun _ _ => .str z⟩
/-- a constant tuple of strings and integers -/
def dvD : Dv → Option D
  | .str x => some (.str x)
  | .int i => some (.int i)
  | _ => none
theorem reps_dv {G : Gx} {w : Wd} {H : Hp} : ∀ {vs : List Dv} {ds : List D}, vs.map dvD = ds.map some → Reps G w H (vs.map (Dv.v K)) ds
  | [], [], _ => .nil
  | [], _ :: _, e => by cases e
  | _ :: _, [], e => by cases e
  | v :: vs, d :: ds, e => by
    have e' : dvD v :: vs.map dvD = some d :: ds.map some := e
    injection e' with e1 e2
    refine .cons ?_ (reps_dv e2)
    cases v with
    | str x => cases e1; exact .str x
    | int i => cases e1; exact .int i
    | _ => cases e1
theorem gloTup (X : K.In h) (G : h.Ns mainGlobals mg) {x : Str} {vs : List Dv} {ds : List D} (g : (Fa.glo x).ok K = true) (c : tupB K x vs = true) (e : vs.map dvD = ds.map some) : GloIs ⟨K, mg, T⟩ x (.kup ds) :=
  ⟨_, .ref _, He.glo_ok X G g, rfl, fun _ _ => .kup (fun H' => tupB_ok c H') (reps_dv e)⟩
theorem eiB_ok {x : Str} (c : eiB K x = true) : PySem.W.findIn K (.ref (ga K x)) "__init__" = some (some (.ref (ma K (ga K x) "__init__"))) ∧ PySem.W.typeIn K (.ref (ma K (ga K x) "__init__")) = some (.type "function") := by
  obtain ⟨h1, h2⟩ := ba c
  exact ⟨He.eqO_ok h1, of_decide_eq_true h2⟩
theorem excU_of {P : Program} {w : World} {base : Heap} {c qual f : Str} {params : Arguments} {scope : Scope} {fd : FuncData} {q1 q2 q3 q4 : Pos} (m : mg c = some (.ref (ga K c))) (ho : oexB K c = true) (hi : eiB K c = true) (hf : (Fa.noat c f).ok K = true)
    (F : FunD K "__init__" qual params (iBody f q1 q2 q3 q4) scope [] [] (ma K (ga K c) "__init__") fd) (S : FnScope ["self", f] ["self", f] scope)
    (v0 : Vis scope "self") (v1 : Vis scope f) (hd : (f == ("__debug__" : Str)) = false) (hcd : (f == ("__classdict__" : Str)) = false)
    (hs : ∀ (cdv : Value) (fa : Addr) (sz : Nat), swapsWith (.Name f q3) (some (.Attribute (.Name "self" q1) f q2)) q4.line (envOfC qual scope sz fa cdv) = pure false)
    (hb : ∀ (kV doc pm : Value) (an : Option Addr) (cdv ct : Value) (us : List Value), us.length = 2 → bindArgs (PySem.W.fnOf "__init__" qual params (iBody f q1 q2 q3 q4) scope .none kV doc pm an cdv ct) ⟨us, []⟩ = pure ((["self", f] : List Str).zip us)) : ExcU P w base ⟨K, mg, T⟩ c f :=
  ⟨_, _, _, m, oexB_ok ho, (eiB_ok hi).1, (eiB_ok hi).2, hf |> He.noat_ok, ok_init F S v0 v1 hd hcd hs, F.bindsN hb⟩
theorem exm_top {cs : List Str} {ts : List Str} (hm : exmB K cs ts = true) {c : Str} {r : Bool} {C : Addr} (hg : ∀ c ∈ cs, mg c = some (.ref (ga K c))) (e : (if c ∈ cs then some true else none) = some r) (m : mg c = some (.ref C)) : PySem.W.exmAny K (.ref C) (ts.map fun t => .ref (ga K t)) = some r := by
  split at e
  · rename_i hc
    cases e
    rw [hg c hc] at m; cases m
    exact of_decide_eq_true (List.all_eq_true.mp hm c hc)
  · cases e
end
end Pf
end
section
set_option maxRecDepth 100000
set_option maxHeartbeats 0
namespace K33
open PySem PySem.Spec PyProof.Rows L2 LamX Pf He

def a__law_draw : DefA := ⟨fun K => ga K "_law_draw", "_law_draw", "_law_draw", defArgs st__law_draw, defBody st__law_draw, defScope st__law_draw, fun _ => []⟩
def a__law_pick : DefA := ⟨fun K => ga K "_law_pick", "_law_pick", "_law_pick", defArgs st__law_pick, defBody st__law_pick, defScope st__law_pick, fun _ => []⟩
def a__law_sorts : DefA := ⟨fun K => ga K "_law_sorts", "_law_sorts", "_law_sorts", defArgs st__law_sorts, defBody st__law_sorts, defScope st__law_sorts, fun _ => []⟩
def a_are_kinds : DefA := ⟨fun K => ga K "are_kinds", "are_kinds", "are_kinds", defArgs st_are_kinds, defBody st_are_kinds, defScope st_are_kinds, fun _ => []⟩
def a_check_kinds : DefA := ⟨fun K => ga K "check_kinds", "check_kinds", "check_kinds", defArgs st_check_kinds, defBody st_check_kinds, defScope st_check_kinds, fun _ => []⟩
def a_is_result : DefA := ⟨fun K => ga K "is_result", "is_result", "is_result", defArgs st_is_result, defBody st_is_result, defScope st_is_result, fun _ => []⟩
def a_has_sign : DefA := ⟨fun K => ga K "has_sign", "has_sign", "has_sign", defArgs st_has_sign, defBody st_has_sign, defScope st_has_sign, fun _ => []⟩
def a_is_condition : DefA := ⟨fun K => ga K "is_condition", "is_condition", "is_condition", defArgs st_is_condition, defBody st_is_condition, defScope st_is_condition, fun _ => []⟩
def a_is_option : DefA := ⟨fun K => ga K "is_option", "is_option", "is_option", defArgs st_is_option, defBody st_is_option, defScope st_is_option, fun _ => []⟩
def a_Cell___init__ : DefA := ⟨fun K => ma K (ga K "Cell") "__init__", "__init__", "Cell.__init__", defArgs st_Cell___init__, defBody st_Cell___init__, defScope st_Cell___init__, fun _ => []⟩
def a_parsed_row : DefA := ⟨fun K => ga K "parsed_row", "parsed_row", "parsed_row", defArgs st_parsed_row, defBody st_parsed_row, defScope st_parsed_row, fun _ => []⟩
def a_check_rows : DefA := ⟨fun K => ga K "check_rows", "check_rows", "check_rows", defArgs st_check_rows, defBody st_check_rows, defScope st_check_rows, fun _ => []⟩
def a_Table___init__ : DefA := ⟨fun K => ma K (ga K "Table") "__init__", "__init__", "Table.__init__", defArgs st_Table___init__, defBody st_Table___init__, defScope st_Table___init__, fun K => [V.ref (dflAt ("Table", some "__init__") 0 K)]⟩
def a_Table_read : DefA := ⟨fun K => cga K (cpa K (ga K "Table") "read"), "read", "Table.read", defArgs st_Table_read, defBody st_Table_read, defScope st_Table_read, fun _ => []⟩
def a__law_text : DefA := ⟨fun K => ga K "_law_text", "_law_text", "_law_text", defArgs st__law_text, defBody st__law_text, defScope st__law_text, fun _ => []⟩
def a__law_good : DefA := ⟨fun K => ga K "_law_good", "_law_good", "_law_good", defArgs st__law_good, defBody st__law_good, defScope st__law_good, fun _ => []⟩
def a__law_options : DefA := ⟨fun K => ga K "_law_options", "_law_options", "_law_options", defArgs st__law_options, defBody st__law_options, defScope st__law_options, fun _ => []⟩
def a__law_cells : DefA := ⟨fun K => ga K "_law_cells", "_law_cells", "_law_cells", defArgs st__law_cells, defBody st__law_cells, defScope st__law_cells, fun _ => []⟩
def a_Table___str__ : DefA := ⟨fun K => ma K (ga K "Table") "__str__", "__str__", "Table.__str__", defArgs st_Table___str__, defBody st_Table___str__, defScope st_Table___str__, fun _ => []⟩
def a__law_caught : DefA := ⟨fun K => ga K "_law_caught", "_law_caught", "_law_caught", defArgs st__law_caught, defBody st__law_caught, defScope st__law_caught, fun _ => []⟩
def a_check_table : DefA := ⟨fun K => ga K "check_table", "check_table", "check_table", defArgs st_check_table, defBody st_check_table, defScope st_check_table, fun _ => []⟩
def a_Table_kinds : DefA := ⟨fun K => pga K (ma K (ga K "Table") "kinds"), "kinds", "Table.kinds", defArgs st_Table_kinds, defBody st_Table_kinds, defScope st_Table_kinds, fun _ => []⟩
def a_check_both : DefA := ⟨fun K => ga K "check_both", "check_both", "check_both", defArgs st_check_both, defBody st_check_both, defScope st_check_both, fun _ => []⟩
def a_pairs_of : DefA := ⟨fun K => ga K "pairs_of", "pairs_of", "pairs_of", defArgs st_pairs_of, defBody st_pairs_of, defScope st_pairs_of, fun _ => []⟩
def a_Table_options_of : DefA := ⟨fun K => ma K (ga K "Table") "options_of", "options_of", "Table.options_of", defArgs st_Table_options_of, defBody st_Table_options_of, defScope st_Table_options_of, fun _ => []⟩
def a_relation_of : DefA := ⟨fun K => ga K "relation_of", "relation_of", "relation_of", defArgs st_relation_of, defBody st_relation_of, defScope st_relation_of, fun _ => []⟩
def a_turned : DefA := ⟨fun K => ga K "turned", "turned", "turned", defArgs st_turned, defBody st_turned, defScope st_turned, fun _ => []⟩
def a_does_hold : DefA := ⟨fun K => ga K "does_hold", "does_hold", "does_hold", defArgs st_does_hold, defBody st_does_hold, defScope st_does_hold, fun _ => []⟩
def a_result_of : DefA := ⟨fun K => ga K "result_of", "result_of", "result_of", defArgs st_result_of, defBody st_result_of, defScope st_result_of, fun _ => []⟩
def a_Table_turn : DefA := ⟨fun K => ma K (ga K "Table") "turn", "turn", "Table.turn", defArgs st_Table_turn, defBody st_Table_turn, defScope st_Table_turn, fun _ => []⟩
def a_unlike_of : DefA := ⟨fun K => ga K "unlike_of", "unlike_of", "unlike_of", defArgs st_unlike_of, defBody st_unlike_of, defScope st_unlike_of, fun _ => []⟩
def a_unlike : DefA := ⟨fun K => ga K "unlike", "unlike", "unlike", defArgs st_unlike, defBody st_unlike, defScope st_unlike, fun _ => []⟩
def a_alike : DefA := ⟨fun K => ga K "alike", "alike", "alike", defArgs st_alike, defBody st_alike, defScope st_alike, fun _ => []⟩
def a__law_right : DefA := ⟨fun K => ga K "_law_right", "_law_right", "_law_right", defArgs st__law_right, defBody st__law_right, defScope st__law_right, fun _ => []⟩
def a__law_purse : DefA := ⟨fun K => ga K "_law_purse", "_law_purse", "_law_purse", defArgs st__law_purse, defBody st__law_purse, defScope st__law_purse, fun _ => []⟩
def a_law : DefA := ⟨fun K => ga K "law", "law", "law", defArgs st_law, defBody st_law, defScope st_law, fun _ => []⟩
def st_NotATable___init__ : Stmt := inClass (top 32) 0
def a_NotATable___init__ : DefA := ⟨fun K => ma K (ga K "NotATable") "__init__", "__init__", "NotATable.__init__", defArgs st_NotATable___init__, defBody st_NotATable___init__, defScope st_NotATable___init__, fun _ => []⟩
def st_OtherKinds___init__ : Stmt := inClass (top 33) 0
def a_OtherKinds___init__ : DefA := ⟨fun K => ma K (ga K "OtherKinds") "__init__", "__init__", "OtherKinds.__init__", defArgs st_OtherKinds___init__, defBody st_OtherKinds___init__, defScope st_OtherKinds___init__, fun _ => []⟩
def facts0 : List Fa := [.cls "Cell", .cls "Table", .free "abs", .free "all", .free "divmod", .free "enumerate", .free "int", .free "isinstance", .free "len", .free "list", .free "max", .free "min", .free "range", .free "repr", .free "str", .free "tuple", .free "zip", .glo "BadName", .glo "BadValue", .glo "Cell", .glo "InvalidKinds", .glo "KINDS", .glo "NoAnswer", .glo "NotATable", .glo "OtherKinds"]
def facts1 : List Fa := [.glo "RELATIONS", .glo "SIGN_CONDITIONS", .glo "Table", .glo "_law_caught", .glo "_law_cells", .glo "_law_draw", .glo "_law_good", .glo "_law_options", .glo "_law_pick", .glo "_law_purse", .glo "_law_right", .glo "_law_sorts", .glo "_law_text", .glo "alike", .glo "are_kinds", .glo "check_both", .glo "check_kinds", .glo "check_rows", .glo "check_table", .glo "does_hold", .glo "has_sign", .glo "is_condition", .glo "is_option", .glo "is_result", .glo "law"]
def facts2 : List Fa := [.glo "pairs_of", .glo "parsed_row", .glo "relation_of", .glo "result_of", .glo "turned", .glo "unlike", .glo "unlike_of", .int "MOST_OPTIONS" 5, .meth "Table" "__str__", .meth "Table" "options_of", .meth "Table" "turn", .mkr "Cell", .mkr "Table", .noat "Cell" "key", .noat "Cell" "options", .noat "NotATable" "given", .noat "OtherKinds" "given", .noat "Table" "cells", .noat "Table" "held_kinds", .noat "Table" "held_rows"]
def facts : List Fa := facts0 ++ facts1 ++ facts2
def dats0 : List DefA := [a__law_draw, a__law_pick, a__law_sorts, a_are_kinds, a_check_kinds, a_is_result, a_has_sign, a_is_condition, a_is_option, a_Cell___init__, a_parsed_row, a_check_rows, a_Table___init__, a_Table_read, a__law_text, a__law_good, a__law_options, a__law_cells, a_Table___str__, a__law_caught, a_check_table, a_Table_kinds, a_check_both, a_pairs_of, a_Table_options_of]
def dats1 : List DefA := [a_relation_of, a_turned, a_does_hold, a_result_of, a_Table_turn, a_unlike_of, a_unlike, a_alike, a__law_right, a__law_purse, a_law, a_NotATable___init__, a_OtherKinds___init__]
def dats : List DefA := dats0 ++ dats1
def moreB (K : PySem.W.Frag) : Bool := cmetB K (ga K "Table") "read" && (propB K (ga K "Table") (ma K (ga K "Table") "kinds") "kinds" && (tupB K "KINDS" [.str "put", .str "out", .str "set"] && (tupB K "RELATIONS" [.str "<", .str "=", .str ">"] && (tupB K "SIGN_CONDITIONS" [.str "less", .str "same", .str "more"] && (insTB K "Cell" && (insTB K "Table" && (kitB K tyTabL && (xkB K exTabL && (noLst K && (excAB K "NotATable" && (excAB K "OtherKinds" && (oexB K "NotATable" && (eiB K "NotATable" && (oexB K "OtherKinds" && (eiB K "OtherKinds" && (exmB K ["NotATable", "OtherKinds"] ["BadValue", "BadName", "NoAnswer"]))))))))))))))))
def exB (K : PySem.W.Frag) : Bool := facts.all (fun f => f.ok K) && moreB K
abbrev rowR : PySem.W.OpenRow := PySem.W.OpenLaw.row PySem.Challenge.rw_passedits_k33_errors_of_likeness
def lamD : List Defn := [("_law_right", none)]
abbrev hk : PySem.W.Hook := hookA 5 dats lamD exB
def ob (s : PySem.W.SharedT) : AlA := obsA 5 dats lamD exB (HandSHeadRun.getT s)
theorem ob_eq (s : PySem.W.SharedT) : ob s = hk.obs s.abs := obsA_eq (HandSHeadRun.getT_eq s)
end K33
end
section
set_option maxRecDepth 100000
set_option maxHeartbeats 0
namespace K33
open PySem PySem.W PySem.Calls PyProof.Rows Pf
def loose0 : List PySem.Str := ["_wall", "MOST_OPTIONS", "LEAST_PLACE", "MOST_PLACE", "__name__", "LETTERS", "KINDS", "is_integer", "is_sign", "has_sign", "is_edit", "are_kinds", "RELATIONS", "SIGN_CONDITIONS", "Cell", "is_result", "is_condition", "is_option", "parsed_row", "relation_of", "does_hold", "result_of", "turned", "BadValue", "BadName", "NoAnswer", "InvalidText", "InvalidKinds", "InvalidEdit", "InvalidFirst"]
def loose1 : List PySem.Str := ["NotATable", "OtherKinds", "InvalidRows", "UnknownName", "check_kinds", "check_rows", "Table", "is_key", "is_edit_for", "check_edit", "check_table", "check_both", "pairs_of", "unlike_of", "unlike", "alike", "_law_purse", "_law_draw", "_law_pick", "_law_good", "_law_options", "_law_cells", "_law_text", "_law_turned", "_law_play", "_law_end", "_law_lines", "_law_sorts", "_law_caught", "_law_right"]
def loose : List PySem.Str := loose0 ++ loose1
abbrev qv : Program := view rowR.prog [65]
theorem run (w : World) : HandSHeadRun.RunEq rowR qv hk ob 6000 loose w := by
  intro os
  kernel_rfl
end K33
end
section
set_option maxRecDepth 100000
set_option maxHeartbeats 1000000
namespace K33
open PySem PySem.Spec PyProof.Rows L2 LamX Pf He
theorem sc_NotATable___init__ : FnScope ["self", "given"] ["self", "given"] (defScope st_NotATable___init__) := ⟨rfl, rfl, rfl, by decide +kernel, rfl, by decide +kernel, by decide +kernel⟩
theorem sc_OtherKinds___init__ : FnScope ["self", "given"] ["self", "given"] (defScope st_OtherKinds___init__) := ⟨rfl, rfl, rfl, by decide +kernel, rfl, by decide +kernel, by decide +kernel⟩
theorem row_of {K : PySem.W.Frag} {h : Heap} {mg : Str → Option Value} (X : K.In h) (G : h.Ns mainGlobals mg) (c : SaysA dats lamD exB h K) : Row K mg := by
  obtain ⟨hf, hm⟩ := ba c.more
  have fc : ∀ (i : Nat) {f : Fa}, facts[i]? = some f → f.ok K = true := fun i f e => List.all_eq_true.mp hf f (List.mem_of_getElem? e)
  have dc : ∀ (i : Nat) {d : DefA}, dats[i]? = some d → ∃ fd, FunD K d.name d.qual d.params d.body d.scope (d.dv K) [] (d.ad K) fd := fun i d e => c.def_ (List.mem_of_getElem? e)
  obtain ⟨m0, hm⟩ := ba hm
  obtain ⟨m1, hm⟩ := ba hm
  obtain ⟨m2, hm⟩ := ba hm
  obtain ⟨m3, hm⟩ := ba hm
  obtain ⟨m4, hm⟩ := ba hm
  obtain ⟨m5, hm⟩ := ba hm
  obtain ⟨m6, hm⟩ := ba hm
  obtain ⟨m7, hm⟩ := ba hm
  obtain ⟨m8, hm⟩ := ba hm
  obtain ⟨m9, hm⟩ := ba hm
  obtain ⟨m10, hm⟩ := ba hm
  obtain ⟨m11, hm⟩ := ba hm
  obtain ⟨m12, hm⟩ := ba hm
  obtain ⟨m13, hm⟩ := ba hm
  obtain ⟨m14, hm⟩ := ba hm
  obtain ⟨m15, hm⟩ := ba hm
  have m16 := hm
  exact {
    d__law_draw := let ⟨fd, F⟩ := dc (d := a__law_draw) 0 rfl; ⟨_, fd, (glo_ok X G (fc 30 rfl)), F⟩,
    d__law_pick := let ⟨fd, F⟩ := dc (d := a__law_pick) 1 rfl; ⟨_, fd, (glo_ok X G (fc 33 rfl)), F⟩,
    d__law_sorts := let ⟨fd, F⟩ := dc (d := a__law_sorts) 2 rfl; ⟨_, fd, (glo_ok X G (fc 36 rfl)), F⟩,
    d_are_kinds := let ⟨fd, F⟩ := dc (d := a_are_kinds) 3 rfl; ⟨_, fd, (glo_ok X G (fc 39 rfl)), F⟩,
    d_check_kinds := let ⟨fd, F⟩ := dc (d := a_check_kinds) 4 rfl; ⟨_, fd, (glo_ok X G (fc 41 rfl)), F⟩,
    d_is_result := let ⟨fd, F⟩ := dc (d := a_is_result) 5 rfl; ⟨_, fd, (glo_ok X G (fc 48 rfl)), F⟩,
    d_has_sign := let ⟨fd, F⟩ := dc (d := a_has_sign) 6 rfl; ⟨_, fd, (glo_ok X G (fc 45 rfl)), F⟩,
    d_is_condition := let ⟨fd, F⟩ := dc (d := a_is_condition) 7 rfl; ⟨_, fd, (glo_ok X G (fc 46 rfl)), F⟩,
    d_is_option := let ⟨fd, F⟩ := dc (d := a_is_option) 8 rfl; ⟨_, fd, (glo_ok X G (fc 47 rfl)), F⟩,
    d_Cell___init__ := let ⟨fd, F⟩ := dc (d := a_Cell___init__) 9 rfl; ⟨_, _, 0, .none, fd, (glo_ok X G (fc 19 rfl)), ⟨cls_ok (fc 0 rfl), mkr_ok (fc 61 rfl)⟩, F⟩,
    d_parsed_row := let ⟨fd, F⟩ := dc (d := a_parsed_row) 10 rfl; ⟨_, fd, (glo_ok X G (fc 51 rfl)), F⟩,
    d_check_rows := let ⟨fd, F⟩ := dc (d := a_check_rows) 11 rfl; ⟨_, fd, (glo_ok X G (fc 42 rfl)), F⟩,
    d_Table___init__ := let ⟨fd, F⟩ := dc (d := a_Table___init__) 12 rfl; ⟨_, _, 0, .none, fd, _, (glo_ok X G (fc 27 rfl)), ⟨cls_ok (fc 1 rfl), mkr_ok (fc 62 rfl)⟩, F⟩,
    d_Table_read := let ⟨fd, F⟩ := dc (d := a_Table_read) 13 rfl; ⟨_, _, _, _, fd, (glo_ok X G (fc 27 rfl)), cmetB_ok m0, F⟩,
    d__law_text := let ⟨fd, F⟩ := dc (d := a__law_text) 14 rfl; ⟨_, fd, (glo_ok X G (fc 37 rfl)), F⟩,
    d__law_good := let ⟨fd, F⟩ := dc (d := a__law_good) 15 rfl; ⟨_, fd, (glo_ok X G (fc 31 rfl)), F⟩,
    d__law_options := let ⟨fd, F⟩ := dc (d := a__law_options) 16 rfl; ⟨_, fd, (glo_ok X G (fc 32 rfl)), F⟩,
    d__law_cells := let ⟨fd, F⟩ := dc (d := a__law_cells) 17 rfl; ⟨_, fd, (glo_ok X G (fc 29 rfl)), F⟩,
    d_Table___str__ := let ⟨fd, F⟩ := dc (d := a_Table___str__) 18 rfl; ⟨_, _, 0, .none, fd, (glo_ok X G (fc 27 rfl)), ⟨cls_ok (fc 1 rfl), meth_ok (fc 58 rfl)⟩, F⟩,
    d__law_caught := let ⟨fd, F⟩ := dc (d := a__law_caught) 19 rfl; ⟨_, fd, (glo_ok X G (fc 28 rfl)), F⟩,
    ex3 := ⟨_, _, _, (glo_ok X G (fc 18 rfl)), (glo_ok X G (fc 17 rfl)), (glo_ok X G (fc 22 rfl)), fun c r C e m => exm_top (ts := ["BadValue", "BadName", "NoAnswer"]) (cs := ["NotATable", "OtherKinds"]) m16 (List.forall_mem_cons.mpr ⟨(glo_ok X G (fc 23 rfl)), List.forall_mem_cons.mpr ⟨(glo_ok X G (fc 24 rfl)), fun _ z => nomatch z⟩⟩) e m⟩,
    d_check_table := let ⟨fd, F⟩ := dc (d := a_check_table) 20 rfl; ⟨_, fd, (glo_ok X G (fc 43 rfl)), F⟩,
    d_Table_kinds := let ⟨fd, F⟩ := dc (d := a_Table_kinds) 21 rfl; ⟨_, _, _, .none, fd, (glo_ok X G (fc 27 rfl)), ⟨cls_ok (fc 1 rfl), propB_ok m1⟩, F⟩,
    d_check_both := let ⟨fd, F⟩ := dc (d := a_check_both) 22 rfl; ⟨_, fd, (glo_ok X G (fc 40 rfl)), F⟩,
    d_pairs_of := let ⟨fd, F⟩ := dc (d := a_pairs_of) 23 rfl; ⟨_, fd, (glo_ok X G (fc 50 rfl)), F⟩,
    d_Table_options_of := let ⟨fd, F⟩ := dc (d := a_Table_options_of) 24 rfl; ⟨_, _, 0, .none, fd, (glo_ok X G (fc 27 rfl)), ⟨cls_ok (fc 1 rfl), meth_ok (fc 59 rfl)⟩, F⟩,
    d_relation_of := let ⟨fd, F⟩ := dc (d := a_relation_of) 25 rfl; ⟨_, fd, (glo_ok X G (fc 52 rfl)), F⟩,
    d_turned := let ⟨fd, F⟩ := dc (d := a_turned) 26 rfl; ⟨_, fd, (glo_ok X G (fc 54 rfl)), F⟩,
    d_does_hold := let ⟨fd, F⟩ := dc (d := a_does_hold) 27 rfl; ⟨_, fd, (glo_ok X G (fc 44 rfl)), F⟩,
    d_result_of := let ⟨fd, F⟩ := dc (d := a_result_of) 28 rfl; ⟨_, fd, (glo_ok X G (fc 53 rfl)), F⟩,
    d_Table_turn := let ⟨fd, F⟩ := dc (d := a_Table_turn) 29 rfl; ⟨_, _, 0, .none, fd, (glo_ok X G (fc 27 rfl)), ⟨cls_ok (fc 1 rfl), meth_ok (fc 60 rfl)⟩, F⟩,
    d_unlike_of := let ⟨fd, F⟩ := dc (d := a_unlike_of) 30 rfl; ⟨_, fd, (glo_ok X G (fc 56 rfl)), F⟩,
    d_unlike := let ⟨fd, F⟩ := dc (d := a_unlike) 31 rfl; ⟨_, fd, (glo_ok X G (fc 55 rfl)), F⟩,
    d_alike := let ⟨fd, F⟩ := dc (d := a_alike) 32 rfl; ⟨_, fd, (glo_ok X G (fc 38 rfl)), F⟩,
    d__law_right := let ⟨fd, F⟩ := dc (d := a__law_right) 33 rfl; ⟨_, fd, (glo_ok X G (fc 35 rfl)), F⟩,
    d__law_purse := let ⟨fd, F⟩ := dc (d := a__law_purse) 34 rfl; ⟨_, fd, (glo_ok X G (fc 34 rfl)), F⟩,
    d_law := let ⟨fd, F⟩ := dc (d := a_law) 35 rfl; ⟨_, fd, (glo_ok X G (fc 49 rfl)), F⟩,
    c_KINDS := gloTup X G (fc 21 rfl) m2 rfl,
    c_MOST_OPTIONS := gloInt X G (fc 57 rfl),
    c_RELATIONS := gloTup X G (fc 25 rfl) m3 rfl,
    c_SIGN_CONDITIONS := gloTup X G (fc 26 rfl) m4 rfl,
    k_BadValue := gloCls (glo_ok X G (fc 18 rfl)),
    k_InvalidKinds := gloCls (glo_ok X G (fc 20 rfl)),
    k_NotATable := gloCls (glo_ok X G (fc 23 rfl)),
    k_OtherKinds := gloCls (glo_ok X G (fc 24 rfl)),
    k_Table := gloCls (glo_ok X G (fc 27 rfl)),
    n_abs := free_ok X G (fc 2 rfl),
    n_all := free_ok X G (fc 3 rfl),
    n_divmod := free_ok X G (fc 4 rfl),
    n_enumerate := free_ok X G (fc 5 rfl),
    n_int := free_ok X G (fc 6 rfl),
    n_isinstance := free_ok X G (fc 7 rfl),
    n_len := free_ok X G (fc 8 rfl),
    n_list := free_ok X G (fc 9 rfl),
    n_max := free_ok X G (fc 10 rfl),
    n_min := free_ok X G (fc 11 rfl),
    n_range := free_ok X G (fc 12 rfl),
    n_repr := free_ok X G (fc 13 rfl),
    n_str := free_ok X G (fc 14 rfl),
    n_tuple := free_ok X G (fc 15 rfl),
    n_zip := free_ok X G (fc 16 rfl),
    f_cells := List.forall_mem_cons.mpr ⟨fun C m => by rw [(glo_ok X G (fc 27 rfl))] at m; cases m; exact ⟨cls_ok (fc 1 rfl), noat_ok (fc 67 rfl)⟩, fun _ z => nomatch z⟩,
    f_held_kinds := List.forall_mem_cons.mpr ⟨fun C m => by rw [(glo_ok X G (fc 27 rfl))] at m; cases m; exact ⟨cls_ok (fc 1 rfl), noat_ok (fc 68 rfl)⟩, fun _ z => nomatch z⟩,
    f_held_rows := List.forall_mem_cons.mpr ⟨fun C m => by rw [(glo_ok X G (fc 27 rfl))] at m; cases m; exact ⟨cls_ok (fc 1 rfl), noat_ok (fc 69 rfl)⟩, fun _ z => nomatch z⟩,
    f_key := List.forall_mem_cons.mpr ⟨fun C m => by rw [(glo_ok X G (fc 19 rfl))] at m; cases m; exact ⟨cls_ok (fc 0 rfl), noat_ok (fc 63 rfl)⟩, fun _ z => nomatch z⟩,
    f_options := List.forall_mem_cons.mpr ⟨fun C m => by rw [(glo_ok X G (fc 19 rfl))] at m; cases m; exact ⟨cls_ok (fc 0 rfl), noat_ok (fc 64 rfl)⟩, fun _ z => nomatch z⟩,
    isi := isi_of (cs := ["Cell", "Table"]) m7 (List.forall_mem_cons.mpr ⟨m5, List.forall_mem_cons.mpr ⟨m6, fun _ z => nomatch z⟩⟩) (List.forall_mem_cons.mpr ⟨(glo_ok X G (fc 19 rfl)), List.forall_mem_cons.mpr ⟨(glo_ok X G (fc 27 rfl)), fun _ z => nomatch z⟩⟩) (by decide +kernel),
    e_NotATable := fun P w base T => let ⟨fd, F⟩ := dc (d := a_NotATable___init__) 36 rfl; excU_of (glo_ok X G (fc 23 rfl)) m12 m13 (fc 65 rfl) F sc_NotATable___init__ (.inl rfl) (.inl rfl) (by decide) (by decide) (fun _ _ _ => rfl) (fun _ _ _ _ _ _ us hl => match us, hl with | [_, _], _ => rfl),
    e_OtherKinds := fun P w base T => let ⟨fd, F⟩ := dc (d := a_OtherKinds___init__) 37 rfl; excU_of (glo_ok X G (fc 24 rfl)) m14 m15 (fc 66 rfl) F sc_OtherKinds___init__ (.inl rfl) (.inl rfl) (by decide) (by decide) (fun _ _ _ => rfl) (fun _ _ _ _ _ _ us hl => match us, hl with | [_, _], _ => rfl),
    a_given := List.forall_mem_cons.mpr ⟨fun m => by rw [(glo_ok X G (fc 23 rfl))] at m; cases m; exact ⟨excAB_ok m10, noat_ok (fc 65 rfl)⟩, List.forall_mem_cons.mpr ⟨fun m => by rw [(glo_ok X G (fc 24 rfl))] at m; cases m; exact ⟨excAB_ok m11, noat_ok (fc 66 rfl)⟩, fun _ z => nomatch z⟩⟩,
    x_tab := xtab_of X G m8 }
end K33
end
section
set_option maxRecDepth 100000
set_option maxHeartbeats 1000000
namespace K33
open PySem PySem.W PyProof.Rows Pf L2 LamX
theorem lam_code {K : PySem.W.Frag} {h : Heap} {mg : Str → Option Value} (KX : K.In h) (G : h.Ns mainGlobals mg) (g : (He.Fa.glo "_law_right").ok K = true) {st : Stmt} (f : Addr) (fd : FuncData) (hm : mg "_law_right" = some (.ref f)) (F : FnP K "_law_right" st f fd) : fd.code = .ref (He.cT K ("_law_right", none)).1 := by
  obtain ⟨oc, od, dV, kV, doc, pm, an, cdv, ct, osl, rfl, lk, hcd, _, _⟩ := F.ex
  obtain ⟨c0, rfl⟩ := He.codeIn_ref hcd
  have e := (He.glo_ok KX G g).symm.trans hm
  cases e
  exact congrArg Value.ref (He.codeOf_eq (p := ("_law_right", none)) lk rfl).symm
theorem at_ (pl : ∀ ns : List Int, ns.length ≤ 63 → (∀ z ∈ ns, Builtin.Int.intBits z ≤ 1048576) → ∃ h', runB 2 b_law [.scr ns] [] = .ok (.bl true) h') (w : World) (mg : Str → Option Value) (fa : Addr) (h : Heap) (Y : ∃ K : PySem.W.Frag, K.In h ∧ SaysA dats lamD exB h K) (G : h.Ns mainGlobals mg) (hmg : mg ("law" : Str) = some (.ref fa)) :
    ∃ K : PySem.W.Frag, K.In h ∧ Pf.LawAtG PySem.Challenge.rw_passedits_k33_errors_of_likeness w K (L2N.CX PySem.Challenge.rw_passedits_k33_errors_of_likeness.prog w) 10 63 "script" mg fa h := by
  obtain ⟨K, KX, c⟩ := Y
  refine ⟨K, KX, ?_⟩
  have R := row_of KX G c
  obtain ⟨f, fd, hm, F⟩ := R.d_law
  rw [hmg] at hm; cases hm
  let p : He.Defn := ("_law_right", none)
  have hp : p ∈ lamD := List.mem_singleton.mpr rfl
  let T : Pf.Tb := ⟨[((He.cT K p).2, lamName "_law_right" (defScope st__law_right))], none⟩
  obtain ⟨hf, hmo⟩ := He.ba c.more
  have fc : ∀ (i : Nat) {f : He.Fa}, facts[i]? = some f → f.ok K = true := fun i f e => List.all_eq_true.mp hf f (List.mem_of_getElem? e)
  refine ⟨fd, [He.cT K p], spF ⟨K, mg, T⟩ 1 (runB 2 b_law), noLst_ok ?_, fun q hq => ?_, fun q hq => ?_, fun q hq => ?_, fun s u => ?_, fun H a ns hl hb hT hne ho => ?_, fun base kin gl tb => ?_⟩
  · simp only [moreB, Bool.and_eq_true] at hmo
    exact hmo.2.2.2.2.2.2.2.2.2.1
  · rw [List.mem_singleton.mp hq]; exact c.empty _ hp
  · rw [List.mem_singleton.mp hq]; exact c.out _ hp
  · rw [List.mem_singleton.mp hq]; exact PySem.W.codeHd_of_K KX (c.hd _ hp)
  · exact (FunD.bindsA (ps := ["script"]) F fun _ _ _ _ _ _ us hl => match us, hl with | [_], _ => rfl) s [u] rfl
  · obtain ⟨o, ho⟩ := ho
    obtain ⟨h', e⟩ := pl ns hl hb
    refine ⟨rfl, ⟨fun b => b = a, fun _ => False, fun _ => none⟩, [], [.scr ns], ⟨(fun _ _ z => nomatch z), (fun _ z => nomatch z), (fun _ _ _ z => nomatch z), (fun _ _ z => nomatch z), fun _ _ z => z, fun b hb => by (rcases hb with rfl | z; (rw [ho]; exact nofun); exact z.elim), fun b ps q => ⟨hne b ps q, id⟩, ?_⟩, .cons (.scr rfl ho) .nil, ?_⟩
    · exact fun q hq => by rw [List.mem_singleton.mp hq]; exact ⟨#[], hT _ (List.mem_singleton.mpr rfl), by trivial, fun _ _ z => by cases z⟩
    · rw [e]
      intro w1 H1 _ _ v r
      have r : Rep _ w1 H1 v (.bl true) := r
      cases r; rfl
  · exact v_law R rfl (lam_code KX G (fc 35 rfl)) (tb _ (List.mem_singleton.mpr rfl)) rfl F
end K33
end
section
set_option maxRecDepth 100000
set_option maxHeartbeats 1000000
open PySem PySem.W PySem.Calls PyProof.Rows Pf
theorem K33.holds_of (pl : ∀ ns : List Int, ns.length ≤ 63 → (∀ z ∈ ns, Builtin.Int.intBits z ≤ 1048576) → ∃ h', runB 2 K33.b_law [.scr ns] [] = .ok (.bl true) h') : PySem.Challenge.rw_passedits_k33_errors_of_likeness.Holds := by
  w_on; o_law
  refine HandSHeadRun.head_any (r := K33.rowR) (q := K33.qv) (H := K33.hk) (ob := K33.ob) (M := 6000) (loose := K33.loose) (d := HandSHeadRun.topDef K33.rowR.prog 65) (kwd := []) K33.ob_eq
    (by kernel_rfl) (fun s => by kernel_rfl) K33.run (by kernel_rfl) (by kernel_rfl) (by kernel_rfl) (by rfl) (by first | assumption | decide +kernel) (by decide +kernel) ⟨rfl, rfl, rfl, rfl, rfl, by decide +kernel⟩ ?hw ?hc
  case hw => w_witness2
  case hc =>
    refine Pf.walk_ofG (l := PySem.Challenge.rw_passedits_k33_errors_of_likeness) (n := 63) (k := 10) (x := "script") (CX := fun w => L2N.CX PySem.Challenge.rw_passedits_k33_errors_of_likeness.prog w) rfl (by decide) (by kernel_rfl) ⟨rfl, by decide, by decide⟩ ?F ?X
    case X => exact fun w H s e s' ⟨_, _, _, _, _, _, _, _, _, _, _, _, z⟩ => z
    intro w mg fa h Y G hmg0
    have hmg : mg ("law" : PySem.Str) = some (.ref fa) := by
      have e : (HandSHeadRun.topDef K33.rowR.prog 65).name = ("law" : PySem.Str) := by kernel_rfl
      rw [← e]
      exact hmg0
    exact K33.at_ pl w mg fa h Y G hmg
end
section
set_option maxRecDepth 100000
set_option maxHeartbeats 1000000
namespace Pf
open PySem PySem.Spec PyProof.Rows L2 LamX
def Res.Is0 {α : Type} (r : Res α) (P : α → Hl → Prop) : Prop := match r with
  | .ok a h => P a h
  | _ => False
def SRes.Is0 (r : SRes) (P : Fl → Rho → Hl → Prop) : Prop := match r with
  | .ok f ρ h => P f ρ h
  | _ => False
def Fl.go (f : Fl) (N : Prop) (R : Fl → Prop) : Prop := match f with
  | .next => N
  | f => R f
def Fl.out (f : Fl) (P : D → Prop) : Prop := match f with
  | .ret d => P d
  | .next => P .non
  | _ => False
def TgI (o : Option (Rho × Hl)) (W : Rho → Hl → Prop) : Prop := match o with
  | some (a, b) => W a b
  | none => False
def TwoI (ds : List D) (W : D → D → Prop) : Prop := match ds with
  | [d, e] => W d e
  | _ => False
def BlI (d : D) (W : Bool → Prop) : Prop := match d with
  | .bl b => W b
  | _ => False
def IntI (d : D) (W : Int → Prop) : Prop := match d with
  | .int b => W b
  | _ => False
def SlI (s : Option Sl) (W : D → Prop) : Prop := match s with
  | some (.v d) => W d
  | _ => False
def VwI (s : Option Sl) (W : D → Prop) : Prop := match s with
  | some (.v d) => W d
  | some (.own d) => W d
  | _ => False
@[simp] theorem TgI_some {a : Rho} {b : Hl} {W : Rho → Hl → Prop} : TgI (some (a, b)) W = W a b := rfl
@[simp] theorem TgI_ite {c : Prop} [Decidable c] {a : Rho} {b : Hl} {W : Rho → Hl → Prop} : TgI (if c then some (a, b) else none) W = (c ∧ W a b) := by
  split
  · rename_i z; simp [z]
  · rename_i z; simp [z, TgI]
@[simp] theorem TwoI_two {d e : D} {W : D → D → Prop} : TwoI [d, e] W = W d e := rfl
@[simp] theorem BlI_bl {b : Bool} {W : Bool → Prop} : BlI (.bl b) W = W b := rfl
@[simp] theorem IntI_int {b : Int} {W : Int → Prop} : IntI (.int b) W = W b := rfl
@[simp] theorem SlI_v {d : D} {W : D → Prop} : SlI (some (.v d)) W = W d := rfl
@[simp] theorem VwI_v {d : D} {W : D → Prop} : VwI (some (.v d)) W = W d := rfl
@[simp] theorem VwI_own {d : D} {W : D → Prop} : VwI (some (.own d)) W = W d := rfl
section
variable {α β : Type} {h : Hl} {ρ : Rho} {P : α → Hl → Prop} {Q : β → Hl → Prop} {S : Fl → Rho → Hl → Prop} {U : D → Hl → Prop}
theorem z_Res_Is0_mono {r : Res α} {P Q : α → Hl → Prop} (i : r.Is0 P) (k : ∀ a h, P a h → Q a h) : r.Is0 Q := by
  cases r with
  | ok a h => exact k a h i
  | _ => exact i
theorem z_SRes_Is0_mono {r : SRes} {P Q : Fl → Rho → Hl → Prop} (i : r.Is0 P) (k : ∀ f ρ h, P f ρ h → Q f ρ h) : r.Is0 Q := by
  cases r with
  | ok f ρ h => exact k f ρ h i
  | _ => exact i
theorem z_Res_Is0_of_eq {r : Res α} {a : α} {P : α → Hl → Prop} (e : r = .ok a h) (p : P a h) : r.Is0 P := by rw [e]; exact p
@[simp] theorem z_Res_is_ok {a : α} : (Res.ok a h).Is0 P = P a h := rfl
@[simp] theorem z_Res_is_bad : (Res.bad : Res α).Is0 P = False := rfl
@[simp] theorem z_SRes_is_ok {f : Fl} : (SRes.ok f ρ h).Is0 S = S f ρ h := rfl
@[simp] theorem z_SRes_is_bad : SRes.bad.Is0 S = False := rfl
@[simp] theorem z_Fl_go_next {N : Prop} {R : Fl → Prop} : Fl.next.go N R = N := rfl
@[simp] theorem z_Fl_go_ret {d : D} {N : Prop} {R : Fl → Prop} : (Fl.ret d).go N R = R (.ret d) := rfl
@[simp] theorem z_Fl_out_next {P : D → Prop} : Fl.next.out P = P .non := rfl
@[simp] theorem z_Fl_out_ret {d : D} {P : D → Prop} : (Fl.ret d).out P = P d := rfl
@[simp] theorem z_is_bind {r : Res α} {f : α → Hl → Res β} : (r.bind f).Is0 Q = r.Is0 fun a h => (f a h).Is0 Q := by cases r <;> rfl
@[simp] theorem z_is_sBind {r : Res α} {k : α → Hl → SRes} : (sBind r ρ k).Is0 S = r.Is0 fun a h => (k a h).Is0 S := by cases r <;> rfl
@[simp] theorem z_is_seq {f g : SDen} : (sSeq f g ρ h).Is0 S = (f ρ h).Is0 fun fl ρ1 h1 => fl.go ((g ρ1 h1).Is0 S) fun fl => S fl ρ1 h1 := by
  unfold sSeq SRes.then
  cases f ρ h with
  | ok fl ρ1 h1 => cases fl <;> rfl
  | _ => rfl
theorem z_is_runB {N : Nat} {b : SDen} {ds : List D} : (runB N b ds h).Is0 U = (b (ds.map .v ++ List.replicate (N - ds.length) .no) h).Is0 fun fl _ h1 => fl.out fun d => U d h1 := by
  unfold runB
  cases b (ds.map .v ++ List.replicate (N - ds.length) .no) h with
  | ok fl ρ1 h1 => cases fl <;> rfl
  | _ => rfl
@[simp] theorem z_is_expr {f : Den D} : (sExpr f ρ h).Is0 S = (f ρ h).Is0 fun _ h1 => S .next ρ h1 := z_is_sBind
@[simp] theorem z_is_ret {f : Den D} : (sRet f ρ h).Is0 S = (f ρ h).Is0 fun d h1 => S (.ret d) ρ h1 := z_is_sBind
@[simp] theorem z_is_set {i : Nat} {f : Den D} : (sSet i f ρ h).Is0 S = (f ρ h).Is0 fun d h1 => S .next (ρ.set i (.v d)) h1 := z_is_sBind
@[simp] theorem z_is_own {i : Nat} {f : Den D} : (sOwn i f ρ h).Is0 S = (f ρ h).Is0 fun d h1 => S .next (ρ.set i (.own d)) h1 := z_is_sBind
@[simp] theorem z_ite_is {c : Bool} {x y : SRes} : (if c = true then x else y).Is0 S = if c = true then x.Is0 S else y.Is0 S := by cases c <;> rfl
@[simp] theorem z_is_if {c : Den Bool} {f g : SDen} : (sIf c f g ρ h).Is0 S = (c ρ h).Is0 fun b h1 => if b = true then (f ρ h1).Is0 S else (g ρ h1).Is0 S := by
  unfold sIf
  rw [z_is_sBind]
  simp only [z_ite_is]
@[simp] theorem z_is_call {g : List D → Hl → Res D} {t : Den (List D)} : (dCall g t ρ h).Is0 U = (t ρ h).Is0 fun ds h1 => (g ds h1).Is0 U := z_is_bind
theorem z_is_optR {o : Option α} : (optR o h).Is0 P = ∃ a, o = some a ∧ P a h := by
  cases o with
  | none => simp [optR]
  | some a => simp [optR]
@[simp] theorem z_is_bin {o : D → D → Option D} {f g : Den D} : (dBin o f g ρ h).Is0 U = (f ρ h).Is0 fun d h1 => (g ρ h1).Is0 fun e h2 => (optR (o d e) h2).Is0 U := by
  unfold dBin; simp only [z_is_bind]
@[simp] theorem z_is_un {o : D → Option D} {f : Den D} : (dUn o f ρ h).Is0 U = (f ρ h).Is0 fun d h1 => (optR (o d) h1).Is0 U := z_is_bind
@[simp] theorem z_is_fn {o : List D → Option D} {t : Den (List D)} : (dFn o t ρ h).Is0 U = (t ρ h).Is0 fun ds h1 => (optR (o ds) h1).Is0 U := z_is_bind
@[simp] theorem z_is_ix {f g : Den D} : (dIx f g ρ h).Is0 U = (f ρ h).Is0 fun d h1 => (g ρ h1).Is0 fun e h2 => (optR (ixA (atR d h2) e) h2).Is0 U := by
  unfold dIx; simp only [z_is_bind]
@[simp] theorem z_is_len {f : Den D} : (dLen f ρ h).Is0 U = (f ρ h).Is0 fun d h1 => (optR ((lenA (atR d h1)).map fun n => .int (n : Nat)) h1).Is0 U := z_is_bind
@[simp] theorem z_is_in {f g : Den D} : (dIn g f ρ h).Is0 U = (g ρ h).Is0 fun e h1 => (f ρ h1).Is0 fun d h2 => (optR ((inA e (atR d h2)).map .bl) h2).Is0 U := by
  unfold dIn; simp only [z_is_bind]
@[simp] theorem z_is_nin {f g : Den D} : (dNin g f ρ h).Is0 U = (g ρ h).Is0 fun e h1 => (f ρ h1).Is0 fun d h2 => (optR ((inA e (atR d h2)).map fun b => .bl (!b)) h2).Is0 U := by
  unfold dNin; simp only [z_is_bind]
@[simp] theorem z_is_cons {f : Den D} {g : Den (List D)} {P : List D → Hl → Prop} : (dCons f g ρ h).Is0 P = (f ρ h).Is0 fun d h1 => (g ρ h1).Is0 fun ds h2 => P (d :: ds) h2 := by
  unfold dCons; simp only [z_is_bind, z_Res_is_ok]
@[simp] theorem z_is_nil {P : List D → Hl → Prop} : (dNil ρ h).Is0 P = P [] h := rfl
@[simp] theorem z_is_star {f : Den D} {g : Den (List D)} {P : List D → Hl → Prop} : (dStar f g ρ h).Is0 P = (f ρ h).Is0 fun d h1 => (optR (itemsD d) h1).Is0 fun xs h1 => (g ρ h1).Is0 fun ds h2 => P (xs ++ ds) h2 := by
  unfold dStar; simp only [z_is_bind, z_Res_is_ok]
@[simp] theorem z_is_c {d : D} : (dC d ρ h).Is0 U = U d h := rfl
@[simp] theorem z_is_lst {g : Den (List D)} : (dLst g ρ h).Is0 U = (g ρ h).Is0 fun ds h1 => ds.length ≤ 16777216 ∧ U (.lst ds) h1 := by
  unfold dLst; rw [z_is_bind]; congr; funext ds h1; split <;> simp [*]
@[simp] theorem z_is_tup {g : Den (List D)} : (dTup g ρ h).Is0 U = (g ρ h).Is0 fun ds h1 => ds.length ≤ 16777216 ∧ U (.tup ds) h1 := by
  unfold dTup; rw [z_is_bind]; congr; funext ds h1; split <;> simp [*]
@[simp] theorem z_is_B {f : Den D} {P : Bool → Hl → Prop} : (dB f ρ h).Is0 P = (f ρ h).Is0 fun d h1 => BlI d fun b => P b h1 := by
  unfold dB; rw [z_is_bind]; congr; funext d h1
  cases d <;> rfl
@[simp] theorem z_is_and {f g : Den Bool} {P : Bool → Hl → Prop} : (dAnd f g ρ h).Is0 P = (f ρ h).Is0 fun b h1 => if b = true then (g ρ h1).Is0 P else P false h1 := by
  unfold dAnd; rw [z_is_bind]; congr; funext d h1; cases d <;> rfl
@[simp] theorem z_is_or {f g : Den Bool} {P : Bool → Hl → Prop} : (dOr f g ρ h).Is0 P = (f ρ h).Is0 fun b h1 => if b = true then P true h1 else (g ρ h1).Is0 P := by
  unfold dOr; rw [z_is_bind]; congr; funext d h1; cases d <;> rfl
@[simp] theorem z_is_not {f : Den Bool} {P : Bool → Hl → Prop} : (dNot f ρ h).Is0 P = (f ρ h).Is0 fun b h1 => P (!b) h1 := z_is_bind
@[simp] theorem z_is_dif {c : Den Bool} {f g : Den D} : (dIf c f g ρ h).Is0 U = (c ρ h).Is0 fun b h1 => if b = true then (f ρ h1).Is0 U else (g ρ h1).Is0 U := by
  unfold dIf; rw [z_is_bind]; congr; funext d h1; cases d <;> rfl
@[simp] theorem z_is_andV {f g : Den D} : (dAndV f g ρ h).Is0 U = (f ρ h).Is0 fun d h1 => BlI d fun b => if b = true then (g ρ h1).Is0 U else U (.bl false) h1 := by
  unfold dAndV; rw [z_is_bind]; congr; funext d h1
  cases d <;> try rfl
  rename_i b; cases b <;> rfl
@[simp] theorem z_is_orV {f g : Den D} : (dOrV f g ρ h).Is0 U = (f ρ h).Is0 fun d h1 => BlI d fun b => if b = true then U (.bl true) h1 else (g ρ h1).Is0 U := by
  unfold dOrV; rw [z_is_bind]; congr; funext d h1
  cases d <;> try rfl
  rename_i b; cases b <;> rfl
@[simp] theorem z_is_over {o : D → Option (List D)} {f : Den D} {P : List D → Hl → Prop} : (dOver o f ρ h).Is0 P = (f ρ h).Is0 fun d h1 => (optR (o d) h1).Is0 P := z_is_bind
@[simp] theorem z_is_overA {o : List D → Option (List D)} {f : Den (List D)} {P : List D → Hl → Prop} : (dOverA o f ρ h).Is0 P = (f ρ h).Is0 fun d h1 => (optR (o d) h1).Is0 P := z_is_bind
@[simp] theorem z_is_for {f : Den (List D)} {tg : Tg} {b : SDen} : (sFor f tg b ρ h).Is0 S = (f ρ h).Is0 fun ds h1 => (loopS tg b ds ρ h1).Is0 S := z_is_sBind
@[simp] theorem z_is_asg {f : Den D} {g : Tg} : (sAsg f g ρ h).Is0 S = (f ρ h).Is0 fun d h1 => TgI (g d ρ h1) fun ρ2 h2 => S .next ρ2 h2 := by
  unfold sAsg; rw [z_is_sBind]; congr; funext d h1
  cases g d ρ h1 <;> rfl
@[simp] theorem z_is_par {f : Den (List D)} {i j : Nat} : (sPar f i j ρ h).Is0 S = (f ρ h).Is0 fun ds h1 => TwoI ds fun d e => S .next ((ρ.set i (.v d)).set j (.v e)) h1 := by
  unfold sPar; rw [z_is_sBind]; congr; funext ds h1
  match ds with
  | [] => rfl
  | [_] => rfl
  | [d, e] => rfl
  | _ :: _ :: _ :: _ => rfl
@[simp] theorem z_is_parO {f g : Den D} {i j : Nat} : (sParO f g i j ρ h).Is0 S = (f ρ h).Is0 fun d h1 => (g ρ h1).Is0 fun e h2 => S .next ((ρ.set i (.v d)).set j (.own e)) h2 := by
  unfold sParO; simp only [z_is_sBind, z_SRes_is_ok]
@[simp] theorem z_is_frz {i : Nat} {g : SDen} : (sFrz i g ρ h).Is0 S = (g (sFreeze i ρ) h).Is0 S := rfl
@[simp] theorem z_is_app {i : Nat} {f : Den D} : (sApp i f ρ h).Is0 S = (viewL i ρ h = true ∧ (f ρ h).Is0 fun d h1 => TgI (chg i (fun o => appD o d) ρ h1) fun ρ2 h2 => S .next ρ2 h2) := by
  unfold sApp
  split
  · rename_i c
    rw [z_is_sBind]
    simp only [c, true_and]
    congr; funext d h1
    cases chg i (fun o => appD o d) ρ h1 <;> rfl
  · rename_i c; simp [c]
@[simp] theorem z_is_comp {vs : List Nat} {f : Den (List D)} {tg : Tg} {c : Den Bool} {e : Den D} : (dComp vs f tg c e ρ h).Is0 U = (f ρ h).Is0 fun ds h1 => (cmpS tg c e (wipeR ρ vs) ds [] h1).Is0 fun xs h2 => U (.lst xs) h2 := by
  unfold dComp; simp only [z_is_bind, z_Res_is_ok]
@[simp] theorem z_is_mt {g : D → Bool} {o : D → List D → Option D} {f : Den D} {t : Den (List D)} : (dMt g o f t ρ h).Is0 U = (f ρ h).Is0 fun d h1 => g d = true ∧ (t ρ h1).Is0 fun ds h2 => (optR (o d ds) h2).Is0 U := by
  unfold dMt; rw [z_is_bind]; congr; funext d h1
  split
  · rename_i c; rw [z_is_bind]; simp [c]
  · rename_i c; simp [c]
@[simp] theorem z_is_slice {f : Den D} {lo hi : Den (Option Int)} : (dSlice f lo hi ρ h).Is0 U = (f ρ h).Is0 fun d h1 => (lo ρ h1).Is0 fun l h2 => (hi ρ h2).Is0 fun u h3 => (optR (sliceD l u d) h3).Is0 U := by
  unfold dSlice; simp only [z_is_bind]
@[simp] theorem z_is_part {f : Den D} {P : Option Int → Hl → Prop} : (dPart f ρ h).Is0 P = (f ρ h).Is0 fun d h1 => IntI d fun i => P (some i) h1 := by
  unfold dPart; rw [z_is_bind]; congr; funext d h1
  cases d <;> rfl
@[simp] theorem z_is_noPart {P : Option Int → Hl → Prop} : (dNoPart ρ h).Is0 P = P none h := rfl
@[simp] theorem z_is_yes {P : Bool → Hl → Prop} : (dYes ρ h).Is0 P = P true h := rfl
@[simp] theorem z_is_fld {cs : List Str} {f : Str} {g : Den D} : (dFld cs f g ρ h).Is0 U = (g ρ h).Is0 fun d h1 => (optR (fldD cs f (atR d h1)) h1).Is0 U := z_is_bind
@[simp] theorem z_is_var {i : Nat} : (dVar i ρ h).Is0 U = SlI ρ[i]? fun d => U d h := by
  unfold dVar
  cases e : ρ[i]? with
  | none => rfl
  | some s => cases s <;> rfl
@[simp] theorem z_is_view {i : Nat} : (dView i ρ h).Is0 U = VwI ρ[i]? fun d => U d h := by
  unfold dView
  cases e : ρ[i]? with
  | none => rfl
  | some s => cases s <;> rfl
@[simp] theorem z_is_next : (sNext ρ h).Is0 S = S .next ρ h := rfl
@[simp] theorem z_is_new {t : Bool} : (dNew t ρ h).Is0 U = U (.dct t []) h := rfl
@[simp] theorem z_is_some {a : α} : (optR (some a) h).Is0 P = P a h := rfl
@[simp] theorem z_is_opt_ite {c : Prop} [Decidable c] {a : α} : (optR (if c then some a else none) h).Is0 P = (c ∧ P a h) := by
  split
  · rename_i z; simp [z]
  · rename_i z; simp [z, optR]
@[simp] theorem z_is_sub {i : Nat} {k : Den D} {d : D} {W : Rho → Hl → Prop} : TgI (gSub i k d ρ h) W = (k ρ h).Is0 fun e h1 => TgI (chg i (fun o => putD o e d) ρ h1) W := by
  unfold gSub
  cases r : k ρ h <;> rfl
theorem z_chg_ref {i r : Nat} {f : D → Option D} {o : D} {q : O} {d : D} (e1 : ρ[i]? = some (.v (.ref r))) (e2 : atR (.ref r) h = o) (e3 : f o = some d) (e4 : oD d = some q) : chg i f ρ h = some (ρ, h.set r q) := by
  unfold chg
  rw [e1]
  simp only [e2, e3, Option.bind_some, e4, Option.map_some]
theorem z_chg_own {i : Nat} {f : D → Option D} {o d : D} (e1 : ρ[i]? = some (.own o)) (e3 : f o = some d) : chg i f ρ h = some (ρ.set i (.own d), h) := by
  unfold chg
  rw [e1]
  simp only [e3, Option.map_some]
end
/-- the same, not to be unfolded -/
structure Res.Is {α : Type} (r : Res α) (P : α → Hl → Prop) : Prop where
  go : r.Is0 P
structure SRes.Is (r : SRes) (P : Fl → Rho → Hl → Prop) : Prop where
  go : r.Is0 P
theorem Res.is_eq {α : Type} {r : Res α} {P : α → Hl → Prop} : r.Is P = r.Is0 P := propext ⟨fun z => z.go, fun z => ⟨z⟩⟩
theorem SRes.is_eq {r : SRes} {P : Fl → Rho → Hl → Prop} : r.Is P = r.Is0 P := propext ⟨fun z => z.go, fun z => ⟨z⟩⟩
section
variable {α β : Type} {h : Hl} {ρ : Rho} {P : α → Hl → Prop} {Q : β → Hl → Prop} {S : Fl → Rho → Hl → Prop} {U : D → Hl → Prop}
theorem Res.Is.mono {r : Res α} {P Q : α → Hl → Prop} (i : r.Is P) (k : ∀ a h, P a h → Q a h) : r.Is Q := ⟨z_Res_Is0_mono i.go k⟩
theorem SRes.Is.mono {r : SRes} {P Q : Fl → Rho → Hl → Prop} (i : r.Is P) (k : ∀ f ρ h, P f ρ h → Q f ρ h) : r.Is Q := ⟨z_SRes_Is0_mono i.go k⟩
theorem Res.Is.of_eq {r : Res α} {a : α} {P : α → Hl → Prop} (e : r = .ok a h) (p : P a h) : r.Is P := ⟨z_Res_Is0_of_eq e p⟩
@[simp] theorem Res.is_ok {a : α} : (Res.ok a h).Is P = P a h := by
  simp only [Res.is_eq, SRes.is_eq]; exact z_Res_is_ok
@[simp] theorem Res.is_bad : (Res.bad : Res α).Is P = False := by
  simp only [Res.is_eq, SRes.is_eq]; exact z_Res_is_bad
@[simp] theorem SRes.is_ok {f : Fl} : (SRes.ok f ρ h).Is S = S f ρ h := by
  simp only [Res.is_eq, SRes.is_eq]; exact z_SRes_is_ok
@[simp] theorem SRes.is_bad : SRes.bad.Is S = False := by
  simp only [Res.is_eq, SRes.is_eq]; exact z_SRes_is_bad
@[simp] theorem is_bind {r : Res α} {f : α → Hl → Res β} : (r.bind f).Is Q = r.Is fun a h => (f a h).Is Q := by
  simp only [Res.is_eq, SRes.is_eq]; exact z_is_bind
@[simp] theorem is_sBind {r : Res α} {k : α → Hl → SRes} : (sBind r ρ k).Is S = r.Is fun a h => (k a h).Is S := by
  simp only [Res.is_eq, SRes.is_eq]; exact z_is_sBind
@[simp] theorem is_seq {f g : SDen} : (sSeq f g ρ h).Is S = (f ρ h).Is fun fl ρ1 h1 => fl.go ((g ρ1 h1).Is S) fun fl => S fl ρ1 h1 := by
  simp only [Res.is_eq, SRes.is_eq]; exact z_is_seq
theorem is_runB {N : Nat} {b : SDen} {ds : List D} : (runB N b ds h).Is U = (b (ds.map .v ++ List.replicate (N - ds.length) .no) h).Is fun fl _ h1 => fl.out fun d => U d h1 := by
  simp only [Res.is_eq, SRes.is_eq]; exact z_is_runB
@[simp] theorem is_expr {f : Den D} : (sExpr f ρ h).Is S = (f ρ h).Is fun _ h1 => S .next ρ h1 := by
  simp only [Res.is_eq, SRes.is_eq]; exact z_is_expr
@[simp] theorem is_ret {f : Den D} : (sRet f ρ h).Is S = (f ρ h).Is fun d h1 => S (.ret d) ρ h1 := by
  simp only [Res.is_eq, SRes.is_eq]; exact z_is_ret
@[simp] theorem is_set {i : Nat} {f : Den D} : (sSet i f ρ h).Is S = (f ρ h).Is fun d h1 => S .next (ρ.set i (.v d)) h1 := by
  simp only [Res.is_eq, SRes.is_eq]; exact z_is_set
@[simp] theorem is_own {i : Nat} {f : Den D} : (sOwn i f ρ h).Is S = (f ρ h).Is fun d h1 => S .next (ρ.set i (.own d)) h1 := by
  simp only [Res.is_eq, SRes.is_eq]; exact z_is_own
@[simp] theorem ite_is {c : Bool} {x y : SRes} : (if c = true then x else y).Is S = if c = true then x.Is S else y.Is S := by
  simp only [Res.is_eq, SRes.is_eq]; exact z_ite_is
@[simp] theorem is_if {c : Den Bool} {f g : SDen} : (sIf c f g ρ h).Is S = (c ρ h).Is fun b h1 => if b = true then (f ρ h1).Is S else (g ρ h1).Is S := by
  simp only [Res.is_eq, SRes.is_eq]; exact z_is_if
@[simp] theorem is_call {g : List D → Hl → Res D} {t : Den (List D)} : (dCall g t ρ h).Is U = (t ρ h).Is fun ds h1 => (g ds h1).Is U := by
  simp only [Res.is_eq, SRes.is_eq]; exact z_is_call
theorem is_optR {o : Option α} : (optR o h).Is P = ∃ a, o = some a ∧ P a h := by
  simp only [Res.is_eq, SRes.is_eq]; exact z_is_optR
@[simp] theorem is_bin {o : D → D → Option D} {f g : Den D} : (dBin o f g ρ h).Is U = (f ρ h).Is fun d h1 => (g ρ h1).Is fun e h2 => (optR (o d e) h2).Is U := by
  simp only [Res.is_eq, SRes.is_eq]; exact z_is_bin
@[simp] theorem is_un {o : D → Option D} {f : Den D} : (dUn o f ρ h).Is U = (f ρ h).Is fun d h1 => (optR (o d) h1).Is U := by
  simp only [Res.is_eq, SRes.is_eq]; exact z_is_un
@[simp] theorem is_fn {o : List D → Option D} {t : Den (List D)} : (dFn o t ρ h).Is U = (t ρ h).Is fun ds h1 => (optR (o ds) h1).Is U := by
  simp only [Res.is_eq, SRes.is_eq]; exact z_is_fn
@[simp] theorem is_ix {f g : Den D} : (dIx f g ρ h).Is U = (f ρ h).Is fun d h1 => (g ρ h1).Is fun e h2 => (optR (ixA (atR d h2) e) h2).Is U := by
  simp only [Res.is_eq, SRes.is_eq]; exact z_is_ix
@[simp] theorem is_len {f : Den D} : (dLen f ρ h).Is U = (f ρ h).Is fun d h1 => (optR ((lenA (atR d h1)).map fun n => .int (n : Nat)) h1).Is U := by
  simp only [Res.is_eq, SRes.is_eq]; exact z_is_len
@[simp] theorem is_in {f g : Den D} : (dIn g f ρ h).Is U = (g ρ h).Is fun e h1 => (f ρ h1).Is fun d h2 => (optR ((inA e (atR d h2)).map .bl) h2).Is U := by
  simp only [Res.is_eq, SRes.is_eq]; exact z_is_in
@[simp] theorem is_nin {f g : Den D} : (dNin g f ρ h).Is U = (g ρ h).Is fun e h1 => (f ρ h1).Is fun d h2 => (optR ((inA e (atR d h2)).map fun b => .bl (!b)) h2).Is U := by
  simp only [Res.is_eq, SRes.is_eq]; exact z_is_nin
@[simp] theorem is_cons {f : Den D} {g : Den (List D)} {P : List D → Hl → Prop} : (dCons f g ρ h).Is P = (f ρ h).Is fun d h1 => (g ρ h1).Is fun ds h2 => P (d :: ds) h2 := by
  simp only [Res.is_eq, SRes.is_eq]; exact z_is_cons
@[simp] theorem is_nil {P : List D → Hl → Prop} : (dNil ρ h).Is P = P [] h := by
  simp only [Res.is_eq, SRes.is_eq]; exact z_is_nil
@[simp] theorem is_star {f : Den D} {g : Den (List D)} {P : List D → Hl → Prop} : (dStar f g ρ h).Is P = (f ρ h).Is fun d h1 => (optR (itemsD d) h1).Is fun xs h1 => (g ρ h1).Is fun ds h2 => P (xs ++ ds) h2 := by
  simp only [Res.is_eq, SRes.is_eq]; exact z_is_star
@[simp] theorem is_c {d : D} : (dC d ρ h).Is U = U d h := by
  simp only [Res.is_eq, SRes.is_eq]; exact z_is_c
@[simp] theorem is_lst {g : Den (List D)} : (dLst g ρ h).Is U = (g ρ h).Is fun ds h1 => ds.length ≤ 16777216 ∧ U (.lst ds) h1 := by
  simp only [Res.is_eq, SRes.is_eq]; exact z_is_lst
@[simp] theorem is_tup {g : Den (List D)} : (dTup g ρ h).Is U = (g ρ h).Is fun ds h1 => ds.length ≤ 16777216 ∧ U (.tup ds) h1 := by
  simp only [Res.is_eq, SRes.is_eq]; exact z_is_tup
@[simp] theorem is_B {f : Den D} {P : Bool → Hl → Prop} : (dB f ρ h).Is P = (f ρ h).Is fun d h1 => BlI d fun b => P b h1 := by
  simp only [Res.is_eq, SRes.is_eq]; exact z_is_B
@[simp] theorem is_and {f g : Den Bool} {P : Bool → Hl → Prop} : (dAnd f g ρ h).Is P = (f ρ h).Is fun b h1 => if b = true then (g ρ h1).Is P else P false h1 := by
  simp only [Res.is_eq, SRes.is_eq]; exact z_is_and
@[simp] theorem is_or {f g : Den Bool} {P : Bool → Hl → Prop} : (dOr f g ρ h).Is P = (f ρ h).Is fun b h1 => if b = true then P true h1 else (g ρ h1).Is P := by
  simp only [Res.is_eq, SRes.is_eq]; exact z_is_or
@[simp] theorem is_not {f : Den Bool} {P : Bool → Hl → Prop} : (dNot f ρ h).Is P = (f ρ h).Is fun b h1 => P (!b) h1 := by
  simp only [Res.is_eq, SRes.is_eq]; exact z_is_not
@[simp] theorem is_dif {c : Den Bool} {f g : Den D} : (dIf c f g ρ h).Is U = (c ρ h).Is fun b h1 => if b = true then (f ρ h1).Is U else (g ρ h1).Is U := by
  simp only [Res.is_eq, SRes.is_eq]; exact z_is_dif
@[simp] theorem is_andV {f g : Den D} : (dAndV f g ρ h).Is U = (f ρ h).Is fun d h1 => BlI d fun b => if b = true then (g ρ h1).Is U else U (.bl false) h1 := by
  simp only [Res.is_eq, SRes.is_eq]; exact z_is_andV
@[simp] theorem is_orV {f g : Den D} : (dOrV f g ρ h).Is U = (f ρ h).Is fun d h1 => BlI d fun b => if b = true then U (.bl true) h1 else (g ρ h1).Is U := by
  simp only [Res.is_eq, SRes.is_eq]; exact z_is_orV
@[simp] theorem is_over {o : D → Option (List D)} {f : Den D} {P : List D → Hl → Prop} : (dOver o f ρ h).Is P = (f ρ h).Is fun d h1 => (optR (o d) h1).Is P := by
  simp only [Res.is_eq, SRes.is_eq]; exact z_is_over
@[simp] theorem is_overA {o : List D → Option (List D)} {f : Den (List D)} {P : List D → Hl → Prop} : (dOverA o f ρ h).Is P = (f ρ h).Is fun d h1 => (optR (o d) h1).Is P := by
  simp only [Res.is_eq, SRes.is_eq]; exact z_is_overA
@[simp] theorem is_for {f : Den (List D)} {tg : Tg} {b : SDen} : (sFor f tg b ρ h).Is S = (f ρ h).Is fun ds h1 => (loopS tg b ds ρ h1).Is S := by
  simp only [Res.is_eq, SRes.is_eq]; exact z_is_for
@[simp] theorem is_asg {f : Den D} {g : Tg} : (sAsg f g ρ h).Is S = (f ρ h).Is fun d h1 => TgI (g d ρ h1) fun ρ2 h2 => S .next ρ2 h2 := by
  simp only [Res.is_eq, SRes.is_eq]; exact z_is_asg
@[simp] theorem is_par {f : Den (List D)} {i j : Nat} : (sPar f i j ρ h).Is S = (f ρ h).Is fun ds h1 => TwoI ds fun d e => S .next ((ρ.set i (.v d)).set j (.v e)) h1 := by
  simp only [Res.is_eq, SRes.is_eq]; exact z_is_par
@[simp] theorem is_parO {f g : Den D} {i j : Nat} : (sParO f g i j ρ h).Is S = (f ρ h).Is fun d h1 => (g ρ h1).Is fun e h2 => S .next ((ρ.set i (.v d)).set j (.own e)) h2 := by
  simp only [Res.is_eq, SRes.is_eq]; exact z_is_parO
@[simp] theorem is_frz {i : Nat} {g : SDen} : (sFrz i g ρ h).Is S = (g (sFreeze i ρ) h).Is S := by
  simp only [Res.is_eq, SRes.is_eq]; exact z_is_frz
@[simp] theorem is_app {i : Nat} {f : Den D} : (sApp i f ρ h).Is S = (viewL i ρ h = true ∧ (f ρ h).Is fun d h1 => TgI (chg i (fun o => appD o d) ρ h1) fun ρ2 h2 => S .next ρ2 h2) := by
  simp only [Res.is_eq, SRes.is_eq]; exact z_is_app
@[simp] theorem is_comp {vs : List Nat} {f : Den (List D)} {tg : Tg} {c : Den Bool} {e : Den D} : (dComp vs f tg c e ρ h).Is U = (f ρ h).Is fun ds h1 => (cmpS tg c e (wipeR ρ vs) ds [] h1).Is fun xs h2 => U (.lst xs) h2 := by
  simp only [Res.is_eq, SRes.is_eq]; exact z_is_comp
@[simp] theorem is_mt {g : D → Bool} {o : D → List D → Option D} {f : Den D} {t : Den (List D)} : (dMt g o f t ρ h).Is U = (f ρ h).Is fun d h1 => g d = true ∧ (t ρ h1).Is fun ds h2 => (optR (o d ds) h2).Is U := by
  simp only [Res.is_eq, SRes.is_eq]; exact z_is_mt
@[simp] theorem is_slice {f : Den D} {lo hi : Den (Option Int)} : (dSlice f lo hi ρ h).Is U = (f ρ h).Is fun d h1 => (lo ρ h1).Is fun l h2 => (hi ρ h2).Is fun u h3 => (optR (sliceD l u d) h3).Is U := by
  simp only [Res.is_eq, SRes.is_eq]; exact z_is_slice
@[simp] theorem is_part {f : Den D} {P : Option Int → Hl → Prop} : (dPart f ρ h).Is P = (f ρ h).Is fun d h1 => IntI d fun i => P (some i) h1 := by
  simp only [Res.is_eq, SRes.is_eq]; exact z_is_part
@[simp] theorem is_noPart {P : Option Int → Hl → Prop} : (dNoPart ρ h).Is P = P none h := by
  simp only [Res.is_eq, SRes.is_eq]; exact z_is_noPart
@[simp] theorem is_yes {P : Bool → Hl → Prop} : (dYes ρ h).Is P = P true h := by
  simp only [Res.is_eq, SRes.is_eq]; exact z_is_yes
@[simp] theorem is_fld {cs : List Str} {f : Str} {g : Den D} : (dFld cs f g ρ h).Is U = (g ρ h).Is fun d h1 => (optR (fldD cs f (atR d h1)) h1).Is U := by
  simp only [Res.is_eq, SRes.is_eq]; exact z_is_fld
@[simp] theorem is_var {i : Nat} : (dVar i ρ h).Is U = SlI ρ[i]? fun d => U d h := by
  simp only [Res.is_eq, SRes.is_eq]; exact z_is_var
@[simp] theorem is_view {i : Nat} : (dView i ρ h).Is U = VwI ρ[i]? fun d => U d h := by
  simp only [Res.is_eq, SRes.is_eq]; exact z_is_view
@[simp] theorem is_next : (sNext ρ h).Is S = S .next ρ h := by
  simp only [Res.is_eq, SRes.is_eq]; exact z_is_next
@[simp] theorem is_new {t : Bool} : (dNew t ρ h).Is U = U (.dct t []) h := by
  simp only [Res.is_eq, SRes.is_eq]; exact z_is_new
@[simp] theorem is_some {a : α} : (optR (some a) h).Is P = P a h := by
  simp only [Res.is_eq, SRes.is_eq]; exact z_is_some
@[simp] theorem is_opt_ite {c : Prop} [Decidable c] {a : α} : (optR (if c then some a else none) h).Is P = (c ∧ P a h) := by
  simp only [Res.is_eq, SRes.is_eq]; exact z_is_opt_ite
@[simp] theorem is_sub {i : Nat} {k : Den D} {d : D} {W : Rho → Hl → Prop} : TgI (gSub i k d ρ h) W = (k ρ h).Is fun e h1 => TgI (chg i (fun o => putD o e d) ρ h1) W := by
  simp only [Res.is_eq, SRes.is_eq]; exact z_is_sub
section
variable {i j : Int} {x y : Str} {xs ys ds : List D} {b : Bool} {d e : D}
@[simp] theorem add_ii : addD (.int i) (.int j) = some (.int (i + j)) := rfl
@[simp] theorem add_ss : addD (.str x) (.str y) = if x.length + y.length ≤ 16777216 then some (.str (x ++ y)) else none := rfl
@[simp] theorem add_ll : addD (.lst xs) (.lst ys) = if xs.length + ys.length ≤ 16777216 then some (.lst (xs ++ ys)) else none := rfl
@[simp] theorem mod_ii : modD (.int i) (.int j) = if 0 < j then some (.int (i % j)) else none := rfl
@[simp] theorem mul_ii : mulD (.int i) (.int j) = if (-18446744073709551616 < i ∧ i < 18446744073709551616) ∨ (-18446744073709551616 < j ∧ j < 18446744073709551616) then some (.int (i * j)) else none := rfl
@[simp] theorem fdiv_ii : fdivD (.int i) (.int j) = if 0 < j ∧ j < 1073741824 then some (.int (i / j)) else none := rfl
@[simp] theorem gt_ii : gtD (.int i) (.int j) = some (.bl (decide (j < i))) := rfl
@[simp] theorem lt_ii : ltD (.int i) (.int j) = some (.bl (decide (i < j))) := rfl
@[simp] theorem le_ii : leD (.int i) (.int j) = some (.bl (decide (i ≤ j))) := rfl
@[simp] theorem ge_ii : geD (.int i) (.int j) = some (.bl (decide (j ≤ i))) := rfl
@[simp] theorem eq_ii : eqD (.int i) (.int j) = some (.bl (decide (i = j))) := rfl
@[simp] theorem eq_ss : eqD (.str x) (.str y) = some (.bl (decide (x = y))) := rfl
@[simp] theorem ne_ss : neD (.str x) (.str y) = some (.bl (!decide (x = y))) := rfl
@[simp] theorem int_i : intF [.int i] = some (.int i) := rfl
@[simp] theorem abs_i : absF [.int i] = some (.int (if i < 0 then -i else i)) := rfl
@[simp] theorem max_ii : maxF [.int i, .int j] = some (.int (if j > i then j else i)) := rfl
@[simp] theorem min_ii : minF [.int i, .int j] = some (.int (if j < i then j else i)) := rfl
@[simp] theorem divmod_ii : divmodF [.int i, .int j] = if 0 < j ∧ j < 1073741824 then some (.tup [.int (i / j), .int (i % j)]) else none := rfl
@[simp] theorem ixA_l : ixA (.lst xs) d = ixD (.lst xs) d := rfl
@[simp] theorem ixA_t : ixA (.tup xs) d = ixD (.tup xs) d := rfl
@[simp] theorem ixA_k : ixA (.kup xs) d = ixD (.kup xs) d := rfl
@[simp] theorem ixD_l : ixD (.lst xs) (.int i) = atI xs i := rfl
@[simp] theorem ixD_t : ixD (.tup xs) (.int i) = atI xs i := rfl
@[simp] theorem ixD_k : ixD (.kup xs) (.int i) = atI xs i := rfl
@[simp] theorem put_l : putD (.lst xs) (.int i) d = (ixN xs.length i).map fun n => .lst (xs.set n d) := rfl
@[simp] theorem oD_l : oD (.lst xs) = some (.lst xs) := rfl
@[simp] theorem iter_l : iterD (.lst xs) = some xs := rfl
@[simp] theorem iter_t : iterD (.tup xs) = some xs := rfl
@[simp] theorem iter_k : iterD (.kup xs) = some xs := rfl
@[simp] theorem itm_l : itemsD (.lst xs) = some xs := rfl
@[simp] theorem itm_t : itemsD (.tup xs) = some xs := rfl
@[simp] theorem lenA_l : lenA (.lst xs) = some xs.length := rfl
@[simp] theorem lenA_t : lenA (.tup xs) = some xs.length := rfl
@[simp] theorem app_l : appD (.lst xs) d = if xs.length < 16777216 then some (.lst (xs ++ [d])) else none := rfl
@[simp] theorem rng_i : rngD [.int i] = if -(2 ^ 62) ≤ i ∧ i < 2 ^ 62 then some ((List.range i.toNat).map fun k => .int (k : Nat)) else none := rfl
@[simp] theorem atR_l {h : Hl} : atR (.lst xs) h = .lst xs := rfl
@[simp] theorem atR_t {h : Hl} : atR (.tup xs) h = .tup xs := rfl
@[simp] theorem atR_k {h : Hl} : atR (.kup xs) h = .kup xs := rfl
@[simp] theorem atR_d {h : Hl} {t : Bool} {kvs : List (DK × D)} : atR (.dct t kvs) h = .dct t kvs := rfl
@[simp] theorem atR_s {h : Hl} : atR (.str x) h = .str x := rfl
@[simp] theorem atR_n {h : Hl} {c : Str} {fs : List (Str × D)} : atR (.ins c fs) h = .ins c fs := rfl
theorem atR_at {h : Hl} {r : Nat} (e : h[r]? = some (.lst xs)) : atR (.ref r) h = .lst xs := by simp [atR, e]
theorem atR_set {h : Hl} {r : Nat} (e : r < h.length) : atR (.ref r) (h.set r (.lst xs)) = .lst xs := atR_at (by simp [e])
theorem atI_of {α : Type} {xs : List α} {i : Int} {n : Nat} (e : ixN xs.length i = some n) : atI xs i = xs[n]? := by unfold atI; rw [e]; rfl
@[simp] theorem slot_q {i : Nat} {ρ : Rho} {h : Hl} {W : Rho → Hl → Prop} : TgI (gSlot i d ρ h) W = W (ρ.set i (.v d)) h := rfl
@[simp] theorem items_q {n : Nat} {gs : Tgs} {ρ : Rho} {h : Hl} {W : Rho → Hl → Prop} : TgI (gItems n gs (.tup xs) ρ h) W = (xs.length = n ∧ TgI (gs xs ρ h) W) := by
  unfold gItems
  by_cases c : xs.length = n <;> simp [c, TgI]
@[simp] theorem items_l {n : Nat} {gs : Tgs} {ρ : Rho} {h : Hl} {W : Rho → Hl → Prop} : TgI (gItems n gs (.lst xs) ρ h) W = (xs.length = n ∧ TgI (gs xs ρ h) W) := by
  unfold gItems
  by_cases c : xs.length = n <;> simp [c, TgI]
@[simp] theorem gcons_q {g : Tg} {gs : Tgs} {ρ : Rho} {h : Hl} {W : Rho → Hl → Prop} : TgI (gsCons g gs (d :: xs) ρ h) W = TgI (g d ρ h) fun ρ1 h1 => TgI (gs xs ρ1 h1) W := by
  have u : gsCons g gs (d :: xs) ρ h = match g d ρ h with
    | some (ρ1, h1) => gs xs ρ1 h1
    | none => none := rfl
  rw [u]
  cases g d ρ h <;> rfl
@[simp] theorem gnil_q {ρ : Rho} {h : Hl} {W : Rho → Hl → Prop} : TgI (gsNil [] ρ h) W = W ρ h := rfl
end
/-- a statement that does just this -/
theorem seq_to {f g : SDen} {ρ1 : Rho} {h1 : Hl} (e : f ρ h = .ok .next ρ1 h1) (k : (g ρ1 h1).Is S) : (sSeq f g ρ h).Is S := by
  rw [is_seq, e, SRes.is_ok]; exact k
theorem seq_is {f g : SDen} (W : Rho → Hl → Prop) (e : (f ρ h).Is fun fl ρ1 h1 => fl = .next ∧ W ρ1 h1) (k : ∀ ρ1 h1, W ρ1 h1 → (g ρ1 h1).Is S) : (sSeq f g ρ h).Is S := by
  rw [is_seq]
  exact e.mono fun fl ρ1 h1 ⟨a, b⟩ => by subst a; exact k ρ1 h1 b
theorem seq_eq {f g : SDen} {ρ1 : Rho} {h1 : Hl} (e : (f ρ h).Is fun fl r2 h2 => fl = .next ∧ r2 = ρ1 ∧ h2 = h1) (k : (g ρ1 h1).Is S) : (sSeq f g ρ h).Is S :=
  seq_is (fun r2 h2 => r2 = ρ1 ∧ h2 = h1) e fun _ _ ⟨a, b⟩ => by subst a b; exact k
/-- a loop: what holds ahead of each turn -/
theorem z_loop {tg : Tg} {b : SDen} (J : Nat → Rho → Hl → Prop) : ∀ {ds : List D} {n : Nat} {ρ : Rho} {h : Hl}, J n ρ h →
    (∀ (i : Nat) (d : D) (ρ : Rho) (h : Hl), ds[i]? = some d → J (n + i) ρ h → TgI (tg d ρ h) fun ρ1 h1 => (b ρ1 h1).Is0 fun fl ρ2 h2 => (fl = .next ∨ fl = .cont) ∧ J (n + i + 1) ρ2 h2) →
    (∀ ρ h, J (n + ds.length) ρ h → S .next ρ h) → (loopS tg b ds ρ h).Is0 S
  | [], n, ρ, h, j, _, k => k ρ h j
  | d :: ds, n, ρ, h, j, st, k => by
    have i := st 0 d ρ h rfl j
    unfold loopS
    cases e : tg d ρ h with
    | none => rw [e] at i; exact i.elim
    | some q =>
    rw [e] at i
    obtain ⟨ρ1, h1⟩ := q
    simp only [TgI_some] at i ⊢
    cases r : b ρ1 h1 with
    | ok fl ρ2 h2 =>
      rw [r] at i
      obtain ⟨c, j2⟩ := i
      have rest : (loopS tg b ds ρ2 h2).Is0 S := z_loop J (n := n + 1) j2 (fun i d ρ h e2 j3 => by
        have := st (i + 1) d ρ h e2 (by rw [show n + (i + 1) = n + 1 + i by omega]; exact j3)
        rw [show n + (i + 1) + 1 = n + 1 + i + 1 by omega] at this
        exact this) fun ρ h j3 => k ρ h (by rw [List.length_cons, show n + (ds.length + 1) = n + 1 + ds.length by omega]; exact j3)
      rcases c with rfl | rfl <;> exact rest
    | _ => rw [r] at i; exact i.elim
/-- a loop: what holds ahead of each turn -/
theorem is_loop {tg : Tg} {b : SDen} (J : Nat → Rho → Hl → Prop)  {ds : List D} {n : Nat} {ρ : Rho} {h : Hl} (j0 : J n ρ h)
    (st : ∀ (i : Nat) (d : D) (ρ : Rho) (h : Hl), ds[i]? = some d → J (n + i) ρ h → TgI (tg d ρ h) fun ρ1 h1 => (b ρ1 h1).Is fun fl ρ2 h2 => (fl = .next ∨ fl = .cont) ∧ J (n + i + 1) ρ2 h2)
    (k : ∀ ρ h, J (n + ds.length) ρ h → S .next ρ h) : (loopS tg b ds ρ h).Is S :=
  ⟨z_loop J j0 (fun i d ρ h e j => by have := st i d ρ h e j; simp only [SRes.is_eq] at this; exact this) k⟩
end
end Pf
end
section
set_option maxRecDepth 100000
set_option maxHeartbeats 1000000
namespace K33
open PySem PySem.Spec PyProof.Rows L2 LamX Pf
/-- the purse at r; nothing that is held holds a reference -/
structure Gd (r : Nat) (h : Hl) : Prop where
  pu : ∃ a b c : Int, h[r]? = some (.lst [.int a, .int b, .int c])
  nr : ∀ o ∈ h, noRefO o = true
theorem Gd.lt {r : Nat} {h : Hl} (p : Gd r h) : r < h.length := by
  obtain ⟨a, b, c, e⟩ := p.pu
  rcases Nat.lt_or_ge r h.length with z | z
  · exact z
  · rw [List.getElem?_eq_none z] at e; cases e
theorem Gd.set {r : Nat} {h : Hl} (p : Gd r h) (a b c : Int) : Gd r (h.set r (.lst [.int a, .int b, .int c])) := by
  refine ⟨⟨a, b, c, List.getElem?_set_self p.lt⟩, fun o ho => ?_⟩
  rcases List.mem_or_eq_of_mem_set ho with z | rfl
  · exact p.nr o z
  · rfl
theorem w_draw {r : Nat} {h : Hl} {n : Int} {P : D → Hl → Prop} (hp : Gd r h) (h0 : 0 < n) (h1 : n < 1073741824)
    (k : ∀ (i : Int) (h' : Hl) , 0 ≤ i → i < n → Gd r h' → P (.int i) h') : (runB 5 b__law_draw [.ref r, .int n] h).Is P := by
  have hr := hp.lt
  obtain ⟨a, b, c, e⟩ := hp.pu
  have m0 : ∀ z : Int, 0 ≤ z % n := fun z => Int.emod_nonneg z (by omega)
  have m1 : ∀ z : Int, z % n < n := fun z => Int.emod_lt_of_pos z h0
  have hb : ∀ z : Int, 0 ≤ z % 40009 ∧ z % 40009 < 40009 := fun z => ⟨Int.emod_nonneg z (by omega), Int.emod_lt_of_pos z (by omega)⟩
  have ea : atR (.ref r) h = .lst [.int a, .int b, .int c] := atR_at e
  have es : ∀ xs, atR (.ref r) (h.set r (.lst xs)) = .lst xs := fun xs => atR_set hr
  rw [is_runB]
  simp [b__law_draw, ea, es, atI, ixN, chg, h0, h1]
  refine ⟨.inr ⟨by have := hb b; omega, by have := hb b; omega⟩, ?_⟩
  split
  · exact k _ _ (m0 _) (m1 _) (hp.set _ _ _)
  · exact k _ _ (m0 _) (m1 _) (hp.set _ _ _)
theorem w_pick {r : Nat} {h : Hl} {ds : List D} {P : D → Hl → Prop} (hp : Gd r h) (h0 : ds ≠ []) (h1 : ds.length < 1073741824)
    (k : ∀ (d : D) (h' : Hl) , d ∈ ds → Gd r h' → P d h') : (runB 2 b__law_pick [.ref r, .lst ds] h).Is P := by
  have hl : 0 < ds.length := List.length_pos_iff.mpr h0
  rw [is_runB]
  simp [b__law_pick]
  refine w_draw (n := (ds.length : Int)) hp (by omega) (by omega) fun i h' i0 i1 hp2 => ?_
  obtain ⟨n, rfl⟩ : ∃ n : Nat, i = n := ⟨i.toNat, by omega⟩
  have hn : n < ds.length := by omega
  have e : atI ds (n : Int) = some ds[n] := by
    unfold atI ixN
    rw [if_pos (by omega), if_pos (by omega)]
    simp [hn]
  simp [e]
  exact k _ _ (List.getElem_mem hn) hp2
/-- lists of words -/
def wl (ws : List Str) : D := .lst (ws.map .str)
def menu : List (List Str) := [["put"], ["out"], ["set"], ["put", "out"], ["put", "set"], ["out", "set"], ["put", "out", "set"]]
theorem w_sorts {r : Nat} {h : Hl} {P : D → Hl → Prop} (hp : Gd r h) (k : ∀ (ws : List Str) (h' : Hl), ws ∈ menu → Gd r h' → P (wl ws) h') : (runB 4 b__law_sorts [.ref r, .int 3] h).Is P := by
  rw [is_runB]
  simp [b__law_sorts]
  refine Res.Is.of_eq (h := h) (a := menu.map wl) rfl ?_
  refine w_pick hp (by decide) (by decide) fun d h' hd hp2 => ?_
  obtain ⟨ws, hw, rfl⟩ := List.mem_map.mp hd
  exact k ws h' hw hp2
end K33
end
section
set_option maxRecDepth 100000
set_option maxHeartbeats 1000000
namespace K33
open PySem PySem.Spec PyProof.Rows L2 LamX Pf
theorem any_words {x : Str} : ∀ {ws : List Str}, ((ws.map D.str).any fun y => eqF y (.str x)) = decide (x ∈ ws)
  | [] => rfl
  | w :: ws => by
    rw [List.map_cons, List.any_cons, any_words]
    show ((w == x) || decide (x ∈ ws)) = _
    by_cases e : x = w
    · subst e; simp
    · have e2 : (w == x) = false := by simp; exact fun z => e z.symm
      simp [e2, e]
theorem flat_words : ∀ {ws : List Str}, (ws.map D.str).all flatD = true
  | [] => rfl
  | _ :: ws => by rw [List.map_cons, List.all_cons, flat_words]; rfl
theorem inSeq_w {x : Str} {ws : List Str} : inSeq (.str x) (ws.map D.str) = some (decide (x ∈ ws)) := by
  unfold inSeq
  rw [flat_words, any_words]; rfl
theorem inA_wl {x : Str} {ws : List Str} : inA (.str x) (wl ws) = some (decide (x ∈ ws)) := by
  show (match inSeq (.str x) (ws.map D.str) with
    | some b => some b
    | none => inDeep (.str x) (ws.map D.str)) = _
  rw [inSeq_w]
theorem inA_wt {x : Str} {ws : List Str} : inA (.str x) (.tup (ws.map .str)) = some (decide (x ∈ ws)) := inSeq_w
theorem inA_wk {x : Str} {ws : List Str} : inA (.str x) (.kup (ws.map .str)) = some (decide (x ∈ ws)) := inSeq_w
theorem inA_l {x : Str} {ws : List Str} : inA (.str x) (.lst (ws.map .str)) = some (decide (x ∈ ws)) := inA_wl
theorem atR_wl {ws : List Str} {h : Hl} : atR (wl ws) h = wl ws := rfl
def resW (m : Str) (ks : List Str) : List Str := (["keep", "up", "down", "stay"] : List Str) ++ (if m = "set" ∧ ("put" : Str) ∈ ks then ["put"] else [] : List Str)
def conW (m i : Str) : List Str := if m ≠ "out" ∧ i ≠ "out" then ["first", "less", "same", "more"] else ["first"]
def IsOpt (m i : Str) (ks : List Str) (o : Str) : Prop := ∃ c ∈ conW m i, ∃ q ∈ resW m ks, o = c ++ ":" ++ q
def VW (ks : List Str) (m i : Str) (ws : List Str) : Prop := ∃ os q, ws = os ++ [q] ∧ q ∈ resW m ks ∧ os.length ≤ 3 ∧ ∀ o ∈ os, IsOpt m i ks o
theorem resW_mem {m : Str} {ks : List Str} {q : Str} (h : q ∈ resW m ks) : q ∈ (["keep", "up", "down", "stay", "put"] : List Str) := by
  unfold resW at h
  split at h
  · exact h
  · rw [List.append_nil] at h; exact List.mem_append_left (["put"] : List Str) h
theorem conW_mem {m i : Str} {q : Str} (h : q ∈ conW m i) : q ∈ (["first", "less", "same", "more"] : List Str) := by
  unfold conW at h
  split at h
  · exact h
  · exact List.mem_append_left (["less", "same", "more"] : List Str) h
theorem res_len : ∀ q ∈ (["keep", "up", "down", "stay", "put"] : List Str), q.length ≤ 8 := by decide +kernel
theorem con_len : ∀ q ∈ (["first", "less", "same", "more"] : List Str), q.length ≤ 8 := by decide +kernel
theorem str_len_append (x y : Str) : (x ++ y).length = x.length + y.length := by
  show (x.cps ++ y.cps).size = _
  rw [Array.size_append]; rfl
theorem w_options {r : Nat} {h : Hl} {m i : Str} {ks : List Str} {P : D → Hl → Prop} (hp : Gd r h) (k : ∀ (ws : List Str) (h' : Hl), VW ks m i ws → Gd r h' → P (wl ws) h') : (runB 9 b__law_options [.ref r, .str m, .str i, wl ks, .bl true] h).Is P := by
  rw [is_runB]
  unfold b__law_options
  refine seq_eq (ρ1 := [.v (.ref r), .v (.str m), .v (.str i), .v (wl ks), .v (.bl true), .v (wl (resW m ks)), .no, .no, .no]) (h1 := h) ?_ ?_
  · by_cases a : m = "set" <;> by_cases b : ("put" : Str) ∈ ks <;> simp [a, b, inA_l, resW, wl]
  refine seq_to (ρ1 := [.v (.ref r), .v (.str m), .v (.str i), .v (wl ks), .v (.bl true), .v (wl (resW m ks)), .v (wl ["first"]), .no, .no]) (h1 := h) rfl ?_
  refine seq_eq (ρ1 := [.v (.ref r), .v (.str m), .v (.str i), .v (wl ks), .v (.bl true), .v (wl (resW m ks)), .v (wl (conW m i)), .no, .no]) (h1 := h) ?_ ?_
  · by_cases a : m = "out" <;> by_cases b : i = "out" <;> simp [a, b, conW, wl]
  refine seq_to (ρ1 := [.v (.ref r), .v (.str m), .v (.str i), .v (wl ks), .v (.bl true), .v (wl (resW m ks)), .v (wl (conW m i)), .own (wl []), .no]) (h1 := h) rfl ?_
  refine seq_is (fun ρ1 h1 => Gd r h1 ∧ ∃ os k, ρ1 = [.v (.ref r), .v (.str m), .v (.str i), .v (wl ks), .v (.bl true), .v (wl (resW m ks)), .v (wl (conW m i)), .own (wl os), k] ∧ os.length ≤ 3 ∧ ∀ o ∈ os, IsOpt m i ks o) ?_ ?_
  · simp
    refine w_pick hp (by simp) (by decide) fun d h1 hd g1 => ?_
    obtain ⟨n, rfl, hn⟩ : ∃ n : Nat, d = .int n ∧ n ≤ 2 := by
      simp at hd; rcases hd with rfl | rfl | rfl
      · exact ⟨0, rfl, by omega⟩
      · exact ⟨1, rfl, by omega⟩
      · exact ⟨2, rfl, by omega⟩
    simp
    refine ⟨by omega, ?_⟩
    refine is_loop (fun j ρ1 h1 => Gd r h1 ∧ ∃ os k, ρ1 = [.v (.ref r), .v (.str m), .v (.str i), .v (wl ks), .v (.bl true), .v (wl (resW m ks)), .v (wl (conW m i)), .own (wl os), k] ∧ os.length = j ∧ ∀ o ∈ os, IsOpt m i ks o) (n := 0) ⟨g1, [], _, rfl, rfl, nofun⟩ ?_ ?_
    · rintro j d ρ1 h1 he ⟨g1, os, kk, rfl, hos, hval⟩
      have hj : j < n := by
        rcases Nat.lt_or_ge j n with z | z
        · exact z
        · rw [List.getElem?_eq_none (by simpa using z)] at he; cases he
      simp [viewL, wl, chg]
      refine w_pick g1 (by simp [conW]; split <;> simp) (by simp [conW]; split <;> simp) fun c h2 hc g2 => ?_
      obtain ⟨c, hcm, rfl⟩ := List.mem_map.mp hc
      have l1 := con_len c (conW_mem hcm)
      have l0 : (":" : Str).length = 1 := by decide +kernel
      simp
      refine ⟨by omega, ?_⟩
      refine w_pick g2 (by simp [resW]) (by simp [resW]; split <;> simp) fun q h3 hq g3 => ?_
      obtain ⟨q, hqm, rfl⟩ := List.mem_map.mp hq
      have l2 := res_len q (resW_mem hqm)
      simp [str_len_append]
      refine ⟨by omega, by omega, g3, os ++ [c ++ ":" ++ q], by simp, by simp; omega, ?_⟩
      intro o ho
      rcases List.mem_append.mp ho with z | z
      · exact hval o z
      · rw [List.mem_singleton.mp z]; exact ⟨c, hcm, q, hqm, rfl⟩
    · rintro ρ1 h1 ⟨g1, os, kk, rfl, hos, hval⟩
      exact ⟨rfl, g1, os, ⟨kk, rfl⟩, (by simp at hos; omega), hval⟩
  · rintro ρ1 h1 ⟨g1, os, kk, rfl, hos, hval⟩
    simp [sFreeze, wl]
    refine w_pick g1 (by simp [resW]) (by simp [resW]; split <;> simp) fun q h3 hq g3 => ?_
    obtain ⟨q, hqm, rfl⟩ := List.mem_map.mp hq
    refine ⟨by omega, ?_⟩
    have := k (os ++ [q]) h3 ⟨os, q, rfl, hqm, hos, hval⟩ g3
    simpa [wl] using this
end K33
end
section
set_option maxRecDepth 100000
set_option maxHeartbeats 1000000
namespace K33
open PySem PySem.Spec PyProof.Rows L2 LamX Pf
/-- a row of a table -/
structure En where
  m : Str
  i : Str
  r : Str
  ws : List Str
def En.key (e : En) : DK := .t [.inr e.m, .inr e.i, .inr e.r]
def ent (e : En) : DK × D := (e.key, wl e.ws)
def optL (m i : Str) (ks : List Str) : List Str := (conW m i).flatMap fun c => (resW m ks).map fun q => c ++ ":" ++ q
theorem optL_is {m i : Str} {ks : List Str} {o : Str} : o ∈ optL m i ks ↔ IsOpt m i ks o := by
  unfold optL IsOpt
  simp only [List.mem_flatMap, List.mem_map]
  constructor
  · rintro ⟨c, hc, q, hq, rfl⟩; exact ⟨c, hc, q, hq, rfl⟩
  · rintro ⟨c, hc, q, hq, rfl⟩; exact ⟨c, hc, q, hq, rfl⟩
def vwB (ks : List Str) (m i : Str) (ws : List Str) : Bool := match ws.reverse with
  | q :: os => decide (q ∈ resW m ks) && (decide (os.length ≤ 3) && os.all fun o => decide (o ∈ optL m i ks))
  | [] => false
theorem VW.of {ks : List Str} {m i : Str} {ws : List Str} (h : vwB ks m i ws = true) : VW ks m i ws := by
  unfold vwB at h
  split at h
  · rename_i q os e
    obtain ⟨h1, h2⟩ := Bool.and_eq_true_iff.mp h
    obtain ⟨h2, h3⟩ := Bool.and_eq_true_iff.mp h2
    refine ⟨os.reverse, q, ?_, of_decide_eq_true h1, by rw [List.length_reverse]; exact of_decide_eq_true h2, fun o ho => optL_is.mp (of_decide_eq_true (List.all_eq_true.mp h3 o (List.mem_reverse.mp ho)))⟩
    have := congrArg List.reverse e
    rw [List.reverse_reverse] at this
    rw [this, List.reverse_cons]
  · cases h
def rels : List Str := ["<", "=", ">"]
structure VE (ks : List Str) (e : En) : Prop where
  m : e.m ∈ ks
  i : e.i ∈ ks
  r : e.r ∈ rels
  w : VW ks e.m e.i e.ws
def veB (ks : List Str) (e : En) : Bool := decide (e.m ∈ ks) && (decide (e.i ∈ ks) && (decide (e.r ∈ rels) && vwB ks e.m e.i e.ws))
theorem VE.of {ks : List Str} {e : En} (h : veB ks e = true) : VE ks e := by
  obtain ⟨h1, h2⟩ := Bool.and_eq_true_iff.mp h
  obtain ⟨h2, h3⟩ := Bool.and_eq_true_iff.mp h2
  obtain ⟨h3, h4⟩ := Bool.and_eq_true_iff.mp h3
  exact ⟨of_decide_eq_true h1, of_decide_eq_true h2, of_decide_eq_true h3, .of h4⟩
/-- the cells as they are drawn -/
structure CI (ks : List Str) (n : Nat) (es : List En) : Prop where
  ve : ∀ e ∈ es, VE ks e
  nd : (es.map En.key).Nodup
  len : es.length ≤ n
theorem CI.put {ks : List Str} {n : Nat} {es : List En} {e : En} (c : CI ks n es) (v : VE ks e) : ∃ es', putA (es.map ent) e.key (wl e.ws) = es'.map ent ∧ CI ks (n + 1) es' := by
  unfold putA
  split
  · rename_i h
    refine ⟨es.map fun e' => if e'.key = e.key then e else e', ?_, ?_, ?_, ?_⟩
    · rw [List.map_map, List.map_map]
      refine List.map_congr_left fun e' _ => ?_
      show (if e'.key = e.key then (e'.key, wl e.ws) else ent e') = ent (if e'.key = e.key then e else e')
      by_cases z : e'.key = e.key
      · rw [if_pos z, if_pos z]; show (e'.key, wl e.ws) = (e.key, wl e.ws); rw [z]
      · rw [if_neg z, if_neg z]
    · intro x hx
      obtain ⟨e', he, rfl⟩ := List.mem_map.mp hx
      split
      · exact v
      · exact c.ve e' he
    · have : (es.map fun e' => if e'.key = e.key then e else e').map En.key = es.map En.key := by
        rw [List.map_map]
        refine List.map_congr_left fun e' _ => ?_
        show (if e'.key = e.key then e else e').key = e'.key
        split
        · rename_i z; exact z.symm
        · rfl
      rw [this]; exact c.nd
    · rw [List.length_map]; exact Nat.le_succ_of_le c.len
  · rename_i h
    refine ⟨es ++ [e], ?_, ?_, ?_, ?_⟩
    · rw [List.map_append]; rfl
    · intro x hx
      rcases List.mem_append.mp hx with z | z
      · exact c.ve x z
      · rw [List.mem_singleton.mp z]; exact v
    · rw [List.map_append, List.nodup_append]
      refine ⟨c.nd, by simp, fun a ha b hb z => h ?_⟩
      rw [List.map_singleton, List.mem_singleton] at hb
      subst hb; subst z
      obtain ⟨e', he, z⟩ := List.mem_map.mp ha
      exact List.any_eq_true.mpr ⟨ent e', List.mem_map.mpr ⟨e', he, rfl⟩, decide_eq_true z⟩
    · rw [List.length_append]; exact Nat.succ_le_succ c.len
def good : List En := [⟨"put", "put", ">", ["up"]⟩, ⟨"put", "put", "=", ["first:keep", "up"]⟩, ⟨"put", "out", ">", ["down"]⟩, ⟨"out", "put", ">", ["up"]⟩, ⟨"out", "put", "=", ["up"]⟩, ⟨"out", "out", ">", ["down"]⟩,
  ⟨"out", "out", "=", ["stay"]⟩, ⟨"set", "put", ">", ["up"]⟩, ⟨"set", "put", "=", ["up"]⟩, ⟨"set", "out", ">", ["down"]⟩, ⟨"set", "out", "=", ["stay"]⟩, ⟨"set", "set", "=", ["first:keep", "stay"]⟩]
def goodFor (ks : List Str) : List En := good.filter fun e => decide (e.m ∈ ks) && decide (e.i ∈ ks)
theorem e_good (h : Hl) : runB 1 b__law_good [] h = .ok (.dct true (good.map ent)) h := by kernel_rfl
instance : DecidableEq (Nat ⊕ Nat) := inferInstance
theorem good_ci : ∀ ks ∈ menu, ((goodFor ks).all (veB ks) && (decide ((goodFor ks).map En.key).Nodup && decide ((goodFor ks).length ≤ 12))) = true := by decide +kernel
theorem ci_good {ks : List Str} (hk : ks ∈ menu) : CI ks 12 (goodFor ks) := by
  obtain ⟨h1, h2⟩ := Bool.and_eq_true_iff.mp (good_ci ks hk)
  obtain ⟨h2, h3⟩ := Bool.and_eq_true_iff.mp h2
  exact ⟨fun e he => .of (List.all_eq_true.mp h1 e he), of_decide_eq_true h2, of_decide_eq_true h3⟩
theorem e_loop (h : Hl) (x0 x2 x3 : Sl) : ∀ ks ∈ menu, sFor (dOver dkeysD (dVar 4)) (gSlot 6) (sIf (dAnd (dB (dIn (dIx (dView 6) (dC (.int 0))) (dView 1))) (dB (dIn (dIx (dView 6) (dC (.int 1))) (dView 1)))) (sAsg (dIx (dView 4) (dVar 6)) (Pf.gSub 5 (dVar 6))) (sNext))
    [x0, .v (wl ks), x2, x3, .v (.dct true (good.map ent)), .own (.dct true []), .no, .no, .no, .no] h = .ok .next [x0, .v (wl ks), x2, x3, .v (.dct true (good.map ent)), .own (.dct true ((goodFor ks).map ent)), .v (.tup [.str "set", .str "set", .str "="]), .no, .no, .no] h :=
  List.forall_mem_cons.mpr ⟨by kernel_rfl, List.forall_mem_cons.mpr ⟨by kernel_rfl, List.forall_mem_cons.mpr ⟨by kernel_rfl, List.forall_mem_cons.mpr ⟨by kernel_rfl, List.forall_mem_cons.mpr ⟨by kernel_rfl, List.forall_mem_cons.mpr ⟨by kernel_rfl, List.forall_mem_cons.mpr ⟨by kernel_rfl, fun _ z => nomatch z⟩⟩⟩⟩⟩⟩⟩
theorem menu_ne : ∀ ks ∈ menu, ks ≠ [] ∧ ks.length ≤ 3 := by decide +kernel
def CSt (r : Nat) (ks : List Str) (n : Nat) (j : Nat) (ρ : Rho) : Prop := ∃ es a b c d, ρ = [.v (.ref r), .v (wl ks), .v (.int n), .v (.bl true), .v (.dct true (good.map ent)), .own (.dct true (es.map ent)), a, b, c, d] ∧ CI ks j es
theorem CI.le {ks : List Str} {a b : Nat} {es : List En} (c : CI ks a es) (h : a ≤ b) : CI ks b es := ⟨c.ve, c.nd, Nat.le_trans c.len h⟩
theorem put_t {kvs : List (DK × D)} {m i q : Str} {d : D} : putD (.dct true kvs) (.tup [.str m, .str i, .str q]) d = if kvs.length < 16777216 then some (.dct true (putA kvs (.t [.inr m, .inr i, .inr q]) d)) else none := rfl
theorem lst4 : (.lst [.str "less:keep", .str "more:up", .str "first:keep", .str "up"] : D) = wl ["less:keep", "more:up", "first:keep", "up"] := rfl
theorem ve4 : ∀ ks ∈ menu, ("put" : Str) ∈ ks → veB ks ⟨"put", "put", "=", ["less:keep", "more:up", "first:keep", "up"]⟩ = true := by decide +kernel
theorem w_cells {r : Nat} {h : Hl} {n : Nat} {ks : List Str} {P : D → Hl → Prop} (hp : Gd r h) (hk : ks ∈ menu) (hn : n < 3) (k : ∀ (es : List En) (h' : Hl), CI ks 15 es → Gd r h' → P (.dct true (es.map ent)) h') : (runB 10 b__law_cells [.ref r, wl ks, .int n, .bl true] h).Is P := by
  obtain ⟨kne, klen⟩ := menu_ne ks hk
  rw [is_runB]
  unfold b__law_cells
  refine seq_to (ρ1 := [.v (.ref r), .v (wl ks), .v (.int n), .v (.bl true), .v (.dct true (good.map ent)), .own (.dct true []), .no, .no, .no, .no]) (h1 := h) ?_ ?_
  · show sBind (runB 1 b__law_good [] h) _ _ = _
    rw [e_good]; rfl
  refine seq_to (e_loop h _ _ _ ks hk) ?_
  refine seq_is (fun ρ1 h1 => Gd r h1 ∧ CSt r ks n 14 ρ1) ?_ ?_
  · simp
    refine ⟨by omega, ?_⟩
    refine is_loop (fun j ρ1 h1 => Gd r h1 ∧ CSt r ks n (12 + j) ρ1) (n := 0) ⟨hp, _, _, _, _, _, rfl, ci_good hk⟩ ?_ ?_
    · rintro j d ρ1 h1 he ⟨g1, es, a, b, c, d', rfl, ci⟩
      simp
      refine w_pick g1 (by simpa using kne) (by simp; omega) fun m h2 hm g2 => ?_
      obtain ⟨m, hmk, rfl⟩ := List.mem_map.mp hm
      refine w_pick g2 (by simpa using kne) (by simp; omega) fun i h3 hi g3 => ?_
      obtain ⟨i, hik, rfl⟩ := List.mem_map.mp hi
      refine w_pick g3 (by simp) (by simp) fun q h4 hq g4 => ?_
      obtain ⟨q, hqr, rfl⟩ : ∃ z : Str, z ∈ rels ∧ q = .str z := by
        simp at hq
        rcases hq with rfl | rfl | rfl
        · exact ⟨_, List.mem_cons_self, rfl⟩
        · exact ⟨_, List.mem_cons_of_mem _ List.mem_cons_self, rfl⟩
        · exact ⟨_, List.mem_cons_of_mem _ (List.mem_cons_of_mem _ List.mem_cons_self), rfl⟩
      refine w_options g4 fun ws h5 hw g5 => ?_
      have hlen := ci.len
      obtain ⟨es', e', ci'⟩ := ci.put (e := ⟨m, i, q, ws⟩) ⟨hmk, hik, hqr, hw⟩
      have e' : putA (es.map ent) (.t [.inr m, .inr i, .inr q]) (wl ws) = es'.map ent := e'
      simp [chg, put_t, e']
      have hj : j < n := by
        rcases Nat.lt_or_ge j n with z | z
        · exact z
        · rw [List.getElem?_eq_none (by simpa using z)] at he; cases he
      exact ⟨by omega, g5, es', _, _, _, _, rfl, ci'.le (by omega)⟩
    · rintro ρ1 h1 ⟨g1, es, a, b, c, d', rfl, ci⟩
      exact ⟨rfl, g1, es, _, _, _, _, rfl, ci.le (by simp; omega)⟩
  · rintro ρ1 h1 ⟨g1, es, a, b, c, d', rfl, ci⟩
    by_cases hput : ("put" : Str) ∈ ks
    · simp [inA_wl, atR_wl, hput]
      refine w_draw g1 (by omega) (by omega) fun i h2 i0 i1 g2 => ?_
      have hlen := ci.len
      obtain ⟨es', e', ci'⟩ := ci.put (.of (ve4 ks hk hput))
      have e' : putA (es.map ent) (.t [.inr "put", .inr "put", .inr "="]) (wl ["less:keep", "more:up", "first:keep", "up"]) = es'.map ent := e'
      simp [chg, put_t, lst4, e', sFreeze]
      split
      · exact ⟨by omega, k _ _ ci' g2⟩
      · exact k _ _ (ci.le (by omega)) g2
    · simp [inA_wl, atR_wl, hput, sFreeze]
      exact k _ _ (ci.le (by omega)) g1
end K33
end
section
set_option maxRecDepth 100000
set_option maxHeartbeats 1000000
namespace K33
open PySem PySem.Spec PyProof.Rows L2 LamX Pf
abbrev tl (x : Str) : List Nat := x.cps.toList
theorem len_tl (x : Str) : x.length = (tl x).length := by simp [tl, Str.length]
structure Wd (n : Nat) (w : Str) : Prop where
  len : w.length ≤ n
  ch : ∀ c ∈ tl w, 33 ≤ c ∧ c < 127
def wdB (n : Nat) (w : Str) : Bool := decide (w.length ≤ n) && (tl w).all fun c => decide (33 ≤ c ∧ c < 127)
theorem Wd.of {n : Nat} {w : Str} (h : wdB n w = true) : Wd n w := by
  obtain ⟨h1, h2⟩ := Bool.and_eq_true_iff.mp h
  exact ⟨of_decide_eq_true h1, fun c hc => of_decide_eq_true (List.all_eq_true.mp h2 c hc)⟩
theorem tl_app (x y : Str) : tl (x ++ y) = tl x ++ tl y := TL.tl_append x y
theorem Wd.app {a b : Nat} {x y : Str} (hx : Wd a x) (hy : Wd b y) : Wd (a + b) (x ++ y) := by
  refine ⟨by rw [str_len_append]; have := hx.len; have := hy.len; omega, fun c hc => ?_⟩
  rw [tl_app] at hc
  rcases List.mem_append.mp hc with z | z
  · exact hx.ch c z
  · exact hy.ch c z
theorem Wd.le {a b : Nat} {x : Str} (h : Wd a x) (l : a ≤ b) : Wd b x := ⟨Nat.le_trans h.len l, h.ch⟩
theorem wd_res : ∀ q ∈ (["keep", "up", "down", "stay", "put"] : List Str), wdB 4 q = true := by decide +kernel
theorem wd_con : ∀ q ∈ (["first", "less", "same", "more"] : List Str), wdB 5 q = true := by decide +kernel
theorem wd_menu : ∀ ks ∈ menu, ks.all (wdB 10) = true := by decide +kernel
theorem wd_rels : ∀ q ∈ rels, wdB 10 q = true := by decide +kernel
theorem wd_colon : wdB 1 ":" = true := by decide +kernel
theorem wd_opt {m i o : Str} {ks : List Str} (h : IsOpt m i ks o) : Wd 10 o := by
  obtain ⟨c, hc, q, hq, rfl⟩ := h
  exact ((Wd.of (wd_con c (conW_mem hc))).app (.of wd_colon)).app (.of (wd_res q (resW_mem hq)))
theorem VW.wd {ks : List Str} {m i : Str} {ws : List Str} (h : VW ks m i ws) : (∀ w ∈ ws, Wd 10 w) ∧ 1 ≤ ws.length ∧ ws.length ≤ 4 := by
  obtain ⟨os, q, rfl, hq, hl, ho⟩ := h
  refine ⟨fun w hw => ?_, by simp, by simp; omega⟩
  rcases List.mem_append.mp hw with z | z
  · exact wd_opt (ho w z)
  · rw [List.mem_singleton.mp z]; exact (Wd.of (wd_res q (resW_mem hq))).le (by omega)
def En.wds (e : En) : List Str := [e.m, e.i, e.r] ++ e.ws
theorem VE.wd {ks : List Str} {e : En} (hk : ks ∈ menu) (v : VE ks e) : (∀ w ∈ e.wds, Wd 10 w) ∧ 4 ≤ e.wds.length ∧ e.wds.length ≤ 7 := by
  obtain ⟨h1, h2, h3⟩ := v.w.wd
  have hm := List.all_eq_true.mp (wd_menu ks hk)
  refine ⟨fun w hw => ?_, by simp [En.wds]; omega, by simp [En.wds]; omega⟩
  rcases List.mem_append.mp hw with z | z
  · simp at z
    rcases z with rfl | rfl | rfl
    · exact .of (hm _ v.m)
    · exact .of (hm _ v.i)
    · exact .of (wd_rels _ v.r)
  · exact h1 w z
theorem join_codes (a : Str) (ys : List Str) : tl (Txt.join a ys) = TL.joinL (tl a) (ys.map tl) := by
  rw [TL.join_eq]; exact TL.tl_join a ys
theorem joinL_len {a : List Nat} : ∀ {ps : List (List Nat)} {n : Nat}, (∀ p ∈ ps, p.length ≤ n) → (TL.joinL a ps).length ≤ ps.length * (n + a.length)
  | [], _, _ => Nat.zero_le _
  | [p], n, h => by
    show p.length ≤ _
    have := h p List.mem_cons_self
    simp; omega
  | p :: q :: r, n, h => by
    show (p ++ (a ++ TL.joinL a (q :: r))).length ≤ _
    have h1 := h p List.mem_cons_self
    have h2 := joinL_len (a := a) (ps := q :: r) (n := n) fun z hz => h z (List.mem_cons_of_mem _ hz)
    rw [List.length_append, List.length_append]
    have : (p :: q :: r).length * (n + a.length) = (q :: r).length * (n + a.length) + (n + a.length) := by rw [List.length_cons (a := p), Nat.succ_mul]
    omega
theorem joinL_mem {a : List Nat} {c : Nat} : ∀ {ps : List (List Nat)}, c ∈ TL.joinL a ps → c ∈ a ∨ ∃ p ∈ ps, c ∈ p
  | [], h => by cases h
  | [p], h => .inr ⟨p, List.mem_cons_self, h⟩
  | p :: q :: r, h => by
    have h : c ∈ p ++ (a ++ TL.joinL a (q :: r)) := h
    rcases List.mem_append.mp h with z | z
    · exact .inr ⟨p, List.mem_cons_self, z⟩
    · rcases List.mem_append.mp z with z | z
      · exact .inl z
      · rcases joinL_mem z with z | ⟨p', hp, hc⟩
        · exact .inl z
        · exact .inr ⟨p', List.mem_cons_of_mem _ hp, hc⟩
theorem split_join {c : Nat} {sep : Str} {ys : List Str} (hs : tl sep = [c]) (hc : c < 256) (hne : ys ≠ []) (h : ∀ y ∈ ys, c ∉ tl y) : Txt.split (Txt.join sep ys) sep = ys := by
  have e1 : Txt.join sep ys = SX.S (TL.joinL [c] (ys.map tl)) := by
    rw [← SX.S_tl (Txt.join sep ys)]
    show SX.S (tl (Txt.join sep ys)) = _
    rw [join_codes, hs]
  have e2 : sep = SX.S [c] := by rw [← SX.S_tl sep]; show SX.S (tl sep) = _; rw [hs]
  rw [e1, e2, SX.split_S (by simp) (by simp [hc]), SX.spl_join (by simpa using hne)]
  · rw [List.map_map]
    have : (SX.S ∘ tl) = (id : Str → Str) := funext fun x => SX.S_tl x
    rw [this, List.map_id]
  · intro p hp
    obtain ⟨y, hy, rfl⟩ := List.mem_map.mp hp
    exact h y hy
def rowT (e : En) : Str := Txt.join " " e.wds
def headT (ks : List Str) : Str := Txt.join " " ("kinds" :: ks)
def textOf (ks : List Str) (es : List En) : Str := Txt.join "\n" (headT ks :: es.map rowT)
theorem tl_sp : tl " " = [32] := by decide +kernel
theorem tl_nl : tl "\n" = [10] := by decide +kernel
/-- a line: no end of line in it, all signs small -/
structure Ln (n : Nat) (w : Str) : Prop where
  len : w.length ≤ n
  ch : ∀ c ∈ tl w, 32 ≤ c ∧ c < 127
theorem ln_join {ws : List Str} {k : Nat} (h : ∀ w ∈ ws, Wd 10 w) (hl : ws.length ≤ k) : Ln (k * 11) (Txt.join " " ws) := by
  refine ⟨?_, fun c hc => ?_⟩
  · rw [len_tl, join_codes, tl_sp]
    refine Nat.le_trans (joinL_len (n := 10) fun p hp => ?_) ?_
    · obtain ⟨w, hw, rfl⟩ := List.mem_map.mp hp
      rw [← len_tl]; exact (h w hw).len
    · rw [List.length_map]; exact Nat.mul_le_mul_right _ hl
  · rw [join_codes, tl_sp] at hc
    rcases joinL_mem hc with z | ⟨p, hp, hc⟩
    · rw [List.mem_singleton.mp z]; omega
    · obtain ⟨w, hw, rfl⟩ := List.mem_map.mp hp
      have := (h w hw).ch c hc
      omega
theorem ln_row {ks : List Str} {e : En} (hk : ks ∈ menu) (v : VE ks e) : Ln 77 (rowT e) := ln_join (k := 7) (v.wd hk).1 (v.wd hk).2.2
theorem wd_kinds : wdB 10 "kinds" = true := by decide +kernel
theorem ln_head {ks : List Str} (hk : ks ∈ menu) : Ln 77 (headT ks) := by
  have := ln_join (ws := "kinds" :: ks) (k := 7) (fun w hw => ?_) ?_
  · exact this
  · rcases List.mem_cons.mp hw with rfl | z
    · exact .of wd_kinds
    · exact .of (List.all_eq_true.mp (wd_menu ks hk) w z)
  · have := (menu_ne ks hk).2
    simp; omega
theorem lines_ln {ks : List Str} {es : List En} (hk : ks ∈ menu) (c : CI ks 15 es) : ∀ y ∈ headT ks :: es.map rowT, Ln 77 y := by
  intro y hy
  rcases List.mem_cons.mp hy with rfl | z
  · exact ln_head hk
  · obtain ⟨e, he, rfl⟩ := List.mem_map.mp z
    exact ln_row hk (c.ve e he)
theorem text_len {ks : List Str} {es : List En} (hk : ks ∈ menu) (c : CI ks 15 es) : (textOf ks es).length ≤ 1248 := by
  unfold textOf
  rw [len_tl, join_codes, tl_nl]
  refine Nat.le_trans (joinL_len (n := 77) fun p hp => ?_) ?_
  · obtain ⟨w, hw, rfl⟩ := List.mem_map.mp hp
    rw [← len_tl]; exact (lines_ln hk c w hw).len
  · have := c.len
    simp; omega
theorem text_ch {ks : List Str} {es : List En} (hk : ks ∈ menu) (c : CI ks 15 es) : ∀ z ∈ tl (textOf ks es), z < 127 := by
  intro z hz
  unfold textOf at hz
  rw [join_codes, tl_nl] at hz
  rcases joinL_mem hz with q | ⟨p, hp, hc⟩
  · rw [List.mem_singleton.mp q]; omega
  · obtain ⟨w, hw, rfl⟩ := List.mem_map.mp hp
    exact ((lines_ln hk c w hw).ch z hc).2
theorem text_lines {ks : List Str} {es : List En} (hk : ks ∈ menu) (c : CI ks 15 es) : Txt.split (textOf ks es) "\n" = headT ks :: es.map rowT :=
  split_join tl_nl (by omega) (by simp) fun y hy z => by have := (lines_ln hk c y hy).ch 10 z; omega
theorem head_words {ks : List Str} (hk : ks ∈ menu) : Txt.split (headT ks) " " = ("kinds" : Str) :: ks :=
  split_join tl_sp (by omega) (by simp) fun w hw z => by
    have : Wd 10 w := by
      rcases List.mem_cons.mp hw with rfl | q
      · exact .of wd_kinds
      · exact .of (List.all_eq_true.mp (wd_menu ks hk) w q)
    have := this.ch 32 z
    omega
theorem row_words {ks : List Str} {e : En} (hk : ks ∈ menu) (v : VE ks e) : Txt.split (rowT e) " " = e.wds :=
  split_join tl_sp (by omega) (by simp [En.wds]) fun w hw z => by have := ((v.wd hk).1 w hw).ch 32 z; omega
end K33
end
section
set_option maxRecDepth 100000
set_option maxHeartbeats 1000000
namespace K33
open PySem PySem.Spec PyProof.Rows L2 LamX Pf
theorem strs_w : ∀ ws : List Str, strsD (ws.map D.str) = some ws
  | [] => rfl
  | w :: ws => by
    show (match some w, strsD (ws.map D.str) with | some b, some bs => some (b :: bs) | _, _ => none) = _
    rw [strs_w ws]
theorem sum_le {n : Nat} : ∀ {ws : List Str}, (∀ w ∈ ws, w.length ≤ n) → (ws.map fun w : Str => w.length).sum ≤ ws.length * n
  | [], _ => by simp
  | w :: ws, h => by
    have h1 := h w List.mem_cons_self
    have h2 := sum_le fun z hz => h z (List.mem_cons_of_mem w hz)
    simp only [List.map_cons, List.sum_cons, List.length_cons, Nat.succ_mul]
    omega
theorem join_w {a : Str} {ws : List Str} {n m : Nat} (h : ∀ w ∈ ws, w.length ≤ n) (hl : ws.length ≤ m) (hm : m * (n + a.length) ≤ 16777216) : joinO (.str a) [.lst (ws.map D.str)] = some (.str (Txt.join a ws)) := by
  have e : (seqD (.lst (ws.map D.str))).bind strsD = some ws := strs_w ws
  show (match (seqD (.lst (ws.map D.str))).bind strsD with
    | some (ys : List Str) => if (ys.map fun w : Str => w.length).sum + ys.length * a.length ≤ 16777216 then some (D.str (Txt.join a ys)) else none
    | none => none) = _
  rw [e]
  refine if_pos ?_
  have h1 := sum_le h
  have h2 : ws.length * (n + a.length) ≤ m * (n + a.length) := Nat.mul_le_mul_right _ hl
  rw [Nat.mul_add] at h2
  omega
theorem len_sp : (" " : Str).length = 1 := by decide +kernel
theorem len_nl : ("\n" : Str).length = 1 := by decide +kernel
theorem list_t {ds : List D} : listF [.tup ds] = some (.lst ds) := rfl
theorem look_t {kvs : List (DK × D)} {m i q : Str} : ixA (.dct true kvs) (.tup [.str m, .str i, .str q]) = getA kvs (.t [.inr m, .inr i, .inr q]) := by
  show (some (getA kvs (.t [.inr m, .inr i, .inr q]))).bind id = _
  rfl
theorem getA_in {α : Type} {kvs : List (DK × α)} {k : DK} {v : α} (nd : (kvs.map (·.1)).Nodup) (h : (k, v) ∈ kvs) : getA kvs k = some v := by
  unfold getA
  induction kvs with
  | nil => cases h
  | cons p r ih =>
    rw [List.map_cons, List.nodup_cons] at nd
    rw [List.find?_cons]
    rcases List.mem_cons.mp h with z | z
    · subst z; simp
    · have ne : p.1 ≠ k := fun e => nd.1 (by rw [e]; exact List.mem_map.mpr ⟨_, z, rfl⟩)
      simp [ne]
      simpa using ih nd.2 z
theorem key_at {es : List En} {ks : List Str} {n : Nat} (c : CI ks n es) {e : En} (h : e ∈ es) : getA (es.map ent) (.t [.inr e.m, .inr e.i, .inr e.r]) = some (wl e.ws) := by
  refine getA_in ?_ (List.mem_map.mpr ⟨e, h, rfl⟩)
  rw [List.map_map]; exact c.nd
theorem keys_e (es : List En) : keysL (es.map ent) = es.map fun e => .tup [.str e.m, .str e.i, .str e.r] := by
  unfold keysL; rw [List.map_map]; rfl
theorem dkeys {t : Bool} {kvs : List (DK × D)} : dkeysD (.dct t kvs) = some (keysL kvs) := rfl
theorem w_text {h : Hl} {ks : List Str} {es : List En} {P : D → Hl → Prop} (hk : ks ∈ menu) (c : CI ks 15 es) (k : P (.str (textOf ks es)) h) : (runB 4 b__law_text [wl ks, .dct true (es.map ent)] h).Is P := by
  have hml := (menu_ne ks hk).2
  have hw : ∀ w ∈ (("kinds" : Str) :: ks), w.length ≤ 10 := fun w hw => by
    rcases List.mem_cons.mp hw with rfl | z
    · exact (Wd.of wd_kinds).len
    · exact (Wd.of (List.all_eq_true.mp (wd_menu ks hk) w z)).len
  have ej : joinO (.str " ") [.lst (.str "kinds" :: ks.map D.str)] = some (.str (headT ks)) := join_w (ws := ("kinds" : Str) :: ks) (n := 10) (m := 4) hw (by simp; omega) (by rw [len_sp]; omega)
  rw [is_runB]
  unfold b__law_text
  refine seq_eq (ρ1 := [.v (wl ks), .v (.dct true (es.map ent)), .own (.lst [.str (headT ks)]), .no]) (h1 := h) ?_ ?_
  · simp [wl, isStrD, ej]; omega
  refine seq_is (fun ρ1 h1 => h1 = h ∧ ∃ x, ρ1 = [.v (wl ks), .v (.dct true (es.map ent)), .own (.lst (.str (headT ks) :: (es.map rowT).map D.str)), x]) ?_ ?_
  · simp [dkeys, keys_e]
    refine is_loop (fun j ρ1 h1 => h1 = h ∧ ∃ x, ρ1 = [.v (wl ks), .v (.dct true (es.map ent)), .own (.lst (.str (headT ks) :: ((es.take j).map rowT).map D.str)), x]) (n := 0) ⟨rfl, _, rfl⟩ ?_ ?_
    · rintro j d ρ1 h1 he ⟨rfl, x, rfl⟩
      rw [List.getElem?_map] at he
      cases hj : es[j]? with
      | none => rw [hj] at he; cases he
      | some e =>
        rw [hj] at he; cases he
        have hme : e ∈ es := List.mem_of_getElem? hj
        have v := c.ve e hme
        have er : joinO (.str " ") [.lst (.str e.m :: .str e.i :: .str e.r :: e.ws.map D.str)] = some (.str (rowT e)) := join_w (ws := e.wds) (n := 10) (m := 7) (fun w hw => ((v.wd hk).1 w hw).len) (v.wd hk).2.2 (by rw [len_sp]; omega)
        have lw := v.w.wd
        have hle := c.len
        have hjl : j < es.length := by
          rcases Nat.lt_or_ge j es.length with z | z
          · exact z
          · rw [List.getElem?_eq_none z] at hj; cases hj
        simp [viewL, isStrD, list_t, look_t, key_at c hme, wl, er, chg]
        refine ⟨by omega, by omega, ?_⟩
        rw [List.take_add_one]
        simp [hj]
    · rintro ρ1 h1 ⟨rfl, x, rfl⟩
      refine ⟨rfl, rfl, x, ?_⟩
      simp
  · rintro ρ1 h1 ⟨rfl, x, rfl⟩
    have hln := lines_ln hk c
    have ej2 : joinO (.str "\n") [.lst (.str (headT ks) :: (es.map rowT).map D.str)] = some (.str (textOf ks es)) := join_w (ws := headT ks :: es.map rowT) (n := 77) (m := 16) (fun w hw => (hln w hw).len) (by have := c.len; simp; omega) (by rw [len_nl]; omega)
    rw [List.map_map] at ej2
    simp [sFreeze, isStrD, ej2]
    exact k
end K33
end
section
set_option maxRecDepth 100000
set_option maxHeartbeats 1000000
namespace K33
open PySem PySem.Spec PyProof.Rows L2 LamX Pf
abbrev wt (ws : List Str) : D := .tup (ws.map .str)
def qRes : List (Str × Str × List Str) := menu.flatMap fun ks => ks.flatMap fun m => (resW m ks).map fun q => (q, m, ks)
theorem a_res (h : Hl) : qRes.map (fun p => runB 3 b_is_result [.str p.1, .str p.2.1, wt p.2.2] h) = qRes.map fun _ => .ok (.bl true) h := by kernel_rfl
theorem e_res (h : Hl) {ks : List Str} {m q : Str} (hk : ks ∈ menu) (hm : m ∈ ks) (hq : q ∈ resW m ks) : runB 3 b_is_result [.str q, .str m, wt ks] h = .ok (.bl true) h :=
  List.map_inj_left.mp (a_res h) (q, m, ks) (List.mem_flatMap.mpr ⟨ks, hk, List.mem_flatMap.mpr ⟨m, hm, List.mem_map.mpr ⟨q, hq, rfl⟩⟩⟩)
def qOpt : List (Str × Str × Str × List Str) := menu.flatMap fun ks => ks.flatMap fun m => ks.flatMap fun i => (optL m i ks).map fun q => (q, m, i, ks)
theorem a_opt (h : Hl) : qOpt.map (fun p => runB 7 b_is_option [.str p.1, .str p.2.1, .str p.2.2.1, wt p.2.2.2] h) = qOpt.map fun _ => .ok (.bl true) h := by kernel_rfl
theorem e_opt (h : Hl) {ks : List Str} {m i o : Str} (hk : ks ∈ menu) (hm : m ∈ ks) (hi : i ∈ ks) (ho : IsOpt m i ks o) : runB 7 b_is_option [.str o, .str m, .str i, wt ks] h = .ok (.bl true) h :=
  List.map_inj_left.mp (a_opt h) (o, m, i, ks) (List.mem_flatMap.mpr ⟨ks, hk, List.mem_flatMap.mpr ⟨m, hm, List.mem_flatMap.mpr ⟨i, hi, List.mem_map.mpr ⟨o, optL_is.mpr ho, rfl⟩⟩⟩⟩)
theorem a_kin (h : Hl) : menu.map (fun ks => runB 1 b_check_kinds [wt ks] h) = menu.map fun _ => .ok .non h := by kernel_rfl
theorem e_kin (h : Hl) {ks : List Str} (hk : ks ∈ menu) : runB 1 b_check_kinds [wt ks] h = .ok .non h := List.map_inj_left.mp (a_kin h) ks hk
theorem is_str {x : Str} : isiF tyTab [.str x, .ty "str"] = some (.bl true) := by kernel_rfl
theorem is_tupT {xs : List D} : isiF tyTab [.tup xs, .ty "tuple"] = some (.bl true) := by kernel_rfl
end K33
end
section
set_option maxRecDepth 100000
set_option maxHeartbeats 1000000
namespace K33
open PySem PySem.Spec PyProof.Rows L2 LamX Pf
theorem split_w {a b : Str} (h0 : (b.length == 0) = false) (h : a.length + 2 ≤ 16777216) : splitO (.str a) [.str b] = some (.lst ((Txt.split a b).map .str)) := if_pos ⟨h0, h⟩
theorem sp0 : ((" " : Str).length == 0) = false := by decide +kernel
theorem nl0 : (("\n" : Str).length == 0) = false := by decide +kernel
theorem tup_l {ds : List D} : tupleF [.lst ds] = some (.tup ds) := rfl
theorem tup_t {ds : List D} : tupleF [.tup ds] = some (.tup ds) := rfl
theorem neg_i {i : Int} : negD (.int i) = some (.int (-i)) := rfl
def Nr (h : Hl) : Prop := ∀ o ∈ h, noRefO o = true
theorem fput_ref {cs : List Str} {i : Nat} {f c : Str} {e : Den D} {ρ : Rho} {h h1 : Hl} {d : D} {r : Nat} {fs : List (Str × D)} (he : e ρ h = .ok d h1) (hρ : ρ[i]? = some (.v (.ref r))) (hr : h1[r]? = some (.ins c fs)) (hc : cs.contains c = true) (hl : fs.length < 1000) :
    sFput cs i f e ρ h = .ok .next ρ (h1.set r (.ins c (putFD f d fs))) := by
  have ha : atR (.ref r) h1 = .ins c fs := by simp [atR, hr]
  have hp : putO cs f (.ins c fs) d = some (.ins c (putFD f d fs)) := if_pos ⟨hc, hl⟩
  unfold sFput
  rw [he]
  simp only [sBind]
  rw [z_chg_ref (q := .ins c (putFD f d fs)) hρ ha hp rfl]
theorem cell_init {h : Hl} {a b : D} {r : Nat} (hr : h[r]? = some (.ins "Cell" [])) : runB 3 b_Cell___init__ [.ref r, a, b] h = .ok .non (h.set r (.ins "Cell" [("key", a), ("options", b)])) := by
  have hl : r < h.length := by
    rcases Nat.lt_or_ge r h.length with z | z
    · exact z
    · rw [List.getElem?_eq_none z] at hr; cases hr
  have e1 : sFput ["Cell"] 0 "key" (dVar 1) [.v (.ref r), .v a, .v b] h = .ok .next [.v (.ref r), .v a, .v b] (h.set r (.ins "Cell" [("key", a)])) := fput_ref rfl rfl hr rfl (by decide)
  have e2 : sFput ["Cell"] 0 "options" (dVar 2) [.v (.ref r), .v a, .v b] (h.set r (.ins "Cell" [("key", a)])) = .ok .next [.v (.ref r), .v a, .v b] ((h.set r (.ins "Cell" [("key", a)])).set r (.ins "Cell" [("key", a), ("options", b)])) :=
    (fput_ref rfl rfl (List.getElem?_set_self hl) rfl (by simp)).trans (by
      have : putFD "options" b [("key", a)] = ([("key", a), ("options", b)] : List (Str × D)) := by simp only [putFD]; rw [if_neg (by decide +kernel)]
      rw [this])
  show (match b_Cell___init__ [.v (.ref r), .v a, .v b] h with
    | .ok (.ret d) _ h' => Res.ok d h'
    | .ok .next _ h' => .ok .non h'
    | .exc c fs _ h' => .exc c fs h'
    | _ => .bad) = _
  unfold b_Cell___init__ sSeq
  rw [e1]
  simp only [SRes.then]
  rw [e2, List.set_set]
theorem e_cell {h : Hl} {a b : D} (nr : Nr h) (na : noRef a = true) (nb : noRef b = true) : mkV "Cell" (runB 3 b_Cell___init__) [a, b] h = .ok (.ins "Cell" [("key", a), ("options", b)]) h := by
  unfold mkV
  rw [cell_init (by simp)]
  have e : (h ++ [O.ins "Cell" []]).set h.length (O.ins "Cell" [("key", a), ("options", b)]) = h ++ [O.ins "Cell" [("key", a), ("options", b)]] := by
    rw [List.set_append_right _ _ (Nat.le_refl _)]; simp
  rw [e]
  have nf : noRefF [("key", a), ("options", b)] = true := by
    show (noRef a && (noRef b && true)) = true
    rw [na, nb]; rfl
  have ng : ((h ++ [O.ins "Cell" [("key", a), ("options", b)]]).take h.length).all noRefO = true := by
    rw [List.take_left']
    · exact List.all_eq_true.mpr nr
    · rfl
  simp [mkFin, nf]
  exact nr
theorem cmp_yes {tg : Tg} {e : Den D} {ρ : Rho} {h : Hl} : ∀ {ds acc : List D}, (∀ d ∈ ds, ∃ ρ1, tg d ρ h = some (ρ1, h) ∧ e ρ1 h = .ok (.bl true) h) → acc.length + ds.length ≤ 16777216 → cmpS tg dYes e ρ ds acc h = .ok (acc ++ List.replicate ds.length (.bl true)) h
  | [], acc, _, _ => by simp [cmpS]
  | d :: ds, acc, k, hl => by
    obtain ⟨ρ1, h1, h2⟩ := k d List.mem_cons_self
    unfold cmpS
    simp only [h1, dYes, h2]
    rw [if_pos (by simp at hl; omega), cmp_yes (fun x hx => k x (List.mem_cons_of_mem _ hx)) (by simp at hl ⊢; omega)]
    simp [List.replicate_succ]
theorem all_yes : ∀ n : Nat, allF [.lst (List.replicate n (.bl true))] = some (.bl true) := by
  intro n
  have e : blsD (List.replicate n (D.bl true)) = some (List.replicate n true) := by
    induction n with
    | zero => rfl
    | succ n ih =>
      rw [List.replicate_succ]
      show (match some true, blsD (List.replicate n (D.bl true)) with | some b, some bs => some (b :: bs) | _, _ => none) = _
      rw [ih]; rfl
  show (blsD (List.replicate n (D.bl true))).map (fun bs => D.bl (bs.all id)) = _
  rw [e]; simp
theorem is_chain {o o' : D → D → Option D} {f g k : Den D} {ρ : Rho} {h : Hl} {U : D → Hl → Prop} : (dChain o o' f g k ρ h).Is U = (f ρ h).Is fun d h1 => (g ρ h1).Is fun e h2 => (optR (o d e) h2).Is fun x h2 => BlI x fun b => if b = true then (k ρ h2).Is fun z h3 => (optR (o' e z) h3).Is U else U (.bl false) h2 := by
  unfold dChain
  rw [is_bind]; congr; funext d h1
  rw [is_bind]; congr; funext e h2
  cases o d e with
  | none => rw [Res.is_bad]; exact (Res.is_bad).symm
  | some x =>
    rw [is_some]
    cases x with
    | bl b => cases b <;> simp [is_bind]
    | _ => exact Res.is_bad
theorem at2 {α : Type} {a b c : α} {l : List α} : atI (a :: b :: c :: l) 2 = some c := by
  unfold atI ixN
  rw [if_pos (by omega), if_pos (by simp; omega)]
  rfl
theorem cut3 {a b c : D} {l : List D} : sliceD none (some 3) (.lst (a :: b :: c :: l)) = some (.lst [a, b, c]) := by
  have : HT.sIx (a :: b :: c :: l).length (a :: b :: c :: l).length (some 3) = 3 := by
    have := HT.sIx_nat (a :: b :: c :: l).length (a :: b :: c :: l).length 3
    refine this.trans ?_
    simp
  simp only [sliceD, Pf.cutD, this]
  rfl
theorem cut3' {a b c : D} {l : List D} : sliceD (some 3) none (.lst (a :: b :: c :: l)) = some (.lst l) := by
  have : HT.sIx (a :: b :: c :: l).length 0 (some 3) = 3 := by
    have := HT.sIx_nat (a :: b :: c :: l).length 0 3
    refine this.trans ?_
    simp
  simp only [sliceD, Pf.cutD, this]
  simp [HT.sIx]
theorem cutL {q : D} {l : List D} : sliceD none (some (-1)) (.lst (l ++ [q])) = some (.lst l) := by
  have : HT.sIx (l ++ [q]).length (l ++ [q]).length (some (-1)) = l.length := by
    simp [HT.sIx]; omega
  simp only [sliceD, Pf.cutD, this]
  simp [HT.sIx]
theorem cutT {q : D} {l : List D} : sliceD none (some (-1)) (.tup (l ++ [q])) = some (.tup l) := by
  have e : HT.sIx (l ++ [q]).length (l ++ [q]).length (some (-1)) = l.length := by
    simp [HT.sIx]; omega
  have w : isWhole (l ++ [q]).length none (some (-1)) = false := by
    unfold isWhole; rw [e]; simp
  simp only [sliceD, w]
  simp only [Pf.cutD, e]
  simp [HT.sIx]
theorem atL {q : D} {l : List D} : atI (l ++ [q]) (-1) = some q := by
  unfold atI ixN
  rw [if_neg (by omega), if_pos (by simp; omega)]
  have : (-1 + (((l ++ [q]).length : Nat) : Int)).toNat = l.length := by simp; omega
  simp only [Option.bind_some]
  rw [this]; simp
theorem w_row {h : Hl} {ks : List Str} {e : En} {P : D → Hl → Prop} (nr : Nr h) (hk : ks ∈ menu) (v : VE ks e) (k : P (.ins "Cell" [("key", .tup [.str e.m, .str e.i, .str e.r]), ("options", wt e.ws)]) h) : (runB 8 b_parsed_row [.str (rowT e), wt ks] h).Is P := by
  obtain ⟨hw, l4, l7⟩ := v.wd hk
  have lr := (ln_row hk v).len
  have es : splitO (.str (rowT e)) [.str " "] = some (.lst (e.wds.map .str)) := by rw [split_w sp0 (by omega), row_words hk v]
  rw [is_runB]
  unfold b_parsed_row
  refine seq_eq (ρ1 := [.v (.str (rowT e)), .v (wt ks), .no, .no, .no, .no, .no, .no]) (h1 := h) ?_ ?_
  · simp [is_str]
  refine seq_eq (ρ1 := [.v (.str (rowT e)), .v (wt ks), .v (.lst (.str e.m :: .str e.i :: .str e.r :: e.ws.map .str)), .no, .no, .no, .no, .no]) (h1 := h) ?_ ?_
  · simp [isStrD, es, En.wds]
  obtain ⟨os, q, hws, hq, hol, hval⟩ := v.w
  have hm : decide (e.m ∈ ks) = true := decide_eq_true v.m
  have hi : decide (e.i ∈ ks) = true := decide_eq_true v.i
  have ir : inA (.str e.r) (.kup [.str "<", .str "=", .str ">"]) = some true := by
    have := inA_wk (x := e.r) (ws := rels)
    rw [decide_eq_true v.r] at this
    exact this
  have im : inA (.str e.m) (wt ks) = some true := by rw [inA_wt, hm]
  have ii : inA (.str e.i) (wt ks) = some true := by rw [inA_wt, hi]
  have eo : e.ws.map D.str = os.map D.str ++ [.str q] := by rw [hws, List.map_append]; rfl
  have hl : e.ws.length = os.length + 1 := by rw [hws]; simp
  refine seq_eq (ρ1 := [.v (.str (rowT e)), .v (wt ks), .v (.lst (.str e.m :: .str e.i :: .str e.r :: e.ws.map .str)), .no, .no, .no, .no, .no]) (h1 := h) ?_ ?_
  · simp [is_chain, at2, ir]
    omega
  refine seq_eq (ρ1 := [.v (.str (rowT e)), .v (wt ks), .v (.lst (.str e.m :: .str e.i :: .str e.r :: e.ws.map .str)), .v (.str e.m), .v (.str e.i), .v (.str e.r), .no, .no]) (h1 := h) ?_ ?_
  · simp [cut3]
  refine seq_eq (ρ1 := [.v (.str (rowT e)), .v (wt ks), .v (.lst (.str e.m :: .str e.i :: .str e.r :: e.ws.map .str)), .v (.str e.m), .v (.str e.i), .v (.str e.r), .v (wl e.ws), .no]) (h1 := h) ?_ ?_
  · simp [cut3', wl]
  refine seq_eq (ρ1 := [.v (.str (rowT e)), .v (wt ks), .v (.lst (.str e.m :: .str e.i :: .str e.r :: e.ws.map .str)), .v (.str e.m), .v (.str e.i), .v (.str e.r), .v (wl e.ws), .no]) (h1 := h) ?_ ?_
  · simp [im, ii, neg_i, atR_wl]
    simp [wl, eo, atL, e_res h hk v.m hq]
  refine seq_eq (ρ1 := [.v (.str (rowT e)), .v (wt ks), .v (.lst (.str e.m :: .str e.i :: .str e.r :: e.ws.map .str)), .v (.str e.m), .v (.str e.i), .v (.str e.r), .v (wl e.ws), .no]) (h1 := h) ?_ ?_
  · simp [neg_i, wl, eo, cutL]
    refine Res.Is.of_eq (h := h) (cmp_yes (ds := os.map D.str) (acc := []) (fun d hd => ?_) (by simp; omega)) ?_
    · obtain ⟨o, ho, rfl⟩ := List.mem_map.mp hd
      exact ⟨_, rfl, e_opt h hk v.m v.i (hval o ho)⟩
    · simp [all_yes]
  · have nk : noRef (.tup [.str e.m, .str e.i, .str e.r]) = true := rfl
    have nw : noRef (wt e.ws) = true := by
      show noRefs (e.ws.map D.str) = true
      induction e.ws with
      | nil => rfl
      | cons a l ih => exact ih
    simp [tup_l, wl, dMake, is_bind, e_cell nr nk nw]
    exact k
end K33
end
section
set_option maxRecDepth 100000
set_option maxHeartbeats 1000000
namespace K33
open PySem PySem.Spec PyProof.Rows L2 LamX Pf
def entT (e : En) : DK × D := (e.key, wt e.ws)
theorem enum_t {ds : List D} : enumO [.tup ds] = some (enumD ds) := rfl
theorem enum_at {ds : List D} {j : Nat} {d : D} (h : ds[j]? = some d) : (enumD ds)[j]? = some (.tup [.int (j : Nat), d]) := by
  have hj : j < ds.length := by
    rcases Nat.lt_or_ge j ds.length with z | z
    · exact z
    · rw [List.getElem?_eq_none z] at h; cases h
  unfold enumD
  rw [List.getElem?_zipWith, h, List.getElem?_range hj]
theorem enum_len {ds : List D} : (enumD ds).length = ds.length := by unfold enumD; simp
theorem not_before {es : List En} {j : Nat} {e : En} (nd : (es.map En.key).Nodup) (h : es[j]? = some e) : e.key ∉ (es.take j).map En.key := by
  have hd : e ∈ es.drop j := by
    rw [List.mem_iff_getElem?]
    exact ⟨0, by rw [List.getElem?_drop]; exact h⟩
  rw [← List.take_append_drop j es, List.map_append, List.nodup_append] at nd
  exact fun hm => nd.2.2 _ hm _ (List.mem_map.mpr ⟨e, hd, rfl⟩) rfl
theorem getA_none {α : Type} {kvs : List (DK × α)} {k : DK} (h : k ∉ kvs.map (·.1)) : getA kvs k = none := by
  unfold getA
  rw [List.find?_eq_none.mpr]
  · rfl
  · intro x hx
    simp only [decide_eq_true_eq]
    exact fun e => h (by rw [← e]; exact List.mem_map.mpr ⟨x, hx, rfl⟩)
theorem putA_new {α : Type} {kvs : List (DK × α)} {k : DK} {v : α} (h : k ∉ kvs.map (·.1)) : putA kvs k v = kvs ++ [(k, v)] := by
  unfold putA
  rw [if_neg]
  intro z
  obtain ⟨x, hx, e⟩ := List.any_eq_true.mp z
  exact h (by rw [← of_decide_eq_true e]; exact List.mem_map.mpr ⟨x, hx, rfl⟩)
theorem isn_i {c : Str} {fs : List (Str × D)} : isND (.ins c fs) .non = some (.bl false) := rfl
theorem fld_key {a b : D} : fldD ["Cell"] "key" (.ins "Cell" [("key", a), ("options", b)]) = some a := by
  have : (("key" : Str) == "key") = true := by decide +kernel
  simp [fldD, List.lookup, this]
theorem fld_opt {a b : D} : fldD ["Cell"] "options" (.ins "Cell" [("key", a), ("options", b)]) = some b := by
  have h1 : (("options" : Str) == "key") = false := by decide +kernel
  have h2 : (("options" : Str) == "options") = true := by decide +kernel
  simp [fldD, List.lookup, h1, h2]
theorem in_t {kvs : List (DK × D)} {m i q : Str} : inA (.tup [.str m, .str i, .str q]) (.dct true kvs) = some (getA kvs (.t [.inr m, .inr i, .inr q])).isSome := rfl
theorem w_rows {h : Hl} {ks : List Str} {es : List En} {P : D → Hl → Prop} (nr : Nr h) (hk : ks ∈ menu) (c : CI ks 15 es) (k : P (.dct true (es.map entT)) h) : (runB 6 b_check_rows [wt ks, .tup ((es.map rowT).map .str)] h).Is P := by
  have hle := c.len
  rw [is_runB]
  unfold b_check_rows
  refine seq_eq (ρ1 := [.v (wt ks), .v (.tup ((es.map rowT).map .str)), .no, .no, .no, .no]) (h1 := h) ?_ ?_
  · simp [is_tupT]
  refine seq_eq (ρ1 := [.v (wt ks), .v (.tup ((es.map rowT).map .str)), .own (.dct true []), .no, .no, .no]) (h1 := h) ?_ ?_
  · simp
  refine seq_is (fun ρ1 h1 => h1 = h ∧ ∃ a b d, ρ1 = [.v (wt ks), .v (.tup ((es.map rowT).map .str)), .own (.dct true (es.map entT)), a, b, d]) ?_ ?_
  · simp only [is_for, is_overA, is_cons, is_var, is_nil]
    simp [enum_t]
    refine is_loop (fun j ρ1 h1 => h1 = h ∧ ∃ a b d, ρ1 = [.v (wt ks), .v (.tup ((es.map rowT).map .str)), .own (.dct true ((es.map entT).take j)), a, b, d]) (n := 0) ⟨rfl, .no, .no, .no, by simp⟩ ?_ ?_
    · rintro j d ρ1 h1 he ⟨rfl, a, b, d', rfl⟩
      have hj : j < es.length := by
        rcases Nat.lt_or_ge j es.length with z | z
        · exact z
        · rw [List.getElem?_eq_none (by rw [enum_len]; simpa using z)] at he; cases he
      have hje : es[j]? = some es[j] := List.getElem?_eq_getElem hj
      have he2 := enum_at (ds := es.map (D.str ∘ rowT)) (j := j) (d := .str (rowT es[j])) (by rw [List.getElem?_map, hje]; rfl)
      rw [he2] at he; cases he
      have v := c.ve es[j] (List.getElem_mem hj)
      have nb : es[j].key ∉ ((es.map entT).take j).map (·.1) := by
        rw [← List.map_take, List.map_map]; exact not_before c.nd hje
      simp
      refine w_row nr hk v ?_
      have gn : getA (List.take j (List.map entT es)) (.t [.inr es[j].m, .inr es[j].i, .inr es[j].r]) = none := getA_none nb
      have pn : putA (List.take j (List.map entT es)) (.t [.inr es[j].m, .inr es[j].i, .inr es[j].r]) (wt es[j].ws) = List.take j (List.map entT es) ++ [entT es[j]] := putA_new nb
      simp [isn_i, fld_key, fld_opt, in_t, chg, put_t, gn, pn]
      refine ⟨by omega, ?_⟩
      rw [List.take_add_one, List.getElem?_map, hje]; rfl
    · rintro ρ1 h1 ⟨rfl, a, b, d, rfl⟩
      refine ⟨rfl, rfl, a, b, d, ?_⟩
      rw [enum_len]; simp
      rw [List.take_of_length_le (by simp)]
  · rintro ρ1 h1 ⟨rfl, a, b, d, rfl⟩
    simp [sFreeze]
    exact k
end K33
end
section
set_option maxRecDepth 100000
set_option maxHeartbeats 1000000
namespace K33
open PySem PySem.Spec PyProof.Rows L2 LamX Pf
theorem is_to_eq {α : Type} {r : Res α} {a0 : α} {h0 : Hl} (i : r.Is fun a h1 => a = a0 ∧ h1 = h0) : r = .ok a0 h0 := by
  cases r with
  | ok a h => rw [Res.is_ok] at i; obtain ⟨rfl, rfl⟩ := i; rfl
  | _ => exact i.go.elim
theorem sis_to_eq {r : SRes} {f0 : Fl} {ρ0 : Rho} {h0 : Hl} (i : r.Is fun f ρ h1 => f = f0 ∧ ρ = ρ0 ∧ h1 = h0) : r = .ok f0 ρ0 h0 := by
  cases r with
  | ok a ρ h => rw [SRes.is_ok] at i; obtain ⟨rfl, rfl, rfl⟩ := i; rfl
  | _ => exact i.go.elim
theorem seq_ok {f g : SDen} {ρ ρ1 : Rho} {h h1 : Hl} (e : f ρ h = .ok .next ρ1 h1) : sSeq f g ρ h = g ρ1 h1 := by
  show (f ρ h).then g = _
  rw [e]; rfl
def tabF (ks : List Str) (es : List En) : List (Str × D) := [("cells", .dct true (es.map entT)), ("held_kinds", wt ks), ("held_rows", .tup ((es.map rowT).map .str))]
def tabD (ks : List Str) (es : List En) : D := .ins "Table" (tabF ks es)
theorem nr_words : ∀ ws : List Str, noRefs (ws.map D.str) = true
  | [] => rfl
  | _ :: ws => nr_words ws
theorem nr_ents : ∀ es : List En, noRefK (es.map entT) = true
  | [] => rfl
  | e :: es => by
    show (noRefs (e.ws.map D.str) && noRefK (es.map entT)) = true
    rw [nr_words, nr_ents]; rfl
theorem nr_tab (ks : List Str) (es : List En) : noRefF (tabF ks es) = true := by
  show (noRefK (es.map entT) && (noRefs (ks.map D.str) && (noRefs ((es.map rowT).map D.str) && true))) = true
  rw [nr_words, nr_words, nr_ents]; rfl
theorem e_init {h : Hl} {ks : List Str} {es : List En} {r : Nat} (nr : Nr h) (hr : h[r]? = some (.ins "Table" [])) (hk : ks ∈ menu) (c : CI ks 15 es) : runB 3 b_Table___init__ [.ref r, wt ks, .tup ((es.map rowT).map .str)] h = .ok .non (h.set r (.ins "Table" (tabF ks es))) := by
  have hl : r < h.length := by
    rcases Nat.lt_or_ge r h.length with z | z
    · exact z
    · rw [List.getElem?_eq_none z] at hr; cases hr
  let ρ : Rho := [.v (.ref r), .v (wt ks), .v (.tup ((es.map rowT).map .str))]
  have e0 : sExpr (dCall (runB 1 b_check_kinds) (dCons (dVar 1) (dNil))) ρ h = .ok .next ρ h := by
    show sBind (runB 1 b_check_kinds [wt ks] h) ρ _ = _
    rw [e_kin h hk]; rfl
  have er : dCall (runB 6 b_check_rows) (dCons (dVar 1) (dCons (dVar 2) (dNil))) ρ h = .ok (.dct true (es.map entT)) h := by
    show runB 6 b_check_rows [wt ks, .tup ((es.map rowT).map .str)] h = _
    exact is_to_eq (w_rows nr hk c ⟨rfl, rfl⟩)
  have e1 : sFput ["Table"] 0 "cells" (dCall (runB 6 b_check_rows) (dCons (dVar 1) (dCons (dVar 2) (dNil)))) ρ h = .ok .next ρ (h.set r (.ins "Table" [("cells", .dct true (es.map entT))])) := fput_ref er rfl hr rfl (by simp)
  have h2 : ∀ x, putFD "held_kinds" x [("cells", D.dct true (es.map entT))] = ([("cells", .dct true (es.map entT)), ("held_kinds", x)] : List (Str × D)) := fun x => by simp only [putFD]; rw [if_neg (by decide +kernel)]
  have e2 : sFput ["Table"] 0 "held_kinds" (dVar 1) ρ (h.set r (.ins "Table" [("cells", .dct true (es.map entT))])) = .ok .next ρ ((h.set r (.ins "Table" [("cells", .dct true (es.map entT))])).set r (.ins "Table" [("cells", .dct true (es.map entT)), ("held_kinds", wt ks)])) :=
    (fput_ref rfl rfl (List.getElem?_set_self hl) rfl (by simp)).trans (by rw [h2])
  rw [List.set_set] at e2
  have h3 : ∀ x, putFD "held_rows" x [("cells", D.dct true (es.map entT)), ("held_kinds", wt ks)] = ([("cells", .dct true (es.map entT)), ("held_kinds", wt ks), ("held_rows", x)] : List (Str × D)) := fun x => by simp only [putFD]; rw [if_neg (by decide +kernel), if_neg (by decide +kernel)]
  have e3 : sFput ["Table"] 0 "held_rows" (dVar 2) ρ (h.set r (.ins "Table" [("cells", .dct true (es.map entT)), ("held_kinds", wt ks)])) = .ok .next ρ ((h.set r (.ins "Table" [("cells", .dct true (es.map entT)), ("held_kinds", wt ks)])).set r (.ins "Table" (tabF ks es))) :=
    (fput_ref rfl rfl (List.getElem?_set_self hl) rfl (by simp)).trans (by rw [h3]; rfl)
  rw [List.set_set] at e3
  have eb : b_Table___init__ ρ h = .ok .next ρ (h.set r (.ins "Table" (tabF ks es))) := by
    unfold b_Table___init__
    rw [seq_ok e0, seq_ok e1, seq_ok e2, e3]
  show (match b_Table___init__ ρ h with
    | .ok (.ret d) _ h' => Res.ok d h'
    | .ok .next _ h' => .ok .non h'
    | .exc c fs _ h' => .exc c fs h'
    | _ => .bad) = _
  rw [eb]
theorem e_table {h : Hl} {ks : List Str} {es : List En} (nr : Nr h) (hk : ks ∈ menu) (c : CI ks 15 es) : mkV "Table" (runB 3 b_Table___init__) [wt ks, .tup ((es.map rowT).map .str)] h = .ok (tabD ks es) h := by
  unfold mkV
  rw [e_init (fun o ho => by rcases List.mem_append.mp ho with z | z; exact nr o z; rw [List.mem_singleton.mp z]; rfl) (by simp) hk c]
  have e : (h ++ [O.ins "Table" []]).set h.length (O.ins "Table" (tabF ks es)) = h ++ [O.ins "Table" (tabF ks es)] := by
    rw [List.set_append_right _ _ (Nat.le_refl _)]; simp
  rw [e]
  simp [mkFin, nr_tab]
  exact if_pos nr
theorem w_read {h : Hl} {ks : List Str} {es : List En} {P : D → Hl → Prop} (nr : Nr h) (hk : ks ∈ menu) (c : CI ks 15 es) (k : P (tabD ks es) h) : (runB 7 b_Table_read [.cls "Table", .str (textOf ks es)] h).Is P := by
  have tlen := text_len hk c
  have hl := (ln_head hk).len
  have e1 : splitO (.str (textOf ks es)) [.str "\n"] = some (.lst (.str (headT ks) :: (es.map rowT).map .str)) := by rw [split_w nl0 (by omega), text_lines hk c]; rfl
  have e2 : splitO (.str (headT ks)) [.str " "] = some (.lst (.str "kinds" :: ks.map .str)) := by rw [split_w sp0 (by omega), head_words hk]; rfl
  rw [is_runB]
  unfold b_Table_read
  refine seq_eq (ρ1 := [.v (.cls "Table"), .v (.str (textOf ks es)), .no, .no, .no, .no, .no]) (h1 := h) ?_ ?_
  · simp [is_str]
  refine seq_eq (ρ1 := [.v (.cls "Table"), .v (.str (textOf ks es)), .v (.str (headT ks)), .v (.lst ((es.map rowT).map .str)), .no, .no, .no]) (h1 := h) ?_ ?_
  · simp [isStrD, e1, gStar, TgI, gsCons, gsNil, gSlot]
  refine seq_eq (ρ1 := [.v (.cls "Table"), .v (.str (textOf ks es)), .v (.str (headT ks)), .v (.lst ((es.map rowT).map .str)), .v (.str "kinds"), .v (wl ks), .no]) (h1 := h) ?_ ?_
  · simp [isStrD, e2, gStar, TgI, gsCons, gsNil, gSlot, wl]
  refine seq_to (ρ1 := [.v (.cls "Table"), .v (.str (textOf ks es)), .v (.str (headT ks)), .v (.lst ((es.map rowT).map .str)), .v (.str "kinds"), .v (wl ks), .v (tabD ks es)]) (h1 := h) ?_ ?_
  · have em : dMakeV 0 "Table" (runB 3 b_Table___init__) (dCons (dFn tupleF (dCons (dVar 5) (dNil))) (dCons (dFn tupleF (dCons (dVar 3) (dNil))) (dNil))) [.v (.cls "Table"), .v (.str (textOf ks es)), .v (.str (headT ks)), .v (.lst ((es.map rowT).map .str)), .v (.str "kinds"), .v (wl ks), .no] h = .ok (tabD ks es) h := by
      show mkV "Table" (runB 3 b_Table___init__) [wt ks, .tup ((es.map rowT).map .str)] h = _
      exact e_table nr hk c
    show noExc (sBind (dMakeV 0 "Table" (runB 3 b_Table___init__) _ _ h) _ _) = _
    rw [em]; rfl
  refine seq_eq (ρ1 := [.v (.cls "Table"), .v (.str (textOf ks es)), .v (.str (headT ks)), .v (.lst ((es.map rowT).map .str)), .v (.str "kinds"), .v (wl ks), .v (tabD ks es)]) (h1 := h) ?_ ?_
  · simp
  · simp; exact k
theorem fld_cells {ks : List Str} {es : List En} : fldD ["Table"] "cells" (tabD ks es) = some (.dct true (es.map entT)) := by
  have h1 : (("cells" : Str) == "cells") = true := by decide +kernel
  simp [tabD, tabF, fldD, List.lookup, h1]
theorem fld_kinds {ks : List Str} {es : List En} : fldD ["Table"] "held_kinds" (tabD ks es) = some (wt ks) := by
  have h1 : (("held_kinds" : Str) == "cells") = false := by decide +kernel
  have h2 : (("held_kinds" : Str) == "held_kinds") = true := by decide +kernel
  simp [tabD, tabF, fldD, List.lookup, h1, h2]
theorem fld_rows {ks : List Str} {es : List En} : fldD ["Table"] "held_rows" (tabD ks es) = some (.tup ((es.map rowT).map .str)) := by
  have h1 : (("held_rows" : Str) == "cells") = false := by decide +kernel
  have h2 : (("held_rows" : Str) == "held_kinds") = false := by decide +kernel
  have h3 : (("held_rows" : Str) == "held_rows") = true := by decide +kernel
  simp [tabD, tabF, fldD, List.lookup, h1, h2, h3]
theorem atR_tab {ks : List Str} {es : List En} {h : Hl} : atR (tabD ks es) h = tabD ks es := rfl
theorem join_head {ks : List Str} (hk : ks ∈ menu) : joinO (.str " ") [.lst (.str "kinds" :: ks.map D.str)] = some (.str (headT ks)) := by
  have hml := (menu_ne ks hk).2
  have hw : ∀ w ∈ (("kinds" : Str) :: ks), w.length ≤ 10 := fun w hw => by
    rcases List.mem_cons.mp hw with rfl | z
    · exact (Wd.of wd_kinds).len
    · exact (Wd.of (List.all_eq_true.mp (wd_menu ks hk) w z)).len
  exact join_w (ws := ("kinds" : Str) :: ks) (n := 10) (m := 4) hw (by simp; omega) (by rw [len_sp]; omega)
theorem join_text {ks : List Str} {es : List En} (hk : ks ∈ menu) (c : CI ks 15 es) : joinO (.str "\n") [.lst (.str (headT ks) :: (es.map rowT).map D.str)] = some (.str (textOf ks es)) := by
  have hln := lines_ln hk c
  exact join_w (ws := headT ks :: es.map rowT) (n := 77) (m := 16) (fun w hw => (hln w hw).len) (by have := c.len; simp; omega) (by rw [len_nl]; omega)
theorem w_str {h : Hl} {ks : List Str} {es : List En} (hk : ks ∈ menu) (c : CI ks 15 es) : runB 1 b_Table___str__ [tabD ks es] h = .ok (.str (textOf ks es)) h := by
  have hml := (menu_ne ks hk).2
  have hle := c.len
  have j2 := join_text hk c
  rw [List.map_map] at j2
  refine is_to_eq ?_
  rw [is_runB]
  simp [b_Table___str__, isStrD, fld_kinds, fld_rows, atR_tab, join_head hk, j2]
  omega
end K33
end
section
set_option maxRecDepth 100000
set_option maxHeartbeats 1000000
namespace K33
open PySem PySem.Spec PyProof.Rows L2 LamX Pf
def edD (m : Str) (p : Int) (s : Str) : D := if m = "out" then .tup [.str m, .int p] else .tup [.str m, .int p, .str s]
def paD (i : Str) : D := edD i 1 "b"
theorem ed0 {m s : Str} {p : Int} : ixA (edD m p s) (.int 0) = some (.str m) := by unfold edD; split <;> rfl
theorem ed1 {m s : Str} {p : Int} : ixA (edD m p s) (.int 1) = some (.int p) := by unfold edD; split <;> rfl
theorem atR_ed {m s : Str} {p : Int} {h : Hl} : atR (edD m p s) h = edD m p s := by unfold edD; split <;> rfl
def ps3 : List Int := [0, 1, 2]
def ss3 : List Str := ["a", "b", "c"]
def kinds3 : List Str := ["put", "out", "set"]
theorem menu_k3 : ∀ ks ∈ menu, ∀ m ∈ ks, m ∈ kinds3 := by decide +kernel
/-- condition, mine, its, place, sign, is_first -/
abbrev HT6 : Type := Str × Str × Str × Int × Str × Bool
def qHold : List HT6 := kinds3.flatMap fun m => kinds3.flatMap fun i => (conW m i).flatMap fun c => ps3.flatMap fun p => ss3.flatMap fun s => [true, false].map fun b => (c, m, i, p, s, b)
def runHold (t : HT6) (h : Hl) : Res D := runB 4 b_does_hold [.str t.1, edD t.2.1 t.2.2.2.1 t.2.2.2.2.1, paD t.2.2.1, .bl t.2.2.2.2.2] h
def hv (t : HT6) : Bool := match runHold t [] with
  | .ok (.bl b) _ => b
  | _ => false
theorem a_hold (h : Hl) : qHold.map (fun t => runHold t h) = qHold.map fun t => .ok (.bl (hv t)) h := by kernel_rfl
theorem e_hold (h : Hl) {c m i s : Str} {p : Int} {b : Bool} (hm : m ∈ kinds3) (hi : i ∈ kinds3) (hc : c ∈ conW m i) (hp : p ∈ ps3) (hs : s ∈ ss3) : runB 4 b_does_hold [.str c, edD m p s, paD i, .bl b] h = .ok (.bl (hv (c, m, i, p, s, b))) h :=
  List.map_inj_left.mp (a_hold h) (c, m, i, p, s, b) (List.mem_flatMap.mpr ⟨m, hm, List.mem_flatMap.mpr ⟨i, hi, List.mem_flatMap.mpr ⟨c, hc, List.mem_flatMap.mpr ⟨p, hp, List.mem_flatMap.mpr ⟨s, hs, List.mem_map.mpr ⟨b, by cases b <;> decide, rfl⟩⟩⟩⟩⟩⟩)
abbrev TT4 : Type := Str × Str × Int × Str
def qTurn : List TT4 := menu.flatMap fun ks => ks.flatMap fun m => (resW m ks).flatMap fun q => ps3.flatMap fun p => ss3.map fun s => (q, m, p, s)
def runTurn (t : TT4) (h : Hl) : Res D := runB 3 b_turned [edD t.2.1 t.2.2.1 t.2.2.2, .str t.1] h
def tvD (t : TT4) : D := match runTurn t [] with
  | .ok d _ => d
  | _ => .non
def gdB (d : D) : Bool := match d with
  | .tup _ => (match py d with
    | some p => SeqAt.shaped p
    | none => false)
  | _ => false
theorem a_turn (h : Hl) : qTurn.map (fun t => runTurn t h) = qTurn.map fun t => .ok (tvD t) h := by kernel_rfl
theorem a_gd : qTurn.all (fun t => gdB (tvD t)) = true := by kernel_rfl
theorem e_turn (h : Hl) {ks : List Str} {q m s : Str} {p : Int} (hk : ks ∈ menu) (hm : m ∈ ks) (hq : q ∈ resW m ks) (hp : p ∈ ps3) (hs : s ∈ ss3) : runB 3 b_turned [edD m p s, .str q] h = .ok (tvD (q, m, p, s)) h ∧ gdB (tvD (q, m, p, s)) = true := by
  have hmem : (q, m, p, s) ∈ qTurn := List.mem_flatMap.mpr ⟨ks, hk, List.mem_flatMap.mpr ⟨m, hm, List.mem_flatMap.mpr ⟨q, hq, List.mem_flatMap.mpr ⟨p, hp, List.mem_map.mpr ⟨s, hs, rfl⟩⟩⟩⟩⟩
  exact ⟨List.map_inj_left.mp (a_turn h) _ hmem, List.all_eq_true.mp a_gd _ hmem⟩
/-- mine, its, place, sign, is_first -/
abbrev P5 : Type := Str × Str × Int × Str × Bool
def prs (ks : List Str) : List P5 := ks.flatMap fun (m : Str) => ks.flatMap fun (i : Str) => ps3.flatMap fun p => (if m ≠ "out" ∧ i ≠ "out" then ss3 else ["a"] : List Str).flatMap fun s => [true, false].map fun b => (m, i, p, s, b)
def prD (t : P5) : D := .tup [edD t.1 t.2.2.1 t.2.2.2.1, paD t.2.1, .bl t.2.2.2.2]
theorem a_prs : menu.map (fun ks => runG 8 gd_pairs_of [wt ks]) = menu.map fun ks => some ((prs ks).map prD) := by kernel_rfl
theorem e_prs {ks : List Str} (hk : ks ∈ menu) : runG 8 gd_pairs_of [wt ks] = some ((prs ks).map prD) := List.map_inj_left.mp a_prs ks hk
theorem part_o : ∀ c ∈ (["first", "less", "same", "more"] : List Str), ∀ q ∈ (["keep", "up", "down", "stay", "put"] : List Str), Txt.partition (c ++ ":" ++ q) ":" = (c, (":" : Str), q) := by decide +kernel
end K33
end
section
set_option maxRecDepth 100000
set_option maxHeartbeats 1000000
namespace K33
open PySem PySem.Spec PyProof.Rows L2 LamX Pf
theorem is_loopR {tg : Tg} {b : SDen} {S : Fl → Rho → Hl → Prop} (J : Nat → Rho → Hl → Prop) : ∀ {ds : List D} {n : Nat} {ρ : Rho} {h : Hl}, J n ρ h →
    (∀ (i : Nat) (d : D) (ρ : Rho) (h : Hl), ds[i]? = some d → J (n + i) ρ h → TgI (tg d ρ h) fun ρ1 h1 => (b ρ1 h1).Is fun fl ρ2 h2 => (fl = .next ∧ J (n + i + 1) ρ2 h2) ∨ ∃ d, fl = .ret d ∧ S (.ret d) ρ2 h2) →
    (∀ ρ h, J (n + ds.length) ρ h → S .next ρ h) → (loopS tg b ds ρ h).Is S
  | [], n, ρ, h, j, _, k => ⟨k ρ h j⟩
  | d :: ds, n, ρ, h, j, st, k => by
    have i := st 0 d ρ h rfl j
    unfold loopS
    cases e : tg d ρ h with
    | none => rw [e] at i; exact i.elim
    | some q =>
    rw [e] at i
    obtain ⟨ρ1, h1⟩ := q
    simp only [TgI_some] at i ⊢
    cases r : b ρ1 h1 with
    | ok fl ρ2 h2 =>
      rw [r, SRes.is_ok] at i
      rcases i with ⟨rfl, j2⟩ | ⟨d', rfl, z⟩
      · exact is_loopR J (n := n + 1) j2 (fun i d ρ h e2 j3 => by
          have := st (i + 1) d ρ h e2 (by rw [show n + (i + 1) = n + 1 + i by omega]; exact j3)
          rw [show n + (i + 1) + 1 = n + 1 + i + 1 by omega] at this
          exact this) fun ρ h j3 => k ρ h (by rw [List.length_cons, show n + (ds.length + 1) = n + 1 + ds.length by omega]; exact j3)
      · exact ⟨z⟩
    | _ => rw [r] at i; exact i.go.elim
theorem part_w {a b : Str} (h0 : (b.length == 0) = false) (h : a.length ≤ 16777216) : partO (.str a) [.str b] = some (.tup [.str (Txt.partition a b).1, .str (Txt.partition a b).2.1, .str (Txt.partition a b).2.2]) := if_pos ⟨h0, h⟩
theorem co0 : ((":" : Str).length == 0) = false := by decide +kernel
theorem w_result {h : Hl} {ks : List Str} {m i s : Str} {p : Int} {b : Bool} {ws : List Str} {P : D → Hl → Prop} (hk : ks ∈ menu) (hm : m ∈ ks) (hi : i ∈ ks) (hp : p ∈ ps3) (hs : s ∈ ss3) (v : VW ks m i ws) (k : ∀ q ∈ resW m ks, P (.str q) h) : (runB 8 b_result_of [wt ws, edD m p s, paD i, .bl b] h).Is P := by
  obtain ⟨os, q, rfl, hq, hol, hval⟩ := v
  have hm3 := menu_k3 ks hk m hm
  have hi3 := menu_k3 ks hk i hi
  have eo : (os ++ [q]).map D.str = os.map D.str ++ [.str q] := by rw [List.map_append]; rfl
  rw [is_runB]
  simp only [wt, eo]
  unfold b_result_of
  rw [is_seq]
  simp [neg_i, cutT]
  refine is_loopR (fun j ρ1 h1 => h1 = h ∧ ∃ x4 x5 x6 x7, ρ1 = [.v (.tup (os.map D.str ++ [.str q])), .v (edD m p s), .v (paD i), .v (.bl b), x4, x5, x6, x7]) (n := 0) ⟨rfl, .no, .no, .no, .no, rfl⟩ ?_ ?_
  · rintro j d ρ1 h1 he ⟨rfl, x4, x5, x6, x7, rfl⟩
    obtain ⟨o, ho, rfl⟩ := List.mem_map.mp (List.mem_of_getElem? he)
    obtain ⟨c, hc, q', hq', rfl⟩ := hval o ho
    have hle := (wd_opt ⟨c, hc, q', hq', rfl⟩ : Wd 10 _).len
    have ep : partO (.str (c ++ ":" ++ q')) [.str ":"] = some (.tup [.str c, .str ":", .str q']) := by
      rw [part_w co0 (by omega), part_o c (conW_mem hc) q' (resW_mem hq')]
    simp [isStrD, ep, e_hold h1 hm3 hi3 hc hp hs]
    exact fun _ => k q' hq'
  · rintro ρ1 h1 ⟨rfl, x4, x5, x6, x7, rfl⟩
    simp [neg_i, atL]
    exact k q hq
theorem getA_mem {α : Type} {kvs : List (DK × α)} {k : DK} {v : α} (h : getA kvs k = some v) : (k, v) ∈ kvs := by
  unfold getA at h
  cases e : kvs.find? fun kv => decide (kv.1 = k) with
  | none => rw [e] at h; cases h
  | some x =>
    rw [e] at h; cases h
    have h1 := List.find?_some e
    have h2 := List.mem_of_find?_eq_some e
    have : x.1 = k := of_decide_eq_true h1
    subst this; exact h2
theorem sh_stay : ∀ m ∈ kinds3, (("stay" : Str) == m) = false ∧ ((m : Str) == "stay") = false := by decide +kernel
theorem e_rel (h : Hl) (a b : Int) : ∃ q : Str, runB 2 b_relation_of [.int a, .int b] h = .ok (.str q) h := by
  by_cases e : a = b
  · refine ⟨"=", is_to_eq ?_⟩
    rw [is_runB]; simp [b_relation_of, e]
  · by_cases l : a < b
    · refine ⟨"<", is_to_eq ?_⟩
      rw [is_runB]; simp [b_relation_of, e, l]
    · refine ⟨">", is_to_eq ?_⟩
      rw [is_runB]; simp [b_relation_of, e, l]
theorem vw_keep {ks : List Str} {m i : Str} : VW ks m i ["keep"] := ⟨[], "keep", rfl, List.mem_append_left _ List.mem_cons_self, by decide, nofun⟩
theorem e_opts {h : Hl} {ks : List Str} {es : List En} (c : CI ks 15 es) (m i q : Str) : ∃ ws, VW ks m i ws ∧ runB 4 b_Table_options_of [tabD ks es, .str m, .str i, .str q] h = .ok (wt ws) h := by
  have el : lookD (.dct true (es.map entT)) (.tup [.str m, .str i, .str q]) = some (getA (es.map entT) (.t [.inr m, .inr i, .inr q])) := rfl
  cases g : getA (es.map entT) (.t [.inr m, .inr i, .inr q]) with
  | none =>
    refine ⟨["keep"], vw_keep, is_to_eq ?_⟩
    rw [is_runB]
    simp [b_Table_options_of, dGetB, is_bind, fld_cells, atR_tab, isDct, el, g]
  | some v =>
    obtain ⟨e, he, ee⟩ := List.mem_map.mp (getA_mem g)
    have ek : e.key = .t [.inr m, .inr i, .inr q] := congrArg Prod.fst ee
    have ev : wt e.ws = v := congrArg Prod.snd ee
    have em : e.m = m ∧ e.i = i ∧ e.r = q := by
      simp [En.key] at ek; exact ek
    obtain ⟨rfl, rfl, rfl⟩ := em
    subst ev
    refine ⟨e.ws, (c.ve e he).w, is_to_eq ?_⟩
    rw [is_runB]
    simp [b_Table_options_of, dGetB, is_bind, fld_cells, atR_tab, isDct, el, g]
theorem ins_meth {ks : List Str} {es : List En} {m : Str} (h : ((tabF ks es).lookup m).isNone = true) : insOf "Table" m (tabD ks es) = true := by
  show (decide (("Table" : Str) = "Table") && ((tabF ks es).lookup m).isNone) = true
  rw [h]; simp
theorem no_fld {ks : List Str} {es : List En} {m : Str} (h1 : (m == ("cells" : Str)) = false) (h2 : (m == ("held_kinds" : Str)) = false) (h3 : (m == ("held_rows" : Str)) = false) : ((tabF ks es).lookup m).isNone = true := by
  simp [tabF, List.lookup, h1, h2, h3]
theorem ins_opts {ks : List Str} {es : List En} : insOf "Table" "options_of" (tabD ks es) = true := ins_meth (no_fld (by decide +kernel) (by decide +kernel) (by decide +kernel))
theorem ins_turn {ks : List Str} {es : List En} : insOf "Table" "turn" (tabD ks es) = true := ins_meth (no_fld (by decide +kernel) (by decide +kernel) (by decide +kernel))
theorem ins_any {ks : List Str} {es : List En} : insOf "Table" "" (tabD ks es) = true := ins_meth (no_fld (by decide +kernel) (by decide +kernel) (by decide +kernel))
theorem w_turn {h : Hl} {ks : List Str} {es : List En} {m i s : Str} {p : Int} {b : Bool} (hk : ks ∈ menu) (c : CI ks 15 es) (hm : m ∈ ks) (hi : i ∈ ks) (hp : p ∈ ps3) (hs : s ∈ ss3) : ∃ d, runB 5 b_Table_turn [tabD ks es, edD m p s, paD i, .bl b] h = .ok d h ∧ gdB d = true := by
  have hm3 := menu_k3 ks hk m hm
  have hi3 := menu_k3 ks hk i hi
  obtain ⟨q, eq⟩ := e_rel h p 1
  obtain ⟨ws, v, eo⟩ := e_opts (h := h) c m i q
  obtain ⟨z, hz, er⟩ : ∃ z, z ∈ resW m ks ∧ runB 8 b_result_of [wt ws, edD m p s, paD i, .bl b] h = .ok (.str z) h := by
    have := w_result (h := h) (b := b) (P := fun d h1 => ∃ z, z ∈ resW m ks ∧ d = .str z ∧ h1 = h) hk hm hi hp hs v fun z hz => ⟨z, hz, rfl, rfl⟩
    cases e : runB 8 b_result_of [wt ws, edD m p s, paD i, .bl b] h with
    | ok d h1 => rw [e, Res.is_ok] at this; obtain ⟨z, hz, rfl, rfl⟩ := this; exact ⟨z, hz, rfl⟩
    | _ => rw [e] at this; exact this.go.elim
  obtain ⟨et, gd⟩ := e_turn h hk hm hz hp hs
  refine ⟨_, is_to_eq ?_, gd⟩
  have s1 := (sh_stay m hm3).2
  have s2 := (sh_stay i hi3).2
  have ein : inA (.str "stay") (.tup [.str m, .str i]) = some false := by
    have : inA (.str "stay") (.tup [.str m, .str i]) = some (((m == ("stay" : Str)) || ((i == ("stay" : Str)) || false))) := rfl
    rw [this, s1, s2]; rfl
  have e0 : ixA (paD i) (.int 0) = some (.str i) := ed0
  have e1 : ixA (paD i) (.int 1) = some (.int 1) := ed1
  have ea : atR (paD i) h = paD i := atR_ed
  rw [is_runB]
  unfold b_Table_turn
  rw [is_seq]
  simp [ed0, ed1, atR_ed, e0, e1, ea, ein, dMeth, is_bind, atR_tab, ins_opts, eq, eo, er, et]
end K33
end
section
set_option maxRecDepth 100000
set_option maxHeartbeats 1000000
namespace K33
open PySem PySem.Spec PyProof.Rows L2 LamX Pf
theorem is_noExc {r : SRes} {S : Fl → Rho → Hl → Prop} : (noExc r).Is S = r.Is S := by
  cases r with
  | exc c fs ρ h => exact propext ⟨fun z => z.go.elim, fun z => z.go.elim⟩
  | _ => rfl
theorem ne_gd {d e : D} (hd : gdB d = true) (he : gdB e = true) : ∃ b, neD d e = some (.bl b) := by
  unfold gdB at hd he
  split at hd
  · rename_i xs
    split at he
    · rename_i ys
      split at hd
      · rename_i p hp
        split at he
        · rename_i q hq
          have e1 : neD (.tup xs) (.tup ys) = (eqDeep (.tup xs) (.tup ys)).map fun b => .bl (!b) := rfl
          have e2 : eqDeep (.tup xs) (.tup ys) = some (PyData.eqv p q) := by
            unfold eqDeep
            rw [hp, hq]
            simp [hd, he]
          exact ⟨_, by rw [e1, e2]; rfl⟩
        · cases he
      · cases hd
    · cases he
  · cases hd
theorem e_kinds {h : Hl} {ks : List Str} {es : List En} : runB 1 b_Table_kinds [tabD ks es] h = .ok (wt ks) h := by
  refine is_to_eq ?_
  rw [is_runB]
  simp [b_Table_kinds, fld_kinds, atR_tab]
theorem prs_mem {ks : List Str} {t : P5} (h : t ∈ prs ks) : t.1 ∈ ks ∧ t.2.1 ∈ ks ∧ t.2.2.1 ∈ ps3 ∧ t.2.2.2.1 ∈ ss3 := by
  unfold prs at h
  obtain ⟨m, hm, h⟩ := List.mem_flatMap.mp h
  obtain ⟨i, hi, h⟩ := List.mem_flatMap.mp h
  obtain ⟨p, hp, h⟩ := List.mem_flatMap.mp h
  obtain ⟨s, hs, h⟩ := List.mem_flatMap.mp h
  obtain ⟨b, hb, rfl⟩ := List.mem_map.mp h
  refine ⟨hm, hi, hp, ?_⟩
  split at hs
  · exact hs
  · rw [List.mem_singleton.mp hs]; exact List.mem_cons_self
theorem w_unlike_of {h : Hl} {ks : List Str} {es es' : List En} {P : D → Hl → Prop} (hk : ks ∈ menu) (c : CI ks 15 es) (c' : CI ks 15 es') (k : ∀ d, P d h) : (runB 5 b_unlike_of [tabD ks es, tabD ks es'] h).Is P := by
  rw [is_runB]
  unfold b_unlike_of
  rw [is_seq]
  unfold sForG
  rw [is_sBind]
  simp [dProp, is_bind, atR_tab, ins_any, e_kinds, e_prs hk, is_noExc]
  refine is_loopR (fun j ρ1 h1 => h1 = h ∧ ∃ a b d, ρ1 = [.v (tabD ks es), .v (tabD ks es'), a, b, d]) (n := 0) ⟨rfl, .no, .no, .no, rfl⟩ ?_ ?_
  · rintro j d ρ1 h1 he ⟨rfl, a, b, d', rfl⟩
    obtain ⟨t, ht, rfl⟩ := List.mem_map.mp (List.mem_of_getElem? he)
    obtain ⟨hm, hi, hp, hs⟩ := prs_mem ht
    obtain ⟨d1, e1, g1⟩ := w_turn (h := h1) (b := t.2.2.2.2) hk c hm hi hp hs
    obtain ⟨d2, e2, g2⟩ := w_turn (h := h1) (b := t.2.2.2.2) hk c' hm hi hp hs
    obtain ⟨b0, eb⟩ := ne_gd g1 g2
    simp [prD, dMeth, is_bind, atR_tab, ins_turn, e1, e2, eb]
    cases b0 <;> simp
    exact k _
  · rintro ρ1 h1 ⟨rfl, a, b, d', rfl⟩
    simp
    exact k _
theorem isi_tab {ks : List Str} {es : List En} : isiF tyTab [tabD ks es, .cls "Table"] = some (.bl true) := by
  show ((tyTab (.o "Table") (.o "Table")).map D.bl) = _
  have : tyTab (.o "Table") (.o "Table") = some true := by decide +kernel
  rw [this]; rfl
theorem e_chkT {h : Hl} {ks : List Str} {es : List En} : runB 1 b_check_table [tabD ks es] h = .ok .non h := by
  refine is_to_eq ?_
  rw [is_runB]
  simp [b_check_table, isi_tab]
theorem a_ne : (menu.map fun a => menu.map fun b => neD (wt a) (wt b)) = (menu.map fun a => menu.map fun b => some (.bl (decide (a ≠ b)))) := by kernel_rfl
theorem e_ne {a b : List Str} (ha : a ∈ menu) (hb : b ∈ menu) : neD (wt a) (wt b) = some (.bl (decide (a ≠ b))) := List.map_inj_left.mp (List.map_inj_left.mp a_ne a ha) b hb
theorem a_eq : (menu.map fun a => menu.map fun b => eqD (wl a) (wl b)) = (menu.map fun a => menu.map fun b => some (.bl (decide (a = b)))) := by kernel_rfl
theorem e_eq {a b : List Str} (ha : a ∈ menu) (hb : b ∈ menu) : eqD (wl a) (wl b) = some (.bl (decide (a = b))) := List.map_inj_left.mp (List.map_inj_left.mp a_eq a ha) b hb
theorem seq_exc {f g : SDen} {ρ ρ1 : Rho} {h h1 : Hl} {c : Str} {fs : List (Str × D)} (e : f ρ h = .exc c fs ρ1 h1) : sSeq f g ρ h = .exc c fs ρ1 h1 := by
  show (f ρ h).then g = _
  rw [e]; rfl
theorem run_exc {N : Nat} {b : SDen} {ds : List D} {h h1 : Hl} {ρ1 : Rho} {c : Str} {fs : List (Str × D)} (e : b (ds.map .v ++ List.replicate (N - ds.length) .no) h = .exc c fs ρ1 h1) : runB N b ds h = .exc c fs h1 := by unfold runB; rw [e]
theorem e_chkN {h : Hl} {x : D} (hx : isiF tyTab [x, .cls "Table"] = some (.bl false)) : runB 1 b_check_table [x] h = .exc "NotATable" [("given", x)] h := by
  refine run_exc (ρ1 := [.v x]) ?_
  have e : (dNot (dB (dFn (isiF tyTab) (dCons (dVar 0) (dCons (dC (.cls "Table")) (dNil)))))) [.v x] h = .ok true h := by
    show ((((optR (isiF tyTab [x, .cls "Table"]) h).bind fun d h1 => match d with
      | .bl b => Res.ok b h1
      | _ => .bad) : Res Bool).bind fun b h1 => .ok (!b) h1) = _
    rw [hx]; rfl
  show sBind ((dNot (dB (dFn (isiF tyTab) (dCons (dVar 0) (dCons (dC (.cls "Table")) (dNil)))))) [.v x] h) [.v x] _ = _
  rw [e]; rfl
theorem e_bothS {h : Hl} {ks : List Str} {es es' : List En} (hk : ks ∈ menu) : runB 2 b_check_both [tabD ks es, tabD ks es'] h = .ok .non h := by
  have n := e_ne hk hk
  refine is_to_eq ?_
  rw [is_runB]
  simp [b_check_both, dProp, is_bind, atR_tab, ins_any, e_kinds, n]
theorem e_bothN {h : Hl} {ks ks' : List Str} {es es' : List En} (hk : ks ∈ menu) (hk' : ks' ∈ menu) (ne : ks ≠ ks') : runB 2 b_check_both [tabD ks es, tabD ks' es'] h = .exc "OtherKinds" [("given", tabD ks' es')] h := by
  have n := e_ne hk hk'
  refine run_exc (ρ1 := [.v (tabD ks es), .v (tabD ks' es')]) ?_
  have e : (dB (dBin neD (dProp "Table" (runB 1 b_Table_kinds) (dVar 0)) (dProp "Table" (runB 1 b_Table_kinds) (dVar 1)))) [.v (tabD ks es), .v (tabD ks' es')] h = .ok true h := by
    refine is_to_eq ?_
    simp [dProp, is_bind, atR_tab, ins_any, e_kinds, n, ne]
  show sBind ((dB (dBin neD (dProp "Table" (runB 1 b_Table_kinds) (dVar 0)) (dProp "Table" (runB 1 b_Table_kinds) (dVar 1)))) [.v (tabD ks es), .v (tabD ks' es')] h) _ _ = _
  rw [e]; rfl
theorem e_unlN {h : Hl} {x y : D} (hx : isiF tyTab [x, .cls "Table"] = some (.bl false)) : runB 2 b_unlike [x, y] h = .exc "NotATable" [("given", x)] h := by
  refine run_exc (ρ1 := [.v x, .v y]) (seq_exc ?_)
  show sBind (runB 1 b_check_table [x] h) _ _ = _
  rw [e_chkN hx]; rfl
theorem e_unlM {h : Hl} {y : D} {ks : List Str} {es : List En} (hy : isiF tyTab [y, .cls "Table"] = some (.bl false)) : runB 2 b_unlike [tabD ks es, y] h = .exc "NotATable" [("given", y)] h := by
  refine run_exc (ρ1 := [.v (tabD ks es), .v y]) ?_
  unfold b_unlike
  refine (seq_ok (ρ1 := [.v (tabD ks es), .v y]) (h1 := h) ?_).trans (seq_exc ?_)
  · show sBind (runB 1 b_check_table [tabD ks es] h) _ _ = _
    rw [e_chkT]; rfl
  · show sBind (runB 1 b_check_table [y] h) _ _ = _
    rw [e_chkN hy]; rfl
theorem e_unlO {h : Hl} {ks ks' : List Str} {es es' : List En} (hk : ks ∈ menu) (hk' : ks' ∈ menu) (ne : ks ≠ ks') : runB 2 b_unlike [tabD ks es, tabD ks' es'] h = .exc "OtherKinds" [("given", tabD ks' es')] h := by
  refine run_exc (ρ1 := [.v (tabD ks es), .v (tabD ks' es')]) ?_
  unfold b_unlike
  refine (seq_ok (ρ1 := [.v (tabD ks es), .v (tabD ks' es')]) (h1 := h) ?_).trans ((seq_ok (ρ1 := [.v (tabD ks es), .v (tabD ks' es')]) (h1 := h) ?_).trans (seq_exc ?_))
  · show sBind (runB 1 b_check_table [tabD ks es] h) _ _ = _
    rw [e_chkT]; rfl
  · show sBind (runB 1 b_check_table [tabD ks' es'] h) _ _ = _
    rw [e_chkT]; rfl
  · show sBind (runB 2 b_check_both [tabD ks es, tabD ks' es'] h) _ _ = _
    rw [e_bothN hk hk' ne]; rfl
theorem is_ok_ex {α : Type} {r : Res α} {h : Hl} (i : r.Is fun _ h1 => h1 = h) : ∃ d, r = .ok d h := by
  cases r with
  | ok d h1 => rw [Res.is_ok] at i; subst i; exact ⟨d, rfl⟩
  | _ => exact i.go.elim
theorem e_unlS {h : Hl} {ks : List Str} {es es' : List En} (hk : ks ∈ menu) (c : CI ks 15 es) (c' : CI ks 15 es') : ∃ d, runB 2 b_unlike [tabD ks es, tabD ks es'] h = .ok d h := by
  refine is_ok_ex ?_
  rw [is_runB]
  unfold b_unlike
  rw [is_seq]
  simp [e_chkT, e_bothS hk]
  exact w_unlike_of hk c c' fun _ => rfl
theorem e_alkX {h : Hl} {x y : D} {c : Str} {fs : List (Str × D)} (e : runB 2 b_unlike [x, y] h = .exc c fs h) : runB 2 b_alike [x, y] h = .exc c fs h := by
  refine run_exc (ρ1 := [.v x, .v y]) ?_
  show sBind ((runB 2 b_unlike [x, y] h).bind fun d h1 => (dC .non [.v x, .v y] h1).bind fun e h2 => optR (isND d e) h2) _ _ = _
  rw [e]; rfl
theorem e_alkS {h : Hl} {x y : D} (e : ∃ d, runB 2 b_unlike [x, y] h = .ok d h) : ∃ d, runB 2 b_alike [x, y] h = .ok d h := by
  obtain ⟨d, e⟩ := e
  refine is_ok_ex ?_
  rw [is_runB]
  have : ∀ d, isND d .non = some (.bl (match d with | .non => true | _ => false)) := fun d => by cases d <;> rfl
  simp [b_alike, e, this]
end K33
end
section
set_option maxRecDepth 100000
set_option maxHeartbeats 1000000
namespace K33
open PySem PySem.Spec PyProof.Rows L2 LamX Pf
theorem cg_ok {th : Th} {h : Hl} (e : ∃ d, th h = .ok d h) : cg__law_caught th h = .ok (.lst []) h := by
  obtain ⟨d, e⟩ := e
  have e1 : sTry 1 (sTh th) exTop bs__law_caught [.no, .no, .no, .no] h = .ok .next [.no, .no, .no, .no] h := by
    have : sTh th [.no, .no, .no, .no] h = .ok .next [.no, .no, .no, .no] h := by unfold sTh; rw [e]; rfl
    unfold sTry; rw [this]
  show (match sSeq (sTry 1 (sTh th) exTop bs__law_caught) br__law_caught [.no, .no, .no, .no] h with
    | .ok (.ret d) _ h' => Res.ok d h'
    | .ok .next _ h' => .ok .non h'
    | _ => .bad) = _
  rw [seq_ok e1]; rfl
theorem cg_exc {th : Th} {h : Hl} {c : Str} {x r : D} {y : D} (e : th h = .exc c [("given", x)] h) (hc : exTop c = some true) (es : bs__law_caught [.no, .x c [("given", x)], .no, .no] h = .ok (.ret r) [.no, .x c [("given", x)], .v y, .v (.str c)] h) : cg__law_caught th h = .ok r h := by
  have e0 : sTh th [.no, .no, .no, .no] h = .exc c [("given", x)] [.no, .no, .no, .no] h := by unfold sTh; rw [e]; rfl
  have e1 : sTry 1 (sTh th) exTop bs__law_caught [.no, .no, .no, .no] h = .ok (.ret r) [.no, .no, .v y, .v (.str c)] h := by
    unfold sTry; rw [e0]
    simp only [hc]
    have : ([Sl.no, .no, .no, .no] : Rho).set 1 (.x c [("given", x)]) = [.no, .x c [("given", x)], .no, .no] := rfl
    rw [this, es]
    rfl
  show (match sSeq (sTry 1 (sTh th) exTop bs__law_caught) br__law_caught [.no, .no, .no, .no] h with
    | .ok (.ret d) _ h' => Res.ok d h'
    | .ok .next _ h' => .ok .non h'
    | _ => .bad) = _
  have : sSeq (sTry 1 (sTh th) exTop bs__law_caught) br__law_caught [.no, .no, .no, .no] h = .ok (.ret r) [.no, .no, .v y, .v (.str c)] h := by
    show (sTry 1 (sTh th) exTop bs__law_caught [.no, .no, .no, .no] h).then _ = _
    rw [e1]; rfl
  rw [this]
def lN : D := .lst [.bl true, .bl false, .bl false]
def lO : D := .lst [.bl false, .bl true, .bl false]
theorem s_N1 (h : Hl) (x : D) : sSet 2 (dLst (dCons (dExI exTab 1 "NotATable") (dCons (dExI exTab 1 "OtherKinds") (dCons (dExI exTab 1 "InvalidKinds") (dNil))))) [.no, .x "NotATable" [("given", x)], .no, .no] h = .ok .next [.no, .x "NotATable" [("given", x)], .v lN, .no] h := by kernel_rfl
theorem s_O1 (h : Hl) (x : D) : sSet 2 (dLst (dCons (dExI exTab 1 "NotATable") (dCons (dExI exTab 1 "OtherKinds") (dCons (dExI exTab 1 "InvalidKinds") (dNil))))) [.no, .x "OtherKinds" [("given", x)], .no, .no] h = .ok .next [.no, .x "OtherKinds" [("given", x)], .v lO, .no] h := by kernel_rfl
theorem s_N2 (h : Hl) (x : D) : sIf (dOr (dB (dBin neD (dMt isLstD lcountO (dVar 2) (dCons (dC (.bl true)) (dNil))) (dC (.int 1)))) (dNot (dB (dExI exTab 1 "BadValue")))) (sRet (dLst (dCons (dC (.str "another error")) (dNil)))) (sNext) [.no, .x "NotATable" [("given", x)], .v lN, .no] h = .ok .next [.no, .x "NotATable" [("given", x)], .v lN, .no] h := by kernel_rfl
theorem s_O2 (h : Hl) (x : D) : sIf (dOr (dB (dBin neD (dMt isLstD lcountO (dVar 2) (dCons (dC (.bl true)) (dNil))) (dC (.int 1)))) (dNot (dB (dExI exTab 1 "BadValue")))) (sRet (dLst (dCons (dC (.str "another error")) (dNil)))) (sNext) [.no, .x "OtherKinds" [("given", x)], .v lO, .no] h = .ok .next [.no, .x "OtherKinds" [("given", x)], .v lO, .no] h := by kernel_rfl
theorem s_N3 (h : Hl) (x : D) : sSet 3 (dIx (dLst (dCons (dC (.str "NotATable")) (dCons (dC (.str "OtherKinds")) (dCons (dC (.str "InvalidKinds")) (dNil))))) (dMt isLstD lindexO (dVar 2) (dCons (dC (.bl true)) (dNil)))) [.no, .x "NotATable" [("given", x)], .v lN, .no] h = .ok .next [.no, .x "NotATable" [("given", x)], .v lN, .v (.str "NotATable")] h := by kernel_rfl
theorem s_O3 (h : Hl) (x : D) : sSet 3 (dIx (dLst (dCons (dC (.str "NotATable")) (dCons (dC (.str "OtherKinds")) (dCons (dC (.str "InvalidKinds")) (dNil))))) (dMt isLstD lindexO (dVar 2) (dCons (dC (.bl true)) (dNil)))) [.no, .x "OtherKinds" [("given", x)], .v lO, .no] h = .ok .next [.no, .x "OtherKinds" [("given", x)], .v lO, .v (.str "OtherKinds")] h := by kernel_rfl
theorem x_N (h : Hl) (x y z : D) : dExF ["NotATable", "OtherKinds"] 1 "given" [.no, .x "NotATable" [("given", x)], .v y, .v z] h = .ok x h := by kernel_rfl
theorem x_O (h : Hl) (x y z : D) : dExF ["NotATable", "OtherKinds"] 1 "given" [.no, .x "OtherKinds" [("given", x)], .v y, .v z] h = .ok x h := by kernel_rfl
theorem cg_N {th : Th} {h : Hl} {x : D} {z : Str} (e : th h = .exc "NotATable" [("given", x)] h) (hz : reprF [x] = some (.str z)) : cg__law_caught th h = .ok (.lst [.str "NotATable", .str z]) h := by
  refine cg_exc (y := lN) e (by decide +kernel) ?_
  unfold bs__law_caught
  rw [seq_ok (s_N1 h x), seq_ok (s_N2 h x), seq_ok (s_N3 h x)]
  refine sis_to_eq ?_
  have ne : ¬ (("NotATable" : Str) = "OtherKinds") := by decide +kernel
  simp [ne, x_N, hz]
theorem cg_O {th : Th} {h : Hl} {ks : List Str} {es : List En} (hk : ks ∈ menu) (c : CI ks 15 es) (e : th h = .exc "OtherKinds" [("given", tabD ks es)] h) : cg__law_caught th h = .ok (.lst [.str "OtherKinds", .str (textOf ks es)]) h := by
  refine cg_exc (y := lO) e (by decide +kernel) ?_
  unfold bs__law_caught
  rw [seq_ok (s_O1 h _), seq_ok (s_O2 h _), seq_ok (s_O3 h _)]
  refine sis_to_eq ?_
  simp [dStrI, x_O, atR_tab, ins_any, w_str hk c, calmR]
end K33
end
section
set_option maxRecDepth 100000
set_option maxHeartbeats 1000000
namespace K33
open PySem PySem.Spec PyProof.Rows L2 LamX Pf
def okS (z : Str) : Prop := ∀ c ∈ tl z, c < 0x110000
theorem rc_all : (List.range 127).all (fun c => ([34, 39] : List Nat).all fun q => (Builtin.Str.reprChar q c).all fun d => decide (d < 127)) = true := by decide +kernel
theorem rc_small {c q d : Nat} (hc : c < 127) (hq : q = 34 ∨ q = 39) (hd : d ∈ Builtin.Str.reprChar q c) : d < 127 := by
  have h1 := List.all_eq_true.mp rc_all c (List.mem_range.mpr hc)
  have h2 := List.all_eq_true.mp h1 q (by rcases hq with rfl | rfl <;> simp)
  exact of_decide_eq_true (List.all_eq_true.mp h2 d hd)
theorem fold_mem {q d : Nat} : ∀ {l : List Nat} {acc : Array Nat}, d ∈ (l.foldl (fun out c => out ++ (Builtin.Str.reprChar q c).toArray) acc).toList → d ∈ acc.toList ∨ ∃ c ∈ l, d ∈ Builtin.Str.reprChar q c
  | [], acc, h => .inl h
  | c :: r, acc, h => by
    rw [List.foldl_cons] at h
    rcases fold_mem h with z | ⟨c', hc, hd⟩
    · rw [Array.toList_append] at z
      rcases List.mem_append.mp z with z | z
      · exact .inl z
      · exact .inr ⟨c, List.mem_cons_self, z⟩
    · exact .inr ⟨c', List.mem_cons_of_mem _ hc, hd⟩
theorem repr_ok {x : Str} (hx : ∀ c ∈ tl x, c < 127) : okS (reprText x) := by
  intro d hd
  have hq : reprQuote x = 34 ∨ reprQuote x = 39 := by unfold reprQuote; split <;> simp
  have hd : d ∈ ((x.cps.foldl (fun out c => out ++ (Builtin.Str.reprChar (reprQuote x) c).toArray) #[reprQuote x]).push (reprQuote x)).toList := hd
  rw [Array.toList_push] at hd
  rcases List.mem_append.mp hd with z | z
  · rw [← Array.foldl_toList] at z
    rcases fold_mem z with z | ⟨c, hc, z⟩
    · have : d = reprQuote x := by simpa using z
      rcases hq with h | h <;> omega
    · have := rc_small (hx c hc) hq z
      omega
  · have : d = reprQuote x := by simpa using z
    rcases hq with h | h <;> omega
structure NT (x : D) (z : Str) : Prop where
  isi : isiF tyTab [x, .cls "Table"] = some (.bl false)
  rep : reprF [x] = some (.str z)
  ok : okS z
theorem okS_of {z : Str} (h : ((tl z).all fun c => decide (c < 0x110000)) = true) : okS z := fun c hc => of_decide_eq_true (List.all_eq_true.mp h c hc)
theorem isi_of_ty {x : D} {a : Ty} (h : tyD x = some a) (e : tyTab a (.o "Table") = some false) : isiF tyTab [x, .cls "Table"] = some (.bl false) := by
  show (((tyD x).bind fun a => tyTab a (.o "Table")).map D.bl) = _
  rw [h]
  show ((tyTab a (.o "Table")).map D.bl) = _
  rw [e]; rfl
theorem nt_non : NT .non "None" := ⟨isi_of_ty rfl (by decide +kernel), by kernel_rfl, okS_of (by decide +kernel)⟩
theorem nt_int : NT (.int 5) "5" := ⟨isi_of_ty rfl (by decide +kernel), by kernel_rfl, okS_of (by decide +kernel)⟩
theorem nt_tup : NT (.tup []) "()" := ⟨isi_of_ty rfl (by decide +kernel), by kernel_rfl, okS_of (by decide +kernel)⟩
theorem nt_lst : NT (.lst []) "[]" := ⟨isi_of_ty rfl (by decide +kernel), by kernel_rfl, okS_of (by decide +kernel)⟩
theorem nt_str {x : Str} (hx : ∀ c ∈ tl x, c < 127) (hl : x.length ≤ 1248) : NT (.str x) (reprText x) := by
  refine ⟨isi_of_ty rfl (by decide +kernel), ?_, repr_ok hx⟩
  have h1 := StrLaws.reprText_len x fun c hc => by have := hx c hc; omega
  have e : reprP (.str x) = some (reprText x) := by
    unfold reprP
    have es : (PyData.str x).shown = reprText x := PyData.shown_str x
    rw [if_pos ⟨by simp only [PyData.showable], by simp only [PyData.hasDict], by simp [PyData.depth], by rw [es]; omega⟩, es]
  show ((py (.str x)).bind reprP).map D.str = _
  show (reprP (.str x)).map D.str = _
  rw [e]; rfl
theorem nt_text {ks : List Str} {es : List En} (hk : ks ∈ menu) (c : CI ks 15 es) : NT (.str (textOf ks es)) (reprText (textOf ks es)) := nt_str (text_ch hk c) (text_len hk c)
/-- a due -/
inductive Due : D → Prop
  | no : Due (.lst [])
  | two {x y : Str} : okS x → okS y → Due (.lst [.str x, .str y])
theorem sh_s {x : Str} (h : okS x) : PyData.canLay0 (.str x) = true := by
  simp only [PyData.canLay0, PyData.strOk]
  rw [← Array.all_toList]
  exact List.all_eq_true.mpr fun c hc => decide_eq_true (h c hc)
theorem sk_s {x : Str} (h : okS x) : PyData.strOk x = true := by
  have := sh_s h
  simpa [PyData.canLay0] using this
theorem ne_no : neD (.lst []) (.lst []) = some (.bl false) := by kernel_rfl
theorem sh_nil : SeqAt.shaped (.list []) = true := by decide +kernel
theorem sh_two {x y : Str} (hx : okS x) (hy : okS y) : SeqAt.shaped (.list [.str x, .str y]) = true := by
  unfold SeqAt.shaped
  simp [PyData.canLay0, PyData.canLayAll0, PyData.depth, PyData.depthAll, sk_s hx, sk_s hy]
theorem ne_two {x y : Str} (hx : okS x) (hy : okS y) : neD (.lst [.str x, .str y]) (.lst []) = some (.bl true) := by
  have e1 : neD (.lst [.str x, .str y]) (.lst []) = (if SeqAt.shaped (.list [.str x, .str y]) && SeqAt.shaped (.list []) then some (PyData.eqv (.list [.str x, .str y]) (.list [])) else none).map fun b => .bl (!b) := rfl
  rw [e1, sh_two hx hy, sh_nil]
  simp [PyData.eqv, PyData.eqvAll]
theorem ne_told {d : D} (h : Due d) : neD (.lst [d, d, d, d]) (.lst [d, d, d, d]) = some (.bl false) := by
  cases h with
  | no => kernel_rfl
  | two hx hy =>
    rename_i x y
    have e1 : neD (.lst [.lst [.str x, .str y], .lst [.str x, .str y], .lst [.str x, .str y], .lst [.str x, .str y]]) (.lst [.lst [.str x, .str y], .lst [.str x, .str y], .lst [.str x, .str y], .lst [.str x, .str y]]) =
      (if SeqAt.shaped (.list [.list [.str x, .str y], .list [.str x, .str y], .list [.str x, .str y], .list [.str x, .str y]]) && SeqAt.shaped (.list [.list [.str x, .str y], .list [.str x, .str y], .list [.str x, .str y], .list [.str x, .str y]]) then
        some (PyData.eqv (.list [.list [.str x, .str y], .list [.str x, .str y], .list [.str x, .str y], .list [.str x, .str y]]) (.list [.list [.str x, .str y], .list [.str x, .str y], .list [.str x, .str y], .list [.str x, .str y]])) else none).map fun b => .bl (!b) := rfl
    have sh : SeqAt.shaped (.list [.list [.str x, .str y], .list [.str x, .str y], .list [.str x, .str y], .list [.str x, .str y]]) = true := by
      unfold SeqAt.shaped
      simp [PyData.canLay0, PyData.canLayAll0, PyData.depth, PyData.depthAll, sk_s hx, sk_s hy]
    rw [e1, sh]
    simp [PyData.eqv, PyData.eqvAll]
theorem mul4 {d : D} : mulD (.lst [d]) (.int 4) = some (.lst [d, d, d, d]) := rfl
/-- a head or a tail -/
inductive HK (ks : List Str) (es : List En) : D → Prop
  | tab : HK ks es (tabD ks es)
  | nt {x : D} {z : Str} : NT x z → HK ks es x
theorem due_of {ks : List Str} {es : List En} {x : D} (h : HK ks es x) : ∃ (b : Bool) (d : D), isiF tyTab [x, .cls "Table"] = some (.bl b) ∧ ((b = true ∧ x = tabD ks es ∧ d = .lst []) ∨ (b = false ∧ ∃ z, NT x z ∧ d = .lst [.str "NotATable", .str z])) := by
  cases h with
  | tab => exact ⟨true, _, isi_tab, .inl ⟨rfl, rfl, rfl⟩⟩
  | nt n => exact ⟨false, _, n.isi, .inr ⟨rfl, _, n, rfl⟩⟩
theorem is_cmp_nil {tg : Tg} {c : Den Bool} {e : Den D} {ρ : Rho} {h : Hl} {acc : List D} {P : List D → Hl → Prop} : (cmpS tg c e ρ [] acc h).Is P = P acc h := by
  unfold cmpS; rw [Res.is_ok]
theorem is_cmp_cons {tg : Tg} {c : Den Bool} {e : Den D} {ρ : Rho} {h : Hl} {d : D} {ds acc : List D} {P : List D → Hl → Prop} : (cmpS tg c e ρ (d :: ds) acc h).Is P = TgI (tg d ρ h) fun ρ1 h0 => (c ρ1 h0).Is fun b h1 => if b = true then (e ρ1 h1).Is fun x h2 => acc.length < 16777216 ∧ (cmpS tg c e ρ ds (acc ++ [x]) h2).Is P else (cmpS tg c e ρ ds acc h1).Is P := by
  conv => lhs; unfold cmpS
  cases tg d ρ h with
  | none => exact Res.is_bad
  | some q =>
    obtain ⟨ρ1, h0⟩ := q
    rw [TgI_some]
    simp only
    cases c ρ1 h0 with
    | ok b h1 =>
      rw [Res.is_ok]
      cases b with
      | true =>
        simp only [if_true]
        cases e ρ1 h1 with
        | ok x h2 =>
          rw [Res.is_ok]
          by_cases l : acc.length < 16777216 <;> simp [l]
        | exc c fs h2 => exact propext ⟨fun z => z.go.elim, fun z => z.go.elim⟩
        | bad => exact propext ⟨fun z => z.go.elim, fun z => z.go.elim⟩
      | false => simp
    | exc c fs h2 => exact propext ⟨fun z => z.go.elim, fun z => z.go.elim⟩
    | bad => exact propext ⟨fun z => z.go.elim, fun z => z.go.elim⟩
end K33
end
section
set_option maxRecDepth 100000
set_option maxHeartbeats 1000000
namespace K33
open PySem PySem.Spec PyProof.Rows L2 LamX Pf
theorem Gd.nr' {r : Nat} {h : Hl} (g : Gd r h) : Nr h := g.nr
/-- the due of a head or a tail -/
inductive DD (ks : List Str) (es : List En) : D → D → Prop
  | tab : DD ks es (tabD ks es) (.lst [])
  | nt {x : D} {z : Str} : NT x z → DD ks es x (.lst [.str "NotATable", .str z])
inductive DO (a b : List Str) (t : Str) : D → Prop
  | same : a = b → DO a b t (.lst [])
  | other : a ≠ b → DO a b t (.lst [.str "OtherKinds", .str t])
inductive FN : D → D → D → D → Prop
  | d0 {x y : Str} {d1 d2 : D} : FN (.lst [.str x, .str y]) d1 d2 (.lst [.str x, .str y])
  | d1 {x y : Str} {d2 : D} : FN (.lst []) (.lst [.str x, .str y]) d2 (.lst [.str x, .str y])
  | d2 {x y : Str} : FN (.lst []) (.lst []) (.lst [.str x, .str y]) (.lst [.str x, .str y])
  | no : FN (.lst []) (.lst []) (.lst []) (.lst [])
theorem ok_N : okS "NotATable" := okS_of (by decide +kernel)
theorem ok_O : okS "OtherKinds" := okS_of (by decide +kernel)
theorem ok_text {ks : List Str} {es : List En} (hk : ks ∈ menu) (c : CI ks 15 es) : okS (textOf ks es) := fun z hz => by have := text_ch hk c z hz; omega
theorem DD.due {ks : List Str} {es : List En} {x d : D} (h : DD ks es x d) : Due d := by
  cases h with
  | tab => exact .no
  | nt n => exact .two ok_N n.ok
theorem DO.due {a b : List Str} {t : Str} {d : D} (h : DO a b t d) (ht : okS t) : Due d := by
  cases h with
  | same _ => exact .no
  | other _ => exact .two ok_O ht
theorem cg_all {a b : List Str} {es es' : List En} {hd ta d0 d1 d2 du : D} (ha : a ∈ menu) (hb : b ∈ menu) (c : CI a 15 es) (c' : CI b 15 es') (h0 : DD a es hd d0) (h1 : DD b es' ta d1) (h2 : DO a b (textOf b es') d2) (f : FN d0 d1 d2 du) (h : Hl) :
    cg__law_caught (fun h => runB 2 b_alike [hd, ta] h) h = .ok du h ∧ cg__law_caught (fun h => runB 2 b_unlike [hd, ta] h) h = .ok du h := by
  cases h0 with
  | nt n =>
    cases f with
    | d0 => exact ⟨cg_N (e_alkX (e_unlN n.isi)) n.rep, cg_N (e_unlN n.isi) n.rep⟩
  | tab =>
    cases h1 with
    | nt n =>
      cases f with
      | d1 => exact ⟨cg_N (e_alkX (e_unlM n.isi)) n.rep, cg_N (e_unlM n.isi) n.rep⟩
    | tab =>
      cases h2 with
      | other ne =>
        cases f with
        | d2 => exact ⟨cg_O hb c' (e_alkX (e_unlO ha hb ne)), cg_O hb c' (e_unlO ha hb ne)⟩
      | same e =>
        subst e
        cases f with
        | no => exact ⟨cg_ok (e_alkS (e_unlS ha c c')), cg_ok (e_unlS ha c c')⟩
theorem fn_ex {d0 d1 d2 : D} (h0 : Due d0) (h1 : Due d1) (h2 : Due d2) : ∃ du, Due du ∧ FN d0 d1 d2 du := by
  cases h0 with
  | two a b => exact ⟨_, .two a b, .d0⟩
  | no =>
    cases h1 with
    | two a b => exact ⟨_, .two a b, .d1⟩
    | no =>
      cases h2 with
      | two a b => exact ⟨_, .two a b, .d2⟩
      | no => exact ⟨_, .no, .no⟩
theorem ne_due {d : D} (h : Due d) : ∃ b, neD d (.lst []) = some (.bl b) := by
  cases h with
  | no => exact ⟨_, ne_no⟩
  | two a b => exact ⟨_, ne_two a b⟩
theorem lam1 {cg : Th → Hl → Res D} {lb : Den D} {ρ : Rho} {h : Hl} {d : D} (e : cg (lb ρ) h = .ok d h) : dLam cg lb ρ h = .ok d h := by unfold dLam; rw [e]
theorem w_right {r : Nat} {h : Hl} (hp : Gd r h) : (runB 11 b__law_right [.ref r] h).Is fun d h1 => d = .bl true ∧ Nr h1 := by
  rw [is_runB]
  unfold b__law_right
  rw [is_seq]
  simp
  refine is_loopR (fun j ρ1 h1 => Gd r h1 ∧ ∃ x1 x2 x3 x4 x5 x6 x7 x8 x9 x10, ρ1 = [.v (.ref r), x1, x2, x3, x4, x5, x6, x7, x8, x9, x10]) (n := 0) ⟨hp, _, _, _, _, _, _, _, _, _, _, rfl⟩ ?_ ?_
  · rintro j d ρ1 h1 he ⟨g1, x1, x2, x3, x4, x5, x6, x7, x8, x9, x10, rfl⟩
    rw [slot_q]
    refine SRes.Is.mono (P := fun fl ρ2 h2 => fl = .next ∧ Gd r h2 ∧ ∃ x1 x2 x3 x4 x5 x6 x7 x8 x9 x10, ρ2 = [.v (.ref r), x1, x2, x3, x4, x5, x6, x7, x8, x9, x10]) ?_ fun fl ρ2 h2 z => .inl z
    generalize Sl.v d = x1
    refine seq_is (fun ρ1 h1 => Gd r h1 ∧ ∃ a b, a ∈ menu ∧ b ∈ menu ∧ ρ1 = [.v (.ref r), x1, .v (.lst [wl a, wl b]), x3, x4, x5, x6, x7, x8, x9, x10]) ?_ ?_
    · simp
      refine w_sorts g1 fun a h2 ha g2 => ?_
      refine w_sorts g2 fun b h3 hb g3 => ?_
      exact ⟨g3, a, ha, b, hb, by simp⟩
    rintro ρ1 h1 ⟨g1, a, b, ha, hb, rfl⟩
    refine seq_is (fun ρ1 h1 => Gd r h1 ∧ ∃ a b, a ∈ menu ∧ b ∈ menu ∧ ρ1 = [.v (.ref r), x1, .v (.lst [wl a, wl b]), x3, x4, x5, x6, x7, x8, x9, x10]) ?_ ?_
    · simp
      refine w_draw g1 (by omega) (by omega) fun i h2 i0 i1 g2 => ?_
      by_cases hi : i = 0
      · simp [hi, atI, ixN]
        exact ⟨g2, a, ha, a, ha, rfl, rfl⟩
      · simp [hi]
        exact ⟨g2, a, ha, b, hb, by simp⟩
    clear ha hb
    rintro ρ1 h1 ⟨g1, a, b, ha, hb, rfl⟩
    refine seq_is (fun ρ1 h1 => Gd r h1 ∧ ∃ es es', CI a 15 es ∧ CI b 15 es' ∧ ρ1 = [.v (.ref r), x1, .v (.lst [wl a, wl b]), .v (.lst [tabD a es, tabD b es']), x4, x5, x6, x7, x8, x9, x10]) ?_ ?_
    · simp [is_cmp_cons, is_cmp_nil, wipeR, dCMeth, is_bind]
      refine w_draw g1 (by omega) (by omega) fun i h2 i0 i1 g2 => ?_
      obtain ⟨n, rfl⟩ : ∃ n : Nat, i = n := ⟨i.toNat, by omega⟩
      refine w_cells g2 ha (by omega) fun es h3 c g3 => ?_
      refine w_text ha c ?_
      refine w_read g3.nr ha c ?_
      refine w_draw g3 (by omega) (by omega) fun i h2 i0 i1 g2 => ?_
      obtain ⟨n, rfl⟩ : ∃ n : Nat, i = n := ⟨i.toNat, by omega⟩
      refine w_cells g2 hb (by omega) fun es' h3 c' g3 => ?_
      refine w_text hb c' ?_
      refine w_read g3.nr hb c' ?_
      exact ⟨g3, es, c, es', c', by simp⟩
    rintro ρ1 h1 ⟨g1, es, es', c, c', rfl⟩
    refine seq_is (fun ρ1 h1 => Gd r h1 ∧ ∃ x, HK a es x ∧ ρ1 = [.v (.ref r), x1, .v (.lst [wl a, wl b]), .v (.lst [tabD a es, tabD b es']), .v x, x5, x6, x7, x8, x9, x10]) ?_ ?_
    · simp [dStrI, is_bind, atI, ixN, atR_tab, ins_any, w_str ha c]
      refine w_pick g1 (by simp) (by simp) fun x h2 hx g2 => ?_
      refine ⟨g2, ?_⟩
      simp at hx
      rcases hx with rfl | rfl | rfl | rfl
      · exact .tab
      · exact .nt nt_non
      · exact .nt (nt_text ha c)
      · exact .nt nt_tup
    rintro ρ1 h1 ⟨g1, hd, hhd, rfl⟩
    refine seq_is (fun ρ1 h1 => Gd r h1 ∧ ∃ y, HK b es' y ∧ ρ1 = [.v (.ref r), x1, .v (.lst [wl a, wl b]), .v (.lst [tabD a es, tabD b es']), .v hd, .v y, x6, x7, x8, x9, x10]) ?_ ?_
    · simp [dStrI, is_bind, atI, ixN, atR_tab, ins_any, w_str hb c']
      refine w_pick g1 (by simp) (by simp) fun x h2 hx g2 => ?_
      refine ⟨g2, ?_⟩
      simp at hx
      rcases hx with rfl | rfl | rfl | rfl
      · exact .tab
      · exact .nt nt_int
      · exact .nt (nt_text hb c')
      · exact .nt nt_lst
    rintro ρ1 h1 ⟨g1, ta, hta, rfl⟩
    refine seq_is (fun ρ1 h1 => Gd r h1 ∧ ∃ d0 d1, DD a es hd d0 ∧ DD b es' ta d1 ∧ ρ1 = [.v (.ref r), x1, .v (.lst [wl a, wl b]), .v (.lst [tabD a es, tabD b es']), .v hd, .v ta, .own (.lst [d0, d1]), x7, x8, x9, x10]) ?_ ?_
    · simp [is_cmp_cons, is_cmp_nil, wipeR]
      cases hhd with
      | tab =>
        cases hta with
        | tab => simp [isi_tab]; exact ⟨g1, .tab, .tab⟩
        | nt n => simp [isi_tab, n.isi, n.rep]; exact ⟨g1, .tab, .nt n⟩
      | nt m =>
        cases hta with
        | tab => simp [isi_tab, m.isi, m.rep]; exact ⟨g1, .nt m, .tab⟩
        | nt n => simp [m.isi, m.rep, n.isi, n.rep]; exact ⟨g1, .nt m, .nt n⟩
    rintro ρ1 h1 ⟨g1, d0, d1, hd0, hd1, rfl⟩
    refine seq_is (fun ρ1 h1 => Gd r h1 ∧ ∃ d2, DO a b (textOf b es') d2 ∧ ρ1 = [.v (.ref r), x1, .v (.lst [wl a, wl b]), .v (.lst [tabD a es, tabD b es']), .v hd, .v ta, .own (.lst [d0, d1, d2]), x7, x8, x9, x10]) ?_ ?_
    · have q := e_eq ha hb
      by_cases hab : a = b
      · subst hab; simp [viewL, atI, ixN, q, chg]; exact ⟨g1, .same rfl⟩
      · simp [viewL, atI, ixN, q, hab, chg, dStrI, is_bind, atR_tab, ins_any, w_str hb c']; exact ⟨g1, .other hab⟩
    rintro ρ1 h1 ⟨g1, d2, hd2, rfl⟩
    rw [is_frz]
    obtain ⟨du, hdu, hfn⟩ := fn_ex hd0.due hd1.due (hd2.due (ok_text hb c'))
    simp only [sFreeze]
    refine seq_eq (ρ1 := [.v (.ref r), x1, .v (.lst [wl a, wl b]), .v (.lst [tabD a es, tabD b es']), .v hd, .v ta, .v (.lst [d0, d1, d2]), .v du, x8, x9, x10]) (h1 := h1) ?_ ?_
    · have D0 := hd0.due
      have D1 := hd1.due
      have D2 := hd2.due (ok_text hb c')
      clear hd0 hd1 hd2
      obtain ⟨b1, n1⟩ := ne_due D1
      obtain ⟨b2, n2⟩ := ne_due D2
      simp [is_cmp_cons, is_cmp_nil, wipeR]
      cases hfn with
      | d0 =>
        cases D0 with
        | two u v => cases b1 <;> cases b2 <;> simp [ne_two u v, n1, n2, atI, ixN]
      | d1 =>
        cases D1 with
        | two u v => cases b2 <;> simp [ne_no, ne_two u v, n2, atI, ixN]
      | d2 =>
        cases D2 with
        | two u v => simp [ne_no, ne_two u v, atI, ixN]
      | no => simp [ne_no, atI, ixN]
    have ca := cg_all ha hb c c' hd0 hd1 hd2 hfn
    have l1 : ∀ s8 : Sl, dLam cg__law_caught (dCall (runB 2 b_alike) (dCons (dVar 4) (dCons (dVar 5) dNil))) [.v (.ref r), x1, .v (.lst [wl a, wl b]), .v (.lst [tabD a es, tabD b es']), .v hd, .v ta, .v (.lst [d0, d1, d2]), .v du, s8, x9, x10] h1 = .ok du h1 := fun s8 => lam1 (ca h1).1
    have l2 : ∀ s8 : Sl, dLam cg__law_caught (dCallK [1, 0] (runB 2 b_alike) dNil (dCons (dVar 5) (dCons (dVar 4) dNil))) [.v (.ref r), x1, .v (.lst [wl a, wl b]), .v (.lst [tabD a es, tabD b es']), .v hd, .v ta, .v (.lst [d0, d1, d2]), .v du, s8, x9, x10] h1 = .ok du h1 := fun s8 => lam1 (ca h1).1
    have l3 : ∀ s8 : Sl, dLam cg__law_caught (dCall (runB 2 b_unlike) (dCons (dVar 4) (dCons (dVar 5) dNil))) [.v (.ref r), x1, .v (.lst [wl a, wl b]), .v (.lst [tabD a es, tabD b es']), .v hd, .v ta, .v (.lst [d0, d1, d2]), .v du, s8, x9, x10] h1 = .ok du h1 := fun s8 => lam1 (ca h1).2
    have l4 : ∀ s8 : Sl, dLam cg__law_caught (dCallK [1, 0] (runB 2 b_unlike) dNil (dCons (dVar 5) (dCons (dVar 4) dNil))) [.v (.ref r), x1, .v (.lst [wl a, wl b]), .v (.lst [tabD a es, tabD b es']), .v hd, .v ta, .v (.lst [d0, d1, d2]), .v du, s8, x9, x10] h1 = .ok du h1 := fun s8 => lam1 (ca h1).2
    have nt := ne_told hdu
    simp [l1, l2, l3, l4, viewL, chg, sFreeze, mul4, nt]
    exact g1
  · rintro ρ1 h1 ⟨g1, x1, x2, x3, x4, x5, x6, x7, x8, x9, x10, rfl⟩
    simp
    exact g1.nr
end K33
end
section
set_option maxRecDepth 100000
set_option maxHeartbeats 1000000
namespace K33
open PySem PySem.Spec PyProof.Rows L2 LamX Pf
theorem is_ref {f : Den D} {ρ : Rho} {h : Hl} {U : D → Hl → Prop} (i : (f ρ h).Is fun d h1 => ∃ ds, d = .lst ds ∧ U (.ref h1.length) (h1 ++ [.lst ds])) : (dRef f ρ h).Is U := by
  unfold dRef
  cases e : f ρ h with
  | ok d h1 => rw [e, Res.is_ok] at i; obtain ⟨ds, rfl, u⟩ := i; exact ⟨u⟩
  | _ => rw [e] at i; exact i.go.elim
theorem gd_new {h : Hl} (nr : Nr h) (a b c : Int) : Gd h.length (h ++ [.lst [.int a, .int b, .int c]]) := by
  refine ⟨⟨a, b, c, by simp⟩, fun o ho => ?_⟩
  rcases List.mem_append.mp ho with z | z
  · exact nr o z
  · rw [List.mem_singleton.mp z]; rfl
theorem len_scr {ns : List Int} : lenA (.scr ns) = some ns.length := rfl
theorem atR_scr {ns : List Int} {h : Hl} : atR (.scr ns) h = .scr ns := rfl
theorem ix_scr {ns : List Int} {i : Int} : ixA (.scr ns) (.int i) = (atI ns i).map .int := rfl
theorem pow18 : powD (.int 10) (.int 18) = some (.int 1000000000000000000) := by kernel_rfl
theorem sl_scr {ns : List Int} {lo hi : Option Int} : sliceD lo hi (.scr ns) = some (.lst (Pf.cutD (ns.map .int) lo hi)) := rfl
theorem w_purse {ns : List Int} {k : Nat} {h : Hl} {P : D → Hl → Prop} (nr : Nr h) (hk : k < 100) (kk : ∀ r h', Gd r h' → P (.ref r) h') : (runB 5 b__law_purse [.scr ns, .int k] h).Is P := by
  rw [is_runB]
  unfold b__law_purse
  by_cases hl : k < ns.length
  · have e : atI ns (k : Int) = some ns[k] := by
      unfold atI ixN
      rw [if_pos (by omega), if_pos (by omega)]
      simp [hl]
    rw [is_seq]
    simp [len_scr, atR_scr, ix_scr, e, hl, pow18]
    split
    · refine is_ref ?_
      simp
      exact kk _ _ (gd_new nr _ _ _)
    · split
      · refine is_ref ?_
        simp
        exact kk _ _ (gd_new nr _ _ _)
      · refine is_ref ?_
        simp
        exact kk _ _ (gd_new nr _ _ _)
  · rw [is_seq]
    simp [len_scr, atR_scr, hl, sl_scr]
    refine is_loopR (fun j ρ1 h1 => h1 = h ∧ ∃ x c, ρ1 = [.v (.scr ns), .v (.int k), x, .no, .v (.int c)]) (n := 0) ⟨rfl, _, _, rfl⟩ ?_ ?_
    · rintro j d ρ1 h1 he ⟨rfl, x, c, rfl⟩
      have hd : d ∈ ns.map D.int := List.mem_of_mem_drop (List.mem_of_mem_take (List.mem_of_getElem? he))
      obtain ⟨z, _, rfl⟩ := List.mem_map.mp hd
      simp
    · rintro ρ1 h1 ⟨rfl, x, c, rfl⟩
      simp
      refine is_ref ?_
      simp
      exact kk _ _ (gd_new nr _ _ _)
theorem w_law {ns : List Int} (hn : ns.length ≤ 63) : ∃ h', runB 2 b_law [.scr ns] [] = .ok (.bl true) h' := by
  have : (runB 2 b_law [.scr ns] []).Is fun d _ => d = .bl true := by
    rw [is_runB]
    unfold b_law
    rw [is_seq]
    simp [len_scr, atR_scr]
    generalize hm : (if 2 < (if (6 : Int) < ns.length then 6 else (ns.length : Int)) then (if (6 : Int) < ns.length then 6 else (ns.length : Int)) else 2) = m
    have hb : 2 ≤ m ∧ m ≤ 6 := by subst hm; split <;> (try split) <;> omega
    refine ⟨by omega, ?_⟩
    refine is_loopR (fun j ρ1 h1 => Nr h1 ∧ ∃ x, ρ1 = [.v (.scr ns), x]) (n := 0) ⟨(fun o ho => nomatch ho), _, rfl⟩ ?_ ?_
    · rintro j d ρ1 h1 he ⟨nr, x, rfl⟩
      have hj : j < m.toNat := by
        rcases Nat.lt_or_ge j m.toNat with z | z
        · exact z
        · rw [List.getElem?_eq_none (by simpa using z)] at he; cases he
      rw [List.getElem?_map, List.getElem?_range hj] at he
      cases he
      simp
      refine w_purse nr (by omega) fun r h2 g => ?_
      refine (w_right g).mono fun d h3 z => ?_
      obtain ⟨rfl, n3⟩ := z
      simp
      exact n3
    · rintro ρ1 h1 ⟨nr, x, rfl⟩
      simp
  cases e : runB 2 b_law [.scr ns] [] with
  | ok d h => rw [e, Res.is_ok] at this; subst this; exact ⟨h, rfl⟩
  | _ => rw [e] at this; exact this.go.elim
end K33
end
set_option maxRecDepth 100000 in
theorem PySem.Challenge.cw_passedits_k33_errors_of_likeness_holds : PySem.Challenge.rw_passedits_k33_errors_of_likeness.Holds := by
  exact K33.holds_of fun ns hn _ => K33.w_law hn
