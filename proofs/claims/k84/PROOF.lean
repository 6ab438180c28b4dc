import PyProof.Rows.All
import Wide.All
import OpenK.AllK
import Wide.FinOn
import KE.SortData
import HandS.ForMost
import HandS.ForExc
import HandS.Flow
import HandS.IsInst
import HandS.Deep
import HandS.Conv
import HandS.Zip
import HandS.TupAny
import HandS.Lambda
import HandS.HotCalls
import HandS.ExcInit
import HandS.ExcField
import HandS.ExcIs
import HandS.TupMul
import HandS.TupLen
import HandS.Style
import HandS.Wide
import HandS.RaiseMore
import HandS.Small
import HandS.More
import HandS.Rev
import HandS.Comp
import HandS.WordsExc
import HandS.Defaults
import HandS.Strs
import HandS.SetFor
import KE.KExcIs
import HandS.Head0
import HandS.Head1
import HandS.Head2
import HandS.HeadEnd
import HandS.HeadHook4
import HandS.HeadWalk
import KE.KStateDown
import PySem.Challenge.RW_twentyseven_k84_whole_bits_and_forms
set_option Elab.async false
set_option linter.all false
set_option maxRecDepth 100000
set_option maxHeartbeats 4000000
/-! Ev: an evaluator of plain data for a part of Python, sound over the hand layer. -/
namespace Ev
open PySem PySem.Spec PyProof.Rows L2

/-! ## Data -/
/-- the built-in classes -/
inductive Bt where
  | int | bool | str | list | tuple | dict | none | object | value
  deriving DecidableEq, Inhabited
def Bt.name : Bt → String
  | .int => "int" | .bool => "bool" | .str => "str" | .list => "list" | .tuple => "tuple" | .dict => "dict" | .none => "NoneType" | .object => "object" | .value => "ValueError"
inductive D where
  | non | bl (b : Bool) | int (i : Int) | str (s : Str)
  | tup (xs : List D) | lst (xs : List D)
  | dK (kvs : List (Key × D)) | dT (kvs : List (List Key × D))
  | ins (c : Nat) (fs : List (Str × D)) | exn (c : Nat) (fs : List (Str × D))
  | fn (k : Nat)
  | ty (T : Bt)
  | cl (k : Nat)
  | scr (ns : List Int)
  | ktp (xs : List D)
  deriving Inhabited

inductive Md where
  | frz | own | lck
  deriving DecidableEq, Inhabited

structure Val where
  m : Md
  d : D
  deriving Inhabited

abbrev En := List (Option Val)

/-- an operand: a value (own: a fresh container that nobody else holds), or the container that stands in a slot -/
inductive Opd where
  | v (own : Bool) (d : D)
  | ali (i : Nat)
  deriving Inhabited

inductive R (α : Type) where
  | ok (a : α) (ρ : En)
  | exc (c : Nat) (as : List (Str × D))
  | stuck

def R.bind {α β : Type} (r : R α) (f : α → En → R β) : R β :=
  match r with
  | .ok a ρ => f a ρ
  | .exc c as => .exc c as
  | .stuck => .stuck

/-- where things stand -/
structure Ge where
  K : PySem.W.Frag
  T : List (Addr × Str)
  fn : Nat → Addr
  cls : Nat → Addr
  hot : Option (Addr × Nat × Addr)

abbrev AS := Addr → Prop

section
variable (G : Ge) (F : AS) (H : Hp)
mutual
inductive Rep : D → V → Prop where
  | non : Rep .non .non
  | bl (b : Bool) : Rep (.bl b) (.bl b)
  | int (i : Int) : Rep (.int i) (.int i)
  | str (s : Str) : Rep (.str s) (.str s)
  | tup {a : Addr} {xs : List D} {vs : List V} (f : F a) (h : H a = some (.tup vs)) (r : Reps xs vs) : Rep (.tup xs) (.ref a)
  | ktp {a : Addr} {xs : List D} {vs : List V} (h : ∀ H', SqT G.K H' a vs) (r : Reps xs vs) : Rep (.ktp xs) (.ref a)
  | lst {a : Addr} {xs : List D} {vs : List V} (f : F a) (h : H a = some (.lst vs)) (r : Reps xs vs) : Rep (.lst xs) (.ref a)
  | scr {a : Addr} {ns : List Int} (h : (F a ∧ Rd H a (.lst (ns.map V.int))) ∨ ∀ H', SqL G.K H' a (ns.map V.int)) : Rep (.scr ns) (.ref a)
  | dK {a : Addr} {kvs : List (Key × D)} {ks : List Key} {ds : List D} {ws : List (Key × V)} {vs : List V} (f : F a) (h : H a = some (.dK ws)) (e1 : kvs = ks.zip ds) (e2 : ws = ks.zip vs) (l : ks.length = ds.length) (r : Reps ds vs) : Rep (.dK kvs) (.ref a)
  | dT {a : Addr} {kvs : List (List Key × D)} {ks : List (List Key)} {ds : List D} {ws : List (List Key × V)} {vs : List V} (f : F a) (h : H a = some (.dT ws)) (e1 : kvs = ks.zip ds) (e2 : ws = ks.zip vs) (l : ks.length = ds.length) (r : Reps ds vs) : Rep (.dT kvs) (.ref a)
  | ins {a dx : Addr} {c : Nat} {fs : List (Str × D)} {ks : List Str} {ds : List D} {ws : List (Str × V)} {vs : List V} (f : F a) (h : H a = some (.ins (G.cls c) dx ws)) (e1 : fs = ks.zip ds) (e2 : ws = ks.zip vs) (l : ks.length = ds.length) (r : Reps ds vs) : Rep (.ins c fs) (.ref a)
  | exn {a dd : Addr} {c : Nat} {fs : List (Str × D)} {ks : List Str} {ds : List D} {ws : List (Str × V)} {vs : List V} (g : G.hot = some (a, c, dd)) (f : F dd) (h : H dd = some (.xd ws)) (e1 : fs = ks.zip ds) (e2 : ws = ks.zip vs) (l : ks.length = ds.length) (r : Reps ds vs) : Rep (.exn c fs) (.ref a)
  | fn (k : Nat) : Rep (.fn k) (.ref (G.fn k))
  | ty (T : Bt) : Rep (.ty T) (.ty T.name)
  | cl (k : Nat) : Rep (.cl k) (.ref (G.cls k))
inductive Reps : List D → List V → Prop where
  | nil : Reps [] []
  | cons {x : D} {v : V} {xs : List D} {vs : List V} (h : Rep x v) (t : Reps xs vs) : Reps (x :: xs) (v :: vs)
end
end

/-- what a step keeps of a frozen set -/
def Keeps (F : AS) (H H' : Hp) : Prop := ∀ a o, F a → H a = some o → (∀ ps, o ≠ .tbl ps) → H' a = some o

theorem Rd.keep {F : AS} {H H' : Hp} {a : Addr} {u : HO} (k : Keeps F H H') (f : F a) (hu : ∀ ps, u ≠ .tbl ps) (h : Rd H a u) : Rd H' a u := by
  rcases h with h | ⟨o, h⟩
  · exact .inl (k a _ f h hu)
  · exact .inr ⟨o, k a _ f h (fun ps z => nomatch z)⟩

section
variable {G : Ge} {F F' : AS} {H H' : Hp}
theorem Rep.monoB (hF : ∀ a, F a → F' a) (k : Keeps F H H') : (∀ {d : D} {v : V}, Rep G F H d v → Rep G F' H' d v) ∧ ∀ {xs : List D} {vs : List V}, Reps G F H xs vs → Reps G F' H' xs vs := by
  refine ⟨fun {d v} h => ?_, fun {xs vs} h => ?_⟩
  · refine Rep.rec (motive_1 := fun d v _ => Rep G F' H' d v) (motive_2 := fun xs vs _ => Reps G F' H' xs vs) .non .bl .int .str ?_ ?_ ?_ ?_ ?_ ?_ ?_ ?_ .fn .ty .cl .nil ?_ h
    · exact fun f h _ r => .tup (hF _ f) (k _ _ f h (fun _ z => nomatch z)) r
    · exact fun h _ r => .ktp h r
    · exact fun f h _ r => .lst (hF _ f) (k _ _ f h (fun _ z => nomatch z)) r
    · exact fun {_ ns} h => .scr (h.elim (fun h => .inl ⟨hF _ h.1, Rd.keep (u := .lst (ns.map V.int)) k h.1 (fun _ z => nomatch z) h.2⟩) .inr)
    · exact fun f h e1 e2 l _ r => .dK (hF _ f) (k _ _ f h (fun _ z => nomatch z)) e1 e2 l r
    · exact fun f h e1 e2 l _ r => .dT (hF _ f) (k _ _ f h (fun _ z => nomatch z)) e1 e2 l r
    · exact fun f h e1 e2 l _ r => .ins (hF _ f) (k _ _ f h (fun _ z => nomatch z)) e1 e2 l r
    · exact fun g f h e1 e2 l _ r => .exn g (hF _ f) (k _ _ f h (fun _ z => nomatch z)) e1 e2 l r
    · exact fun _ _ h t => .cons h t
  · refine Reps.rec (motive_1 := fun d v _ => Rep G F' H' d v) (motive_2 := fun xs vs _ => Reps G F' H' xs vs) .non .bl .int .str ?_ ?_ ?_ ?_ ?_ ?_ ?_ ?_ .fn .ty .cl .nil ?_ h
    · exact fun f h _ r => .tup (hF _ f) (k _ _ f h (fun _ z => nomatch z)) r
    · exact fun h _ r => .ktp h r
    · exact fun f h _ r => .lst (hF _ f) (k _ _ f h (fun _ z => nomatch z)) r
    · exact fun {_ ns} h => .scr (h.elim (fun h => .inl ⟨hF _ h.1, Rd.keep (u := .lst (ns.map V.int)) k h.1 (fun _ z => nomatch z) h.2⟩) .inr)
    · exact fun f h e1 e2 l _ r => .dK (hF _ f) (k _ _ f h (fun _ z => nomatch z)) e1 e2 l r
    · exact fun f h e1 e2 l _ r => .dT (hF _ f) (k _ _ f h (fun _ z => nomatch z)) e1 e2 l r
    · exact fun f h e1 e2 l _ r => .ins (hF _ f) (k _ _ f h (fun _ z => nomatch z)) e1 e2 l r
    · exact fun g f h e1 e2 l _ r => .exn g (hF _ f) (k _ _ f h (fun _ z => nomatch z)) e1 e2 l r
    · exact fun _ _ h t => .cons h t
theorem Rep.mono {d : D} {v : V} (hF : ∀ a, F a → F' a) (k : Keeps F H H') (h : Rep G F H d v) : Rep G F' H' d v := (Rep.monoB hF k).1 h
theorem Reps.mono {xs : List D} {vs : List V} (hF : ∀ a, F a → F' a) (k : Keeps F H H') (h : Reps G F H xs vs) : Reps G F' H' xs vs := (Rep.monoB hF k).2 h

theorem Reps.length : ∀ {xs : List D} {vs : List V}, Reps G F H xs vs → xs.length = vs.length
  | _, _, .nil => rfl
  | _, _, .cons _ t => by simp [Reps.length t]
theorem Reps.get : ∀ {xs : List D} {vs : List V} {i : Nat} {x : D}, Reps G F H xs vs → xs[i]? = some x → ∃ v, vs[i]? = some v ∧ Rep G F H x v
  | _, _, _, _, .nil, e => by simp at e
  | _, _, 0, _, .cons h _, e => by simp at e; subst e; exact ⟨_, rfl, h⟩
  | _, _, i + 1, _, .cons _ t, e => by
    obtain ⟨v, h1, h2⟩ := Reps.get (i := i) t (by simpa using e)
    exact ⟨v, by simpa using h1, h2⟩
theorem Reps.getV : ∀ {xs : List D} {vs : List V} {i : Nat} {v : V}, Reps G F H xs vs → vs[i]? = some v → ∃ x, xs[i]? = some x ∧ Rep G F H x v
  | _, _, _, _, .nil, e => by simp at e
  | _, _, 0, _, .cons h _, e => by simp at e; subst e; exact ⟨_, rfl, h⟩
  | _, _, i + 1, _, .cons _ t, e => by
    obtain ⟨v, h1, h2⟩ := Reps.getV (i := i) t (by simpa using e)
    exact ⟨v, by simpa using h1, h2⟩
theorem Reps.append : ∀ {xs ys : List D} {vs ws : List V}, Reps G F H xs vs → Reps G F H ys ws → Reps G F H (xs ++ ys) (vs ++ ws)
  | _, _, _, _, .nil, s => s
  | _, _, _, _, .cons h t, s => .cons h (Reps.append t s)
theorem Reps.snoc {xs : List D} {x : D} {vs : List V} {v : V} (r : Reps G F H xs vs) (h : Rep G F H x v) : Reps G F H (xs ++ [x]) (vs ++ [v]) := r.append (.cons h .nil)
theorem Reps.take : ∀ {xs : List D} {vs : List V} (n : Nat), Reps G F H xs vs → Reps G F H (xs.take n) (vs.take n)
  | _, _, 0, _ => .nil
  | _, _, _ + 1, .nil => .nil
  | _, _, n + 1, .cons h t => .cons h (Reps.take n t)
theorem Reps.drop : ∀ {xs : List D} {vs : List V} (n : Nat), Reps G F H xs vs → Reps G F H (xs.drop n) (vs.drop n)
  | _, _, 0, r => r
  | _, _, _ + 1, .nil => .nil
  | _, _, n + 1, .cons _ t => Reps.drop n t
theorem Reps.set : ∀ {xs : List D} {vs : List V} {x : D} {v : V} (i : Nat), Reps G F H xs vs → Rep G F H x v → Reps G F H (xs.set i x) (vs.set i v)
  | _, _, _, _, _, .nil, _ => .nil
  | _, _, _, _, 0, .cons _ t, q => .cons q t
  | _, _, _, _, i + 1, .cons h t, q => .cons h (Reps.set i t q)
theorem Reps.eraseIdx : ∀ {xs : List D} {vs : List V} (i : Nat), Reps G F H xs vs → Reps G F H (xs.eraseIdx i) (vs.eraseIdx i)
  | _, _, _, .nil => .nil
  | _, _, 0, .cons _ t => t
  | _, _, i + 1, .cons h t => .cons h (Reps.eraseIdx i t)
theorem Reps.reverse : ∀ {xs : List D} {vs : List V}, Reps G F H xs vs → Reps G F H xs.reverse vs.reverse
  | _, _, .nil => .nil
  | _, _, .cons h t => by
    rw [List.reverse_cons, List.reverse_cons]
    exact (Reps.reverse t).snoc h
theorem Reps.dropLast {xs : List D} {vs : List V} (r : Reps G F H xs vs) : Reps G F H xs.dropLast vs.dropLast := by
  rw [List.dropLast_eq_take, List.dropLast_eq_take, r.length]
  exact r.take _
theorem Reps.of_get : ∀ {xs : List D} {vs : List V}, xs.length = vs.length → (∀ (i : Nat) x v, xs[i]? = some x → vs[i]? = some v → Rep G F H x v) → Reps G F H xs vs
  | [], [], _, _ => .nil
  | x :: xs, v :: vs, l, h => .cons (h 0 x v rfl rfl) (Reps.of_get (by simpa using l) fun i y w a b => h (i + 1) y w (by simpa using a) (by simpa using b))
end

/-! ## Containers, slots, states -/
/-- the container at a reads as d, its items shared -/
inductive Con (G : Ge) (F : AS) (H : Hp) : D → Addr → Prop where
  | lst {a : Addr} {xs : List D} {vs : List V} (h : H a = some (.lst vs)) (r : Reps G F H xs vs) : Con G F H (.lst xs) a
  | dK {a : Addr} {kvs : List (Key × D)} {ks : List Key} {ds : List D} {ws : List (Key × V)} {vs : List V} (h : H a = some (.dK ws)) (e1 : kvs = ks.zip ds) (e2 : ws = ks.zip vs) (l : ks.length = ds.length) (r : Reps G F H ds vs) : Con G F H (.dK kvs) a
  | dT {a : Addr} {kvs : List (List Key × D)} {ks : List (List Key)} {ds : List D} {ws : List (List Key × V)} {vs : List V} (h : H a = some (.dT ws)) (e1 : kvs = ks.zip ds) (e2 : ws = ks.zip vs) (l : ks.length = ds.length) (r : Reps G F H ds vs) : Con G F H (.dT kvs) a
  | ins {a dx : Addr} {c : Nat} {fs : List (Str × D)} {ks : List Str} {ds : List D} {ws : List (Str × V)} {vs : List V} (h : H a = some (.ins (G.cls c) dx ws)) (e1 : fs = ks.zip ds) (e2 : ws = ks.zip vs) (l : ks.length = ds.length) (r : Reps G F H ds vs) : Con G F H (.ins c fs) a

/-- slots that are not stored to, containers that are walked -/
structure Zn where
  par : List (Nat × V)
  L : AS
def RepV (G : Ge) (Z : Zn) (F M : AS) (H : Hp) (x : Val) (v : V) : Prop :=
  match x.m with
  | .frz => Rep G F H x.d v
  | .own => ∃ a, v = .ref a ∧ M a ∧ Con G F H x.d a
  | .lck => ∃ a, v = .ref a ∧ Z.L a ∧ Con G F H x.d a

section
variable {G : Ge} {F F' M M' : AS} {H H' : Hp} {d : D} {v : V} {a : Addr}
theorem Con.there (o : Con G F H d a) : ∃ u, H a = some u ∧ ∀ ps, u ≠ .tbl ps := by
  cases o with
  | lst h r => exact ⟨_, h, fun _ z => nomatch z⟩
  | dK h e1 e2 l r => exact ⟨_, h, fun _ z => nomatch z⟩
  | dT h e1 e2 l r => exact ⟨_, h, fun _ z => nomatch z⟩
  | ins h e1 e2 l r => exact ⟨_, h, fun _ z => nomatch z⟩
theorem Con.ne (o : Con G F H d a) : H a ≠ none := by
  obtain ⟨u, h, _⟩ := o.there
  rw [h]; simp
theorem Con.mono (o : Con G F H d a) (hF : ∀ a, F a → F' a) (k : Keeps F H H') (hH : H' a = H a) : Con G F' H' d a := by
  cases o with
  | lst h r => exact .lst (hH.trans h) (r.mono hF k)
  | dK h e1 e2 l r => exact .dK (hH.trans h) e1 e2 l (r.mono hF k)
  | dT h e1 e2 l r => exact .dT (hH.trans h) e1 e2 l (r.mono hF k)
  | ins h e1 e2 l r => exact .ins (hH.trans h) e1 e2 l (r.mono hF k)
/-- a container becomes a shared one -/
theorem Con.freeze (o : Con G F H d a) (hF : ∀ b, F b → F' b) (ha : F' a) : Rep G F' H d (.ref a) := by
  have k : Keeps F H H := fun _ _ _ h _ => h
  cases o with
  | lst h r => exact .lst ha h (r.mono hF k)
  | dK h e1 e2 l r => exact .dK ha h e1 e2 l (r.mono hF k)
  | dT h e1 e2 l r => exact .dT ha h e1 e2 l (r.mono hF k)
  | ins h e1 e2 l r => exact .ins ha h e1 e2 l (r.mono hF k)
theorem RepV.frz {Z : Zn} (r : Rep G F H d v) : RepV G Z F M H ⟨.frz, d⟩ v := r
end

structure St (G : Ge) (Z : Zn) (F M : AS) (ρ : En) (σ : L2.St) (H : Hp) : Prop where
  len : ρ.length = σ.length
  slot : ∀ (i : Nat) (x : Val), ρ[i]? = some (some x) → ∃ v, σ[i]? = some (some v) ∧ RepV G Z F M H x v
  apart : ∀ (i j : Nat) (x y : Val), i ≠ j → ρ[i]? = some (some x) → ρ[j]? = some (some y) → x.m ≠ .frz → y.m ≠ .frz → σ[i]? ≠ σ[j]?
  dj : ∀ a, F a → ¬ M a
  fd : ∀ a, F a → H a ≠ none
  md : ∀ a, M a → H a ≠ none
  tab : LamX.Tabs G.T H
  par : ∀ p ∈ Z.par, σ[p.1]? = some (some p.2)
  ld : ∀ a, Z.L a → ¬ F a ∧ ¬ M a ∧ H a ≠ none
  tf : ∀ a vs, H a = some (.tup vs) → F a

structure Stp (T : List (Addr × Str)) (F M : AS) (H : Hp) (F' M' : AS) (H' : Hp) : Prop where
  ext : ∀ a, F a → F' a
  new : ∀ a, F' a ∨ M' a → F a ∨ M a ∨ H a = none
  keep : ∀ a o, H a = some o → ¬ M a → (∀ ps, o ≠ .tbl ps) → H' a = some o
  dom : ∀ a, H a ≠ none → H' a ≠ none
  tab : LamX.Tabs T H → LamX.Tabs T H'

section
variable {G : Ge} {T : List (Addr × Str)} {Z : Zn} {F M F1 M1 F2 M2 F3 M3 : AS} {ρ ρ' : En} {σ : L2.St} {H H1 H2 H3 : Hp}
theorem Stp.refl : Stp T F M H F M H := ⟨fun _ h => h, fun a h => h.elim .inl fun z => .inr (.inl z), fun _ _ h _ _ => h, fun _ h => h, fun t => t⟩
theorem Stp.trans (dj : ∀ a, F2 a → ¬ M2 a) (a : Stp T F1 M1 H1 F2 M2 H2) (b : Stp T F2 M2 H2 F3 M3 H3) : Stp T F1 M1 H1 F3 M3 H3 := by
  refine ⟨fun x h => b.ext x (a.ext x h), fun x h => ?_, fun x o h n t => ?_, fun x h => b.dom x (a.dom x h), fun t => b.tab (a.tab t)⟩
  · rcases b.new x h with z | z | z
    · exact a.new x (.inl z)
    · exact a.new x (.inr z)
    · by_cases q : H1 x = none
      · exact .inr (.inr q)
      · exact absurd z (a.dom x q)
  · have h2 := a.keep x o h n t
    refine b.keep x o h2 (fun m2 => ?_) t
    rcases a.new x (.inr m2) with z | z | z
    · exact dj x (a.ext x z) m2
    · exact n z
    · rw [h] at z; cases z
theorem Stp.keeps (s : Stp T F M H F1 M1 H1) (dj : ∀ a, F a → ¬ M a) : Keeps F H H1 := fun a o f h t => s.keep a o h (dj a f) t
theorem Stp.kept {d : D} {a : Addr} (s : Stp T F M H F1 M1 H1) (c : Con G F H d a) (n : ¬ M a) : H1 a = H a := by
  obtain ⟨u, h, t⟩ := c.there
  rw [s.keep a u h n t, h]
theorem Stp.out {a : Addr} (s : Stp T F M H F1 M1 H1) (hf : ¬ F a) (hm : ¬ M a) (h : H a ≠ none) : ¬ F1 a ∧ ¬ M1 a := by
  refine ⟨fun z => ?_, fun z => ?_⟩
  · rcases s.new a (.inl z) with q | q | q
    · exact hf q
    · exact hm q
    · exact h q
  · rcases s.new a (.inr z) with q | q | q
    · exact hf q
    · exact hm q
    · exact h q
theorem Rep.step {d : D} {v : V} (dj : ∀ a, F a → ¬ M a) (s : Stp T F M H F1 M1 H1) (r : Rep G F H d v) : Rep G F1 H1 d v := r.mono s.ext (s.keeps dj)
theorem Reps.step {xs : List D} {vs : List V} (dj : ∀ a, F a → ¬ M a) (s : Stp T F M H F1 M1 H1) (r : Reps G F H xs vs) : Reps G F1 H1 xs vs := r.mono s.ext (s.keeps dj)
theorem Con.step {d : D} {a : Addr} (dj : ∀ a, F a → ¬ M a) (s : Stp T F M H F1 M1 H1) (c : Con G F H d a) (n : ¬ M a) : Con G F1 H1 d a := c.mono s.ext (s.keeps dj) (s.kept c n)

/-! ## operands -/
def Fresh (ρ : En) (σ : L2.St) (a : Addr) : Prop := ∀ (i : Nat) (x : Val), ρ[i]? = some (some x) → x.m ≠ .frz → σ[i]? ≠ some (some (.ref a))
/-- the roots of waiting owned operands -/
def Rt (o : Opd) (v : V) (a : Addr) : Prop := match o with
  | .v true _ => v = .ref a
  | _ => False
def RepW (G : Ge) (F M : AS) (σ : L2.St) (H : Hp) (o : Opd) (v : V) : Prop := match o with
  | .v false d => Rep G F H d v
  | .v true d => ∃ a, v = .ref a ∧ M a ∧ Con G F H d a
  | .ali i => σ[i]? = some (some v)
def Wt (G : Ge) (F M : AS) (ρ : En) (σ : L2.St) (H : Hp) : List Opd → List V → Prop
  | [], vs => vs = []
  | o :: os, vs => ∃ v r, vs = v :: r ∧ RepW G F M σ H o v ∧ (∀ a, Rt o v a → Fresh ρ σ a ∧ ∀ q ∈ os.zip r, ¬ Rt q.1 q.2 a) ∧ Wt G F M ρ σ H os r
/-- operands that wait -/
structure StA (G : Ge) (Z : Zn) (F M : AS) (ρ : En) (σ : L2.St) (os : List Opd) (vs : List V) (H : Hp) : Prop where
  st : St G Z F M ρ σ H
  wt : Wt G F M ρ σ H os vs

def Post {α : Type} (G : Ge) (E : XK) (r : R α) (F M : AS) (H : Hp) (k : α → En → AS → AS → Hp → Prop) : Prop :=
  match r with
  | .ok a ρ' => ∀ F' M' H', Stp G.T F M H F' M' H' → k a ρ' F' M' H'
  | .exc c as => ∀ (F' M' : AS) (H' : Hp) (ks : List Str) (ds : List D) (ws : List (Str × V)) (vs : List V) (dd : Addr), Stp G.T F M H F' M' H' → LamX.Tabs G.T H' → as = ks.zip ds → ws = ks.zip vs → ks.length = ds.length → H' dd = some (.xd ws) → H dd = none → F' dd → (∀ a, F' a → ¬ M' a) → (∀ a, F' a → H' a ≠ none) → (∀ a, M' a → H' a ≠ none) → (∀ a vs, H' a = some (.tup vs) → F' a) → Reps G F' H' ds vs → E (.ref (G.cls c)) (some dd) H'
  | .stuck => False

/-- the reading of an expression; of an argument list; of a test -/
def tE (G : Ge) (Z : Zn) (E : XK) (f : En → R Opd) : TE := fun σ H Q => ∃ F M ρ, St G Z F M ρ σ H ∧ Post G E (f ρ) F M H fun o ρ' F' M' H' => ∀ v, StA G Z F' M' ρ' σ [o] [v] H' → Q v H'
def tA (G : Ge) (Z : Zn) (E : XK) (f : En → R (List Opd)) : TA := fun σ H Q => ∃ F M ρ, St G Z F M ρ σ H ∧ Post G E (f ρ) F M H fun os ρ' F' M' H' => ∀ vs, StA G Z F' M' ρ' σ os vs H' → Q vs H'
def tT (G : Ge) (Z : Zn) (E : XK) (f : En → R Bool) : TT := fun σ H Q => ∃ F M ρ, St G Z F M ρ σ H ∧ Post G E (f ρ) F M H fun b ρ' F' M' H' => St G Z F' M' ρ' σ H' → Q b H'

theorem Post.bind {α β : Type} {E : XK} {r : R α} {f : α → En → R β} {k : β → En → AS → AS → Hp → Prop} (h : Post G E (r.bind f) F M H k) :
    Post G E r F M H fun a ρ' F' M' H' => (∀ a, F' a → ¬ M' a) → Post G E (f a ρ') F' M' H' k := by
  cases r with
  | ok a ρ' =>
    intro F' M' H' s dj
    have h : Post G E (f a ρ') F M H k := h
    revert h
    generalize f a ρ' = q
    intro h
    cases q with
    | ok b ρ2 => exact fun F2 M2 H2 s2 => h F2 M2 H2 (s.trans dj s2)
    | exc c as =>
      intro F2 M2 H2 ks ds ws vs dd s2 t e1 e2 l hx hn fx d1 d2 d3 d4 r
      refine h F2 M2 H2 ks ds ws vs dd (s.trans dj s2) t e1 e2 l hx ?_ fx d1 d2 d3 d4 r
      exact Classical.byContradiction fun z => s.dom dd z hn
    | stuck => exact h
  | exc c as => exact h
  | stuck => exact h
theorem Post.mono {α : Type} {E : XK} {r : R α} {k k' : α → En → AS → AS → Hp → Prop} (h : Post G E r F M H k) (i : ∀ a ρ' F' M' H', Stp G.T F M H F' M' H' → k a ρ' F' M' H' → k' a ρ' F' M' H') : Post G E r F M H k' := by
  cases r with
  | ok a ρ' => exact fun F' M' H' s => i a ρ' F' M' H' s (h F' M' H' s)
  | exc c as => exact h
  | stuck => exact h
end
end Ev

namespace Ev
open PySem PySem.Spec PyProof.Rows L2

/-! ## states handled -/
section
variable {G : Ge} {T : List (Addr × Str)} {Z Z' : Zn} {F M F1 M1 F2 M2 F' M' : AS} {ρ ρ' : En} {σ σ' : L2.St} {H H1 H2 H' : Hp}

theorem RepV.root {x : Val} {v : V} (r : RepV G Z F M H x v) (n : x.m ≠ .frz) : ∃ a, v = .ref a ∧ Con G F H x.d a ∧ ((x.m = .own ∧ M a) ∨ (x.m = .lck ∧ Z.L a)) := by
  obtain ⟨m, d⟩ := x
  cases m with
  | frz => exact absurd rfl n
  | own => obtain ⟨a, e, h, c⟩ := r; exact ⟨a, e, c, .inl ⟨rfl, h⟩⟩
  | lck => obtain ⟨a, e, h1, c⟩ := r; exact ⟨a, e, c, .inr ⟨rfl, h1⟩⟩
theorem RepV.mono {x : Val} {v : V} (r : RepV G Z F M H x v) (hF : ∀ a, F a → F' a) (k : Keeps F H H') (hM : ∀ a, x.m = .own → v = .ref a → M a → M' a ∧ H' a = H a) (hL : ∀ a, x.m = .lck → v = .ref a → Z.L a → Z'.L a ∧ H' a = H a) : RepV G Z' F' M' H' x v := by
  obtain ⟨m, d⟩ := x
  cases m with
  | frz => exact Rep.mono hF k r
  | own => obtain ⟨a, e, h, c⟩ := r; obtain ⟨h1, h2⟩ := hM a rfl e h; exact ⟨a, e, h1, c.mono hF k h2⟩
  | lck => obtain ⟨a, e, h, c⟩ := r; obtain ⟨h1, h2⟩ := hL a rfl e h; exact ⟨a, e, h1, c.mono hF k h2⟩

/-- a state seen through other places -/
theorem St.sub (t : St G Z F M ρ σ H) (l : ρ'.length = σ'.length) (g : Nat → Nat) (gi : ∀ i j, g i = g j → i = j) (h : ∀ (i : Nat) (x : Val), ρ'[i]? = some (some x) → ρ[g i]? = some (some x) ∧ σ'[i]? = σ[g i]?)
    (hp : ∀ p ∈ Z'.par, σ'[p.1]? = some (some p.2)) (hL : Z'.L = Z.L) : St G Z' F M ρ' σ' H := by
  refine ⟨l, fun i x e => ?_, fun i j x y n e1 e2 h1 h2 => ?_, t.dj, t.fd, t.md, t.tab, hp, by rw [hL]; exact t.ld, t.tf⟩
  · obtain ⟨a, b⟩ := h i x e
    obtain ⟨v, c, d⟩ := t.slot _ x a
    exact ⟨v, b.trans c, d.mono (fun _ h => h) (fun _ _ _ h _ => h) (fun _ _ _ h => ⟨h, rfl⟩) (fun _ _ _ h => ⟨by rw [hL]; exact h, rfl⟩)⟩
  · obtain ⟨a1, b1⟩ := h i x e1
    obtain ⟨a2, b2⟩ := h j y e2
    rw [b1, b2]
    exact t.apart _ _ x y (fun z => n (gi _ _ z)) a1 a2 h1 h2

/-- all of a state's parts over other sets, another heap -/
theorem St.recast (t : St G Z F M ρ σ H) (F' M' : AS) (H' : Hp) (hF : ∀ a, F a → F' a) (k : Keeps F H H')
    (hM : ∀ (i : Nat) (x : Val) (a : Addr), ρ[i]? = some (some x) → σ[i]? = some (some (.ref a)) → x.m = .own → M a → M' a ∧ H' a = H a) (hL : ∀ a, Z.L a → H' a = H a)
    (dj : ∀ a, F' a → ¬ M' a) (fd : ∀ a, F' a → H' a ≠ none) (md : ∀ a, M' a → H' a ≠ none) (tab : LamX.Tabs G.T H') (ld : ∀ a, Z.L a → ¬ F' a ∧ ¬ M' a) (tf : ∀ a vs, H' a = some (.tup vs) → F' a) : St G Z F' M' ρ σ H' := by
  refine ⟨t.len, fun i x e => ?_, t.apart, dj, fd, md, tab, t.par, fun a h => ⟨(ld a h).1, (ld a h).2, by rw [hL a h]; exact (t.ld a h).2.2⟩, tf⟩
  obtain ⟨v, c, d⟩ := t.slot i x e
  exact ⟨v, c, d.mono hF k (fun a m ea hm => hM i x a e (by rw [c, ea]) m hm) (fun a m ea hl => ⟨hl, hL a hl⟩)⟩
theorem keeps_refl : Keeps F H H := fun _ _ _ h _ => h

/-- fewer owned ones: those that no slot owns -/
theorem St.narrow (t : St G Z F M ρ σ H) (P : AS) (h : ∀ (i : Nat) (x : Val) (a : Addr), ρ[i]? = some (some x) → x.m = .own → σ[i]? = some (some (.ref a)) → ¬ P a) : St G Z F (fun a => M a ∧ ¬ P a) ρ σ H :=
  t.recast F _ H (fun _ h => h) keeps_refl (fun i x a e1 e2 m hm => ⟨⟨hm, h i x a e1 m e2⟩, rfl⟩) (fun _ _ => rfl) (fun a f m => t.dj a f m.1) t.fd (fun a m => t.md a m.1) t.tab (fun a hl => ⟨(t.ld a hl).1, fun z => (t.ld a hl).2.1 z.1⟩) t.tf
theorem Stp.narrow (P : AS) : Stp T F M H F (fun a => M a ∧ ¬ P a) H :=
  ⟨fun _ h => h, fun a h => h.elim .inl fun z => .inr (.inl z.1), fun _ _ h _ _ => h, fun _ h => h, fun t => t⟩
theorem St.moreM (t : St G Z F M ρ σ H) (h1 : ∀ a, M a → M' a) (h2 : ∀ a, M' a → ¬ M a → ¬ F a ∧ H a ≠ none ∧ ¬ Z.L a) : St G Z F M' ρ σ H := by
  refine t.recast F M' H (fun _ h => h) keeps_refl (fun i x a _ _ _ hm => ⟨h1 a hm, rfl⟩) (fun _ _ => rfl) (fun a f m => ?_) t.fd (fun a m => ?_) t.tab (fun a hl => ⟨(t.ld a hl).1, fun z => (h2 a z (t.ld a hl).2.1).2.2 hl⟩) t.tf
  · by_cases q : M a
    · exact t.dj a f q
    · exact (h2 a m q).1 f
  · by_cases q : M a
    · exact t.md a q
    · exact (h2 a m q).2.1

def Fz (F : AS) (a : Addr) : AS := fun b => F b ∨ b = a
/-- the slot's container is shared from now on -/
theorem St.freezeAt (t : St G Z F M ρ σ H) {i : Nat} {d : D} (e : ρ[i]? = some (some ⟨.own, d⟩)) :
    ∃ a, σ[i]? = some (some (.ref a)) ∧ M a ∧ Stp T F M H (Fz F a) (fun b => M b ∧ ¬ b = a) H ∧ St G Z (Fz F a) (fun b => M b ∧ ¬ b = a) (ρ.set i (some ⟨.frz, d⟩)) σ H ∧ Rep G (Fz F a) H d (.ref a) := by
  obtain ⟨v, es, a, ev, hm, c⟩ := t.slot i _ e
  subst ev
  have rep : Rep G (Fz F a) H d (.ref a) := c.freeze (fun _ h => .inl h) (.inr rfl)
  have hla : ¬ Z.L a := fun z => (t.ld a z).2.1 hm
  refine ⟨a, es, hm, ⟨fun b h => .inl h, fun b h => ?_, fun _ _ h _ _ => h, fun _ h => h, fun t => t⟩, ⟨by simpa using t.len, fun j x ej => ?_, fun j k x y n ej ek hx hy => ?_, fun b f m => ?_, fun b f => ?_, fun b m => t.md b m.1, t.tab, t.par, fun b hb => ⟨fun z => ?_, fun z => (t.ld b hb).2.1 z.1, (t.ld b hb).2.2⟩, fun b vs h => .inl (t.tf b vs h)⟩, rep⟩
  · rcases h with (h | h) | h
    · exact .inl h
    · exact .inr (.inl (h ▸ hm))
    · exact .inr (.inl h.1)
  · by_cases q : j = i
    · subst q
      rw [List.getElem?_set_self (by exact (List.getElem?_eq_some_iff.mp e).1)] at ej
      cases ej
      exact ⟨_, es, rep⟩
    · rw [List.getElem?_set_ne (Ne.symm q)] at ej
      obtain ⟨w, ew, r⟩ := t.slot j x ej
      refine ⟨w, ew, r.mono (fun _ h => .inl h) keeps_refl (fun b m eb hb => ⟨⟨hb, fun z => ?_⟩, rfl⟩) fun b _ _ hb => ⟨hb, rfl⟩⟩
      subst z
      subst eb
      exact t.apart j i _ _ q ej e (by rw [m]; simp) (by simp) (ew.trans es.symm)
  · have old : ∀ (l : Nat) (z : Val), (ρ.set i (some ⟨.frz, d⟩))[l]? = some (some z) → z.m ≠ .frz → ρ[l]? = some (some z) := fun l z el hz => by
      by_cases q : l = i
      · subst q
        rw [List.getElem?_set_self (by exact (List.getElem?_eq_some_iff.mp e).1)] at el
        cases el
        exact absurd rfl hz
      · rw [List.getElem?_set_ne (Ne.symm q)] at el
        exact el
    exact t.apart j k x y n (old j x ej hx) (old k y ek hy) hx hy
  · rcases f with f | f
    · exact t.dj b f m.1
    · exact m.2 f
  · rcases f with f | f
    · exact t.fd b f
    · subst f; exact t.md b hm
  · rcases z with z | z
    · exact (t.ld b hb).1 z
    · subst z; exact hla hb

/-- a new object is laid -/
theorem keeps_upd {p : Addr} {o : HO} (hp : H p = none) (F : AS) : Keeps F H (upd H p o) := fun a u _ h _ => by rw [upd_ne (ne_of_none h hp)]; exact h
theorem dom_upd {p : Addr} {o : HO} {a : Addr} (h : H a ≠ none) : upd H p o a ≠ none := by
  by_cases q : a = p
  · subst q; rw [upd_same]; simp
  · rw [upd_ne q]; exact h
theorem upd_old {p a : Addr} {o : HO} (hp : H p = none) (h : H a ≠ none) : upd H p o a = H a := upd_ne fun z => h (z ▸ hp)
theorem tab_upd {p : Addr} {o : HO} (hp : H p = none) (t : LamX.Tabs T H) : LamX.Tabs T (upd H p o) := t.ext fun b u h => by rw [upd_ne (ne_of_none h hp)]; exact h
theorem Stp.laid {p : Addr} {o : HO} (hp : H p = none) : Stp T F M H F M (upd H p o) :=
  ⟨fun _ h => h, fun a h => h.elim .inl fun z => .inr (.inl z), fun a u h _ _ => by rw [upd_ne (ne_of_none h hp)]; exact h, fun a h => dom_upd h, tab_upd hp⟩
theorem Con.upd_ {d : D} {a p : Addr} {o : HO} (hp : H p = none) (c : Con G F H d a) : Con G F (upd H p o) d a := c.mono (fun _ h => h) (keeps_upd hp F) (upd_old hp c.ne)
theorem Rep.upd_ {d : D} {v : V} {p : Addr} {o : HO} (hp : H p = none) (c : Rep G F H d v) : Rep G F (upd H p o) d v := c.mono (fun _ h => h) (keeps_upd hp F)
theorem Reps.upd_ {d : List D} {v : List V} {p : Addr} {o : HO} (hp : H p = none) (c : Reps G F H d v) : Reps G F (upd H p o) d v := c.mono (fun _ h => h) (keeps_upd hp F)
theorem tf_upd {p : Addr} {o : HO} (t : ∀ a vs, H a = some (.tup vs) → F a) (nt : ∀ vs, o ≠ .tup vs) : ∀ a vs, upd H p o a = some (.tup vs) → F a := fun a vs h => by
  by_cases q : a = p
  · subst q; rw [upd_same] at h; exact absurd (Option.some.inj h) (nt vs)
  · rw [upd_ne q] at h; exact t a vs h
theorem St.laid {p : Addr} {o : HO} (t : St G Z F M ρ σ H) (hp : H p = none) (nt : ∀ vs, o ≠ .tup vs) : St G Z F M ρ σ (upd H p o) :=
  t.recast F M _ (fun _ h => h) (keeps_upd hp F) (fun i x a _ _ _ hm => ⟨hm, upd_old hp (t.md a hm)⟩) (fun a hl => upd_old hp (t.ld a hl).2.2) t.dj (fun a f => dom_upd (t.fd a f)) (fun a f => dom_upd (t.md a f)) (tab_upd hp t.tab) (fun a hl => ⟨(t.ld a hl).1, (t.ld a hl).2.1⟩) (tf_upd t.tf nt)
theorem St.notF (t : St G Z F M ρ σ H) {p : Addr} (hp : H p = none) : ¬ F p := fun z => t.fd p z hp
theorem St.notM (t : St G Z F M ρ σ H) {p : Addr} (hp : H p = none) : ¬ M p := fun z => t.md p z hp
theorem St.notL (t : St G Z F M ρ σ H) {p : Addr} (hp : H p = none) : ¬ Z.L p := fun z => (t.ld p z).2.2 hp
theorem St.freshOf {a : Addr} (t : St G Z F M ρ σ H) (h : H a = none) : Fresh ρ σ a := fun i x e n z => by
  obtain ⟨v, es, r⟩ := t.slot i x e
  obtain ⟨b, eb, c, _⟩ := r.root n
  subst eb
  rw [z] at es
  cases es
  exact c.ne h

/-! ## waiting operands -/
theorem St.A0 (t : St G Z F M ρ σ H) : StA G Z F M ρ σ [] [] H := ⟨t, rfl⟩
/-- a result that is shared -/
theorem St.res {d : D} {v : V} (t : St G Z F M ρ σ H) (r : Rep G F H d v) : StA G Z F M ρ σ [.v false d] [v] H :=
  ⟨t, v, [], rfl, r, fun _ z => z.elim, rfl⟩
/-- a result that stands in a slot -/
theorem St.resAli {i : Nat} {v : V} (t : St G Z F M ρ σ H) (e : σ[i]? = some (some v)) : StA G Z F M ρ σ [.ali i] [v] H :=
  ⟨t, v, [], rfl, e, fun _ z => z.elim, rfl⟩
theorem Stp.more (s : Stp T F M H F1 M1 H1) (h : ∀ a, M2 a → M1 a ∨ H a = none ∨ M a) : Stp T F M H F1 M2 H1 :=
  ⟨s.ext, fun a x => x.elim (fun x => s.new a (.inl x)) fun x => (h a x).elim (fun x => s.new a (.inr x)) fun x => .inr (x.elim .inr .inl), s.keep, s.dom, s.tab⟩
theorem Con.ntup {d : D} {p : Addr} {o : HO} (c : Con G F (upd H p o) d p) : ∀ vs, o ≠ .tup vs := fun vs z => by
  cases c with
  | lst h r => rw [upd_same] at h; cases h; cases z
  | dK h e1 e2 l r => rw [upd_same] at h; cases h; cases z
  | dT h e1 e2 l r => rw [upd_same] at h; cases h; cases z
  | ins h e1 e2 l r => rw [upd_same] at h; cases h; cases z
/-- a result that is a new container -/
theorem St.resNew {d : D} {p : Addr} {o : HO} (t : St G Z F M ρ σ H) (hp : H p = none) (c : Con G F (upd H p o) d p) :
    Stp G.T F M H F (fun b => M b ∨ b = p) (upd H p o) ∧ StA G Z F (fun b => M b ∨ b = p) ρ σ [.v true d] [.ref p] (upd H p o) := by
  refine ⟨(Stp.laid hp).more fun a h => h.elim .inl fun h => .inr (.inl (h ▸ hp)), ⟨(t.laid (o := o) hp c.ntup).moreM (fun _ h => .inl h) fun a h n => ?_, _, [], rfl, ⟨p, rfl, .inr rfl, c⟩, fun a z => ?_, rfl⟩⟩
  · rcases h with h | h
    · exact absurd h n
    · subst h
      exact ⟨t.notF hp, c.ne, t.notL hp⟩
  · cases (show V.ref p = V.ref a from z)
    exact ⟨t.freshOf hp, fun q hq => absurd hq (by simp)⟩
/-- .. a new shared one -/
theorem St.resTup {d : D} {p : Addr} {o : HO} (t : St G Z F M ρ σ H) (hp : H p = none) (c : Rep G (Fz F p) (upd H p o) d (.ref p)) :
    Stp G.T F M H (Fz F p) M (upd H p o) ∧ StA G Z (Fz F p) M ρ σ [.v false d] [.ref p] (upd H p o) := by
  have s : Stp G.T F M H (Fz F p) M (upd H p o) := by
    refine ⟨fun _ h => .inl h, fun a h => ?_, fun a u h n q => (Stp.laid (T := G.T) (F := F) (M := M) hp).keep a u h n q, fun a h => dom_upd h, tab_upd hp⟩
    rcases h with (h | h) | h
    · exact .inl h
    · subst h; exact .inr (.inr hp)
    · exact .inr (.inl h)
  have dj : ∀ a, Fz F p a → ¬ M a := fun a f m => by
    rcases f with f | f
    · exact t.dj a f m
    · subst f; exact t.notM hp m
  refine ⟨s, St.res (t.recast _ M _ (fun _ h => .inl h) (keeps_upd hp F) (fun i x a _ _ _ hm => ⟨hm, upd_old hp (t.md a hm)⟩) (fun a hl => upd_old hp (t.ld a hl).2.2) dj (fun a f => ?_) (fun a f => dom_upd (t.md a f)) (tab_upd hp t.tab) (fun a hl => ⟨fun z => ?_, (t.ld a hl).2.1⟩) fun a vs h => ?_) c⟩
  · rcases f with f | f
    · exact dom_upd (t.fd a f)
    · subst f; rw [upd_same]; simp
  · rcases z with z | z
    · exact (t.ld a hl).1 z
    · subst z; exact t.notL hp hl
  · by_cases q : a = p
    · exact .inr q
    · rw [upd_ne q] at h; exact .inl (t.tf a vs h)

/-- one operand waits while others are reckoned: ahead -/
theorem StA.ahead {o : Opd} {v : V} (t : StA G Z F M ρ σ [o] [v] H) : St G Z F (fun a => M a ∧ ¬ Rt o v a) ρ σ H := by
  refine t.st.narrow (Rt o v) fun i x a e hm es hr => ?_
  obtain ⟨w, r, e0, _, h, _⟩ := t.wt
  cases e0
  exact (h a hr).1 i x e (by rw [hm]; simp) es
theorem Wt.mono {os : List Opd} (hF : ∀ a, F a → F' a) (k : Keeps F H H') : ∀ {vs : List V}, (∀ q ∈ os.zip vs, ∀ a, Rt q.1 q.2 a → Fresh ρ σ a → M a → M' a ∧ H' a = H a) → Wt G F M ρ σ H os vs → Wt G F' M' ρ σ H' os vs := by
  induction os with
  | nil => exact fun _ h => h
  | cons o os ih =>
    rintro vs hM ⟨v, r, rfl, w, h, t⟩
    refine ⟨v, r, rfl, ?_, h, ih (fun q hq => hM q (by rw [List.zip_cons_cons]; exact List.mem_cons_of_mem _ hq)) t⟩
    cases o with
    | ali i => exact w
    | v own d =>
      cases own with
      | false => exact Rep.mono hF k w
      | true =>
        obtain ⟨a, ea, hm, c⟩ := w
        have er : Rt (.v true d) v a := ea
        obtain ⟨m2, h2⟩ := hM (.v true d, v) (by rw [List.zip_cons_cons]; exact List.mem_cons_self) a er (h a er).1 hm
        exact ⟨a, ea, m2, c.mono hF k h2⟩
/-- roots of waiting operands are owned -/
theorem Wt.root {os : List Opd} : ∀ {vs : List V}, Wt G F M ρ σ H os vs → ∀ q ∈ os.zip vs, ∀ a, Rt q.1 q.2 a → M a ∧ Fresh ρ σ a ∧ H a ≠ none := by
  induction os with
  | nil => rintro vs rfl q hq; simp at hq
  | cons o os ih =>
    rintro vs ⟨v, r, rfl, w, h, t⟩ q hq a hr
    rw [List.zip_cons_cons] at hq
    rcases List.mem_cons.mp hq with rfl | hq
    · obtain ⟨f, _⟩ := h a hr
      cases o with
      | ali i => exact hr.elim
      | v own d =>
        cases own with
        | false => exact hr.elim
        | true =>
          obtain ⟨b, eb, hm, c⟩ := w
          have hv : v = .ref a := hr
          rw [hv] at eb
          cases eb
          exact ⟨hm, f, c.ne⟩
    · exact ih t q hq a hr
theorem Wt.len {os : List Opd} : ∀ {vs : List V}, Wt G F M ρ σ H os vs → os.length = vs.length := by
  induction os with
  | nil => rintro vs rfl; rfl
  | cons o os ih => rintro vs ⟨v, r, rfl, _, _, t⟩; simp [ih t]
/-- .. behind -/
theorem StA.behind {o : Opd} {v : V} {os : List Opd} {vs : List V} (t : StA G Z F M ρ σ [o] [v] H) (s : Stp G.T F (fun a => M a ∧ ¬ Rt o v a) H F' M' H') (t' : StA G Z F' M' ρ' σ os vs H') :
    Stp G.T F M H F' (fun a => M' a ∨ (Rt o v a ∧ M a)) H' ∧ StA G Z F' (fun a => M' a ∨ (Rt o v a ∧ M a)) ρ' σ (o :: os) (v :: vs) H' := by
  have hrf : ∀ a, Rt o v a → M a → ¬ F' a ∧ ¬ M' a := fun a h hm => s.out (fun f => t.st.dj a f hm) (fun z => z.2 h) (t.st.md a hm)
  obtain ⟨w0, r0, e0, w, h, _⟩ := t.wt
  cases e0
  have rt : ∀ a, Rt o v a → M a := fun a hr => (t.wt.root (o, v) (by simp) a hr).1
  refine ⟨⟨s.ext, fun a h => ?_, fun a u h n q => s.keep a u h (fun z => n z.1) q, s.dom, s.tab⟩, ⟨t'.st.moreM (fun _ z => .inl z) fun a z n => ?_, v, vs, rfl, ?_, fun a hr => ?_, t'.wt.mono (fun _ z => z) keeps_refl fun _ _ _ _ _ z => ⟨.inl z, rfl⟩⟩⟩
  · rcases h with h | h | h
    · rcases s.new a (.inl h) with z | z | z
      · exact .inl z
      · exact .inr (.inl z.1)
      · exact .inr (.inr z)
    · rcases s.new a (.inr h) with z | z | z
      · exact .inl z
      · exact .inr (.inl z.1)
      · exact .inr (.inr z)
    · exact .inr (.inl h.2)
  · rcases z with z | ⟨z1, z2⟩
    · exact absurd z n
    · exact ⟨(hrf a z1 z2).1, s.dom a (t.st.md a z2), fun l => (t.st.ld a l).2.1 z2⟩
  · cases o with
    | ali i => exact w
    | v own d =>
      cases own with
      | false => exact Rep.mono s.ext (s.keeps fun a f m => t.st.dj a f m.1) w
      | true =>
        obtain ⟨a, ea, hm, c⟩ := w
        exact ⟨a, ea, .inr ⟨ea, hm⟩, c.step (fun a f m => t.st.dj a f m.1) s fun z => z.2 ea⟩
  · have hm := rt a hr
    refine ⟨fun i x e n es => ?_, fun q hq hq2 => ?_⟩
    · obtain ⟨w', es', r⟩ := t'.st.slot i x e
      obtain ⟨b, eb, c, hb⟩ := r.root n
      subst eb
      rw [es] at es'
      cases es'
      rcases hb with ⟨_, hb⟩ | ⟨_, hb⟩
      · exact (hrf a hr hm).2 hb
      · exact (t.st.ld a hb).2.1 hm
    · exact (hrf a hr hm).2 (t'.wt.root q hq a hq2).1

/-- a root that no slot has is shared from now on -/
theorem St.freezeRoot {a : Addr} (t : St G Z F M ρ σ H) (hm : M a) (fr : Fresh ρ σ a) : Stp T F M H (Fz F a) (fun b => M b ∧ ¬ b = a) H ∧ St G Z (Fz F a) (fun b => M b ∧ ¬ b = a) ρ σ H := by
  refine ⟨⟨fun b h => .inl h, fun b h => ?_, fun _ _ h _ _ => h, fun _ h => h, fun t => t⟩,
    t.recast _ _ H (fun _ h => .inl h) keeps_refl (fun i x b e1 e2 m hb => ⟨⟨hb, fun z => ?_⟩, rfl⟩) (fun _ _ => rfl) (fun b f m => ?_) (fun b f => ?_) (fun b m => t.md b m.1) t.tab (fun b hl => ⟨fun z => ?_, fun z => (t.ld b hl).2.1 z.1⟩) fun b vs h => .inl (t.tf b vs h)⟩
  · rcases h with (h | h) | h
    · exact .inl h
    · exact .inr (.inl (h ▸ hm))
    · exact .inr (.inl h.1)
  · subst z
    exact fr i x e1 (by rw [m]; simp) e2
  · rcases f with f | f
    · exact t.dj b f m.1
    · exact m.2 f
  · rcases f with f | f
    · exact t.fd b f
    · subst f; exact t.md b hm
  · rcases z with z | z
    · exact (t.ld b hl).1 z
    · subst z; exact (t.ld b hl).2.1 hm

/-! ## from a list of operands -/
def sArgs : List (En → R Opd) → En → R (List Opd)
  | [], ρ => .ok [] ρ
  | f :: fs, ρ => (f ρ).bind fun o ρ1 => (sArgs fs ρ1).bind fun os ρ2 => .ok (o :: os) ρ2
theorem tA_nil {E : XK} {σ : L2.St} {H : Hp} {Q : List V → Hp → Prop} (h : tA G Z E (sArgs []) σ H Q) : Q [] H := by
  obtain ⟨F, M, ρ, t, p⟩ := h
  exact p F M H Stp.refl [] t.A0
theorem tA_cons {E : XK} {f : En → R Opd} {fs : List (En → R Opd)} {σ : L2.St} {H : Hp} {Q : List V → Hp → Prop} (h : tA G Z E (sArgs (f :: fs)) σ H Q) :
    tE G Z E f σ H fun x H1 => tA G Z E (sArgs fs) σ H1 fun xs H2 => Q (x :: xs) H2 := by
  obtain ⟨F, M, ρ, t, p⟩ := h
  refine ⟨F, M, ρ, t, (Post.bind (f := fun o ρ1 => (sArgs fs ρ1).bind fun os ρ2 => .ok (o :: os) ρ2) p).mono fun o ρ1 F1 M1 H1 s1 q v a1 => ?_⟩
  have q := q a1.st.dj
  refine ⟨F1, _, ρ1, a1.ahead, ?_⟩
  revert q
  generalize sArgs fs ρ1 = r
  intro q
  cases r with
  | ok os ρ2 =>
    intro F2 M2 H2 s2 vs a2
    obtain ⟨s3, a3⟩ := a1.behind s2 a2
    exact q _ _ _ s3 (v :: vs) a3
  | exc c as =>
    intro F2 M2 H2 ks ds ws vs dd s2 tt e1 e2 l hx hn fx d1 d2 d3 d4 rr
    refine q F2 M2 H2 ks ds ws vs dd ((Stp.narrow (Rt o v)).trans ?_ s2) tt e1 e2 l hx hn fx d1 d2 d3 d4 rr
    exact fun a f m => a1.st.dj a f m.1
  | stuck => exact q
end
end Ev

namespace Ev
open PySem PySem.Spec PyProof.Rows L2

/-! ## operands read -/
def slotD (ρ : En) (i : Nat) : Option D := match ρ[i]? with
  | some (some x) => some x.d
  | _ => none
def der (o : Opd) (ρ : En) : Option D := match o with
  | .v _ d => some d
  | .ali i => slotD ρ i
def ders : List Opd → En → Option (List D)
  | [], _ => some []
  | o :: os, ρ => match der o ρ with
    | some d => match ders os ρ with
      | some ds => some (d :: ds)
      | none => none
    | none => none
/-- readable -/
def Ra (G : Ge) (F : AS) (H : Hp) (d : D) (v : V) : Prop := Rep G F H d v ∨ ∃ a, v = .ref a ∧ Con G F H d a
def Ras (G : Ge) (F : AS) (H : Hp) : List D → List V → Prop := Paired (Ra G F H)

section
variable {G : Ge} {Z : Zn} {F M F' M' : AS} {ρ : En} {σ : L2.St} {H H' : Hp}
theorem RepV.ra {x : Val} {v : V} (r : RepV G Z F M H x v) : Ra G F H x.d v := by
  obtain ⟨m, d⟩ := x
  cases m with
  | frz => exact .inl r
  | own => obtain ⟨a, e, _, c⟩ := r; exact .inr ⟨a, e, c⟩
  | lck => obtain ⟨a, e, _, c⟩ := r; exact .inr ⟨a, e, c⟩
theorem slotD_val {i : Nat} {d : D} (e : slotD ρ i = some d) : ∃ x : Val, ρ[i]? = some (some x) ∧ x.d = d := by
  unfold slotD at e
  split at e
  · rename_i x h
    exact ⟨x, h, Option.some.inj e⟩
  · cases e
theorem St.slotRa (t : St G Z F M ρ σ H) {i : Nat} {d : D} {v : V} (e : slotD ρ i = some d) (es : σ[i]? = some (some v)) : Ra G F H d v := by
  obtain ⟨x, ex, ed⟩ := slotD_val e
  obtain ⟨w, ew, r⟩ := t.slot i x ex
  rw [es] at ew
  cases ew
  exact ed ▸ r.ra
theorem St.derRa (t : St G Z F M ρ σ H) {o : Opd} {v : V} {d : D} (w : RepW G F M σ H o v) (e : der o ρ = some d) : Ra G F H d v := by
  cases o with
  | ali i => exact t.slotRa e w
  | v own d' =>
    cases e
    cases own with
    | false => exact .inl w
    | true => obtain ⟨a, ea, _, c⟩ := w; exact .inr ⟨a, ea, c⟩
theorem StA.read {os : List Opd} {vs : List V} {ds : List D} (t : StA G Z F M ρ σ os vs H) (e : ders os ρ = some ds) : Ras G F H ds vs := by
  obtain ⟨t, w⟩ := t
  induction os generalizing vs ds with
  | nil =>
    cases w
    cases e
    exact .nil
  | cons o os ih =>
    obtain ⟨v, r, rfl, w, _, ws⟩ := w
    unfold ders at e
    split at e
    · rename_i d ed
      split at e
      · rename_i ds' eds
        cases e
        exact .cons (t.derRa w ed) (ih eds ws)
      · cases e
    · cases e

/-! ## operands shared -/
/-- a value, kept -/
def frz1 (o : Opd) (ρ : En) : Option (D × En) := match o with
  | .v _ d => some (d, ρ)
  | .ali i => match ρ[i]? with
    | some (some ⟨.own, d⟩) => some (d, ρ.set i (some ⟨.frz, d⟩))
    | some (some ⟨.frz, d⟩) => some (d, ρ)
    | _ => none
def frzs : List Opd → En → Option (List D × En)
  | [], ρ => some ([], ρ)
  | o :: os, ρ => match frz1 o ρ with
    | some (d, ρ1) => match frzs os ρ1 with
      | some (ds, ρ2) => some (d :: ds, ρ2)
      | none => none
    | none => none
theorem Wt.slots {ρ' : En} (h : ∀ a, Fresh ρ σ a → Fresh ρ' σ a) : ∀ {os : List Opd} {vs : List V}, Wt G F M ρ σ H os vs → Wt G F M ρ' σ H os vs
  | [], _, w => w
  | _ :: _, _, ⟨v, r, e, w, q, t⟩ => ⟨v, r, e, w, fun a z => ⟨h a (q a z).1, (q a z).2⟩, Wt.slots h t⟩
theorem fresh_set {i : Nat} {d : D} {a : Addr} (f : Fresh ρ σ a) : Fresh (ρ.set i (some ⟨.frz, d⟩)) σ a := fun j x e n => by
  by_cases q : j = i
  · subst q
    have hl := (List.getElem?_eq_some_iff.mp e).1
    rw [List.getElem?_set_self (by simpa using hl)] at e
    cases e
    exact absurd rfl n
  · rw [List.getElem?_set_ne (Ne.symm q)] at e
    exact f j x e n
theorem StA.frz1 {o : Opd} {v : V} {os : List Opd} {vs : List V} {d : D} {ρ1 : En} (t : StA G Z F M ρ σ (o :: os) (v :: vs) H) (e : Ev.frz1 o ρ = some (d, ρ1)) :
    ∃ F1 M1, Stp G.T F M H F1 M1 H ∧ StA G Z F1 M1 ρ1 σ os vs H ∧ Rep G F1 H d v := by
  obtain ⟨t, v', r', e', w, h, ws⟩ := t
  cases e'
  cases o with
  | ali i =>
    unfold Ev.frz1 at e
    dsimp only at e
    split at e
    · rename_i d' he
      cases e
      obtain ⟨a, es, hm, s, t1, rp⟩ := t.freezeAt (T := G.T) he
      have es' : σ[i]? = some (some v) := w
      rw [es] at es'
      cases es'
      refine ⟨_, _, s, ⟨t1, (ws.mono (F' := Fz F a) (fun _ h => .inl h) keeps_refl fun q hq b hr fr hb => ⟨⟨hb, fun z => ?_⟩, rfl⟩).slots fun b f => fresh_set f⟩, rp⟩
      subst z
      exact fr i _ he (by simp) es
    · rename_i d' he
      cases e
      refine ⟨F, M, Stp.refl, ⟨t, ws⟩, ?_⟩
      obtain ⟨u, eu, ru⟩ := t.slot i _ he
      have es' : σ[i]? = some (some v) := w
      rw [eu] at es'
      cases es'
      exact ru
    · cases e
  | v own d' =>
    cases e
    cases own with
    | false => exact ⟨F, M, Stp.refl, ⟨t, ws⟩, w⟩
    | true =>
      obtain ⟨a, ea, hm, c⟩ := w
      subst ea
      obtain ⟨fr, ap⟩ := h a rfl
      obtain ⟨s, t1⟩ := t.freezeRoot (T := G.T) hm fr
      exact ⟨_, _, s, ⟨t1, ws.mono (F' := Fz F a) (fun _ h => .inl h) keeps_refl fun q hq b hr _ hb => ⟨⟨hb, fun z => ap q hq (z ▸ hr)⟩, rfl⟩⟩, c.freeze (fun _ h => .inl h) (.inr rfl)⟩
theorem StA.frzs {os : List Opd} : ∀ {vs : List V} {ds : List D} {F M : AS} {ρ ρ1 : En}, StA G Z F M ρ σ os vs H → Ev.frzs os ρ = some (ds, ρ1) →
    ∃ F1 M1, Stp G.T F M H F1 M1 H ∧ St G Z F1 M1 ρ1 σ H ∧ Reps G F1 H ds vs := by
  induction os with
  | nil =>
    intro vs ds F M ρ ρ1 t e
    cases e
    have hv : vs = [] := t.wt
    subst hv
    exact ⟨F, M, Stp.refl, t.st, .nil⟩
  | cons o os ih =>
    intro vs ds F M ρ ρ1 t e
    obtain ⟨v, r, rfl, _⟩ := id t.wt
    unfold Ev.frzs at e
    split at e
    · rename_i d ρ' e1
      split at e
      · rename_i ds' ρ'' e2
        cases e
        obtain ⟨F1, M1, s1, t1, rp⟩ := t.frz1 e1
        obtain ⟨F2, M2, s2, t2, rps⟩ := ih t1 e2
        exact ⟨F2, M2, s1.trans t1.st.dj s2, t2, .cons (rp.step t1.st.dj s2) rps⟩
      · cases e
    · cases e

/-! ## operators upon operands that are read -/
def sOp (op : List D → Option (Bool × D)) (fs : List (En → R Opd)) : En → R Opd := fun ρ => (sArgs fs ρ).bind fun os ρ1 => match ders os ρ1 with
  | some ds => match op ds with
    | some (b, d) => .ok (.v b d) ρ1
    | none => .stuck
  | none => .stuck
/-- what follows a result -/
def Kont (G : Ge) (Z : Zn) (F M : AS) (ρ : En) (σ : L2.St) (H : Hp) (b : Bool) (d : D) (Q : VK) : Prop := ∀ F' M' H' v, Stp G.T F M H F' M' H' → StA G Z F' M' ρ σ [.v b d] [v] H' → Q v H'
theorem Kont.rep {d : D} {v : V} {Q : VK} (k : Kont G Z F M ρ σ H false d Q) (t : St G Z F M ρ σ H) (r : Rep G F H d v) : Q v H := k F M H v Stp.refl (t.res r)
theorem Kont.new {d : D} {p : Addr} {o : HO} {Q : VK} (k : Kont G Z F M ρ σ H true d Q) (t : St G Z F M ρ σ H) (hp : H p = none) (c : Con G F (upd H p o) d p) : Q (.ref p) (upd H p o) := by
  obtain ⟨s, a⟩ := t.resNew hp c
  exact k _ _ _ _ s a
theorem Kont.newT {xs : List D} {vs : List V} {p : Addr} {Q : VK} (k : Kont G Z F M ρ σ H false (.tup xs) Q) (t : St G Z F M ρ σ H) (hp : H p = none) (r : Reps G F H xs vs) : Q (.ref p) (upd H p (.tup vs)) := by
  obtain ⟨s, a⟩ := t.resTup (o := .tup vs) (d := .tup xs) hp (.tup (.inr rfl) upd_same ((r.upd_ hp).mono (fun _ h => .inl h) keeps_refl))
  exact k _ _ _ _ s a
theorem Kont.newL {xs : List D} {vs : List V} {p : Addr} {Q : VK} (k : Kont G Z F M ρ σ H true (.lst xs) Q) (t : St G Z F M ρ σ H) (hp : H p = none) (r : Reps G F H xs vs) : Q (.ref p) (upd H p (.lst vs)) :=
  k.new t hp (.lst upd_same (r.upd_ hp))
def OpOk (G : Ge) (op : List D → Option (Bool × D)) (r : List V → Hp → VK → Prop) : Prop :=
  ∀ {Z : Zn} {F M : AS} {ρ : En} {σ : L2.St} {H : Hp} {ds : List D} {vs : List V} {b : Bool} {d : D} {Q : VK}, St G Z F M ρ σ H → Ras G F H ds vs → op ds = some (b, d) → Kont G Z F M ρ σ H b d Q → r vs H Q
theorem tA_mono {E : XK} {f : En → R (List Opd)} {Q Q' : List V → Hp → Prop} (h : tA G Z E f σ H Q) (i : ∀ vs H, Q vs H → Q' vs H) : tA G Z E f σ H Q' := by
  obtain ⟨F, M, ρ, t, p⟩ := h
  exact ⟨F, M, ρ, t, p.mono fun a ρ' F' M' H' _ k vs w => i _ _ (k vs w)⟩
theorem tE_mono {E : XK} {f : En → R Opd} {Q Q' : VK} (h : tE G Z E f σ H Q) (i : ∀ v H, Q v H → Q' v H) : tE G Z E f σ H Q' := by
  obtain ⟨F, M, ρ, t, p⟩ := h
  exact ⟨F, M, ρ, t, p.mono fun a ρ' F' M' H' _ k vs w => i _ _ (k vs w)⟩
/-- from the reading of an operator to that of its operands -/
theorem tA_use {α : Type} {E : XK} {fs : List (En → R Opd)} {g : List Opd → En → R α} {k : α → En → AS → AS → Hp → Prop} {Q : List V → Hp → Prop} {F M : AS} {ρ : En} (t : St G Z F M ρ σ H) (p : Post G E ((sArgs fs ρ).bind g) F M H k)
    (h : ∀ os ρ1 F1 M1 H1 vs, Stp G.T F M H F1 M1 H1 → StA G Z F1 M1 ρ1 σ os vs H1 → Post G E (g os ρ1) F1 M1 H1 k → Q vs H1) : tA G Z E (sArgs fs) σ H Q :=
  ⟨F, M, ρ, t, (Post.bind p).mono fun os ρ1 F1 M1 H1 s q vs a => h os ρ1 F1 M1 H1 vs s a (q a.st.dj)⟩
theorem sOp_use {E : XK} {op : List D → Option (Bool × D)} {r : List V → Hp → VK → Prop} {fs : List (En → R Opd)} {Q : VK} (ok : OpOk G op r) (h : tE G Z E (sOp op fs) σ H Q) : tA G Z E (sArgs fs) σ H fun vs H1 => r vs H1 Q := by
  obtain ⟨F, M, ρ, t, p⟩ := h
  refine tA_use t p fun os ρ1 F1 M1 H1 vs s a q => ?_
  split at q
  · rename_i ds e1
    split at q
    · rename_i b d e2
      exact ok a.st (a.read e1) e2 fun F' M' H' v s' a' => q F' M' H' s' v a'
    · exact q.elim
  · exact q.elim
theorem tA1 {E : XK} {f : En → R Opd} {Q : List V → Hp → Prop} (h : tA G Z E (sArgs [f]) σ H Q) : tE G Z E f σ H fun x H1 => Q [x] H1 := tE_mono (tA_cons h) fun x H1 h1 => tA_nil h1
theorem tA2 {E : XK} {f g : En → R Opd} {Q : List V → Hp → Prop} (h : tA G Z E (sArgs [f, g]) σ H Q) : tE G Z E f σ H fun x H1 => tE G Z E g σ H1 fun y H2 => Q [x, y] H2 := tE_mono (tA_cons h) fun x H1 h1 => tA1 h1
theorem tA3 {E : XK} {f g k : En → R Opd} {Q : List V → Hp → Prop} (h : tA G Z E (sArgs [f, g, k]) σ H Q) : tE G Z E f σ H fun x H1 => tE G Z E g σ H1 fun y H2 => tE G Z E k σ H2 fun z H3 => Q [x, y, z] H3 := tE_mono (tA_cons h) fun x H1 h1 => tA2 h1
end
section
variable {X : Cx} {e a b : Expr} {pos : Pos} {G : Ge} {Z : Zn} {E : XK} {f g : En → R Opd}
theorem _root_.L2.PE.imp {t t' : TE} (h : PE X e t) (i : ∀ σ H Q, t' σ H Q → t σ H Q) : PE X e t' := ⟨fun pins s σ H Q I hq => h.run pins s σ H Q I (i σ H Q hq)⟩
theorem _root_.L2.PT.imp {t t' : TT} (h : PT X e t) (i : ∀ σ H Q, t' σ H Q → t σ H Q) : PT X e t' := ⟨fun pins s σ H Q I hq => h.run pins s σ H Q I (i σ H Q hq)⟩
theorem _root_.L2.PS.imp {st : Stmt} {t t' : TS} (h : PS X st t) (i : ∀ D σ H, t' D σ H → t D σ H) : PS X st t' := ⟨fun pins s σ H D I hq => h.run pins s σ H D I (i D σ H hq)⟩
theorem _root_.L2.PSs.imp {st : List Stmt} {t t' : TS} (h : PSs X st t) (i : ∀ D σ H, t' D σ H → t D σ H) : PSs X st t' := ⟨fun pins s σ H D I hq => h.run pins s σ H D I (i D σ H hq)⟩
theorem _root_.L2.PA.imp {es : List Expr} {t t' : TA} (h : PA X es t) (i : ∀ σ H Q, t' σ H Q → t σ H Q) : PA X es t' := ⟨fun pos pins s σ H Q I hq => h.run pos pins s σ H Q I (i σ H Q hq)⟩
/-- a rule upon two operands -/
def r2 (r : R2) : List V → Hp → VK → Prop := fun vs H Q => ∃ x y, vs = [x, y] ∧ r x y H Q
theorem use2 {op : List D → Option (Bool × D)} {r : R2} (ok : OpOk G op (r2 r)) {σ : L2.St} {H : Hp} {Q : VK} (h : tE G Z E (sOp op [f, g]) σ H Q) : tOp r (tE G Z E f) (tE G Z E g) σ H Q :=
  tE_mono (tA2 (sOp_use ok h)) fun x H1 h1 => tE_mono h1 fun y H2 h2 => by
    obtain ⟨x', y', e, q⟩ := h2
    cases e
    exact q
theorem je_bin {o : Operator} {op : List D → Option (Bool × D)} {r : R2} (ho : OpR X (binaryOp o) r) (ok : OpOk G op (r2 r)) (ha : PE X a (tE G Z E f)) (hb : PE X b (tE G Z E g)) : PE X (.BinOp a o b pos) (tE G Z E (sOp op [f, g])) :=
  (pe_op ho ha hb).imp fun _ _ _ h => use2 ok h
theorem je_cmp {o : CmpOp} {op : List D → Option (Bool × D)} {r : R2} (ho : OpR X (compareOp o) r) (ok : OpOk G op (r2 r)) (ha : PE X a (tE G Z E f)) (hb : PE X b (tE G Z E g)) (hm : behindInMarks o b = false) : PE X (.Compare a [o] [b] pos) (tE G Z E (sOp op [f, g])) :=
  (pe_cmpR ho ha hb hm).imp fun _ _ _ h => use2 ok h
theorem je_ix {op : List D → Option (Bool × D)} {r : R2} (ho : IxR X r) (ok : OpOk G op (r2 r)) (ha : PE X a (tE G Z E f)) (hb : PE X b (tE G Z E g)) (hs : PlainIx b) : PE X (.Subscript a b pos) (tE G Z E (sOp op [f, g])) :=
  (pe_ix ho ha hb hs).imp fun _ _ _ h => use2 ok h
theorem je_un {o : UnaryOp} {op : List D → Option (Bool × D)} {r : V → Hp → VK → Prop} (ho : UnR X (unaryOp o) r) (ok : OpOk G op fun vs H Q => ∃ x, vs = [x] ∧ r x H Q) (ha : PE X a (tE G Z E f)) : PE X (.UnaryOp o a pos) (tE G Z E (sOp op [f])) :=
  (pe_un ho ha).imp fun _ _ _ h => tE_mono (tA1 (sOp_use ok h)) fun x H1 ⟨x', e, q⟩ => by
    cases e
    exact q
end
end Ev

namespace Ev
open PySem PySem.Spec PyProof.Rows L2

/-! ## data by the library's own data -/
mutual
def toPy : D → Option PyData
  | .non => some .none
  | .bl b => some (.bool b)
  | .int i => some (.int i)
  | .str s => some (.str s)
  | .tup xs => (toPys xs).map .tuple
  | .lst xs => (toPys xs).map .list
  | .ktp xs => (toPys xs).map .tuple
  | _ => none
def toPys : List D → Option (List PyData)
  | [] => some []
  | x :: xs => match toPy x with
    | some p => match toPys xs with
      | some ps => some (p :: ps)
      | none => none
    | none => none
end
section
variable {G : Ge} {Z : Zn} {F M : AS} {ρ : En} {σ : L2.St} {H : Hp}
theorem Rep.seqT {xs : List D} {v : V} (r : Rep G F H (.tup xs) v) : ∃ a vs, v = .ref a ∧ SqT G.K H a vs ∧ Reps G F H xs vs := by
  cases r with
  | tup f h r => exact ⟨_, _, rfl, SqT.of h, r⟩
theorem Rep.seqK {xs : List D} {v : V} (r : Rep G F H (.ktp xs) v) : ∃ a vs, v = .ref a ∧ SqT G.K H a vs ∧ Reps G F H xs vs := by
  cases r with
  | ktp h r => exact ⟨_, _, rfl, h H, r⟩
theorem Ra.ktp {xs : List D} {v : V} (r : Ra G F H (.ktp xs) v) : Rep G F H (.ktp xs) v := by
  rcases r with r | ⟨a, _, c⟩
  · exact r
  · cases c
theorem Ra.tup {xs : List D} {v : V} (r : Ra G F H (.tup xs) v) : Rep G F H (.tup xs) v := by
  rcases r with r | ⟨a, _, c⟩
  · exact r
  · cases c
theorem Ra.int {i : Int} {v : V} (r : Ra G F H (.int i) v) : v = .int i := by
  rcases r with r | ⟨a, _, c⟩
  · cases r; rfl
  · cases c
theorem Ra.bl {i : Bool} {v : V} (r : Ra G F H (.bl i) v) : v = .bl i := by
  rcases r with r | ⟨a, _, c⟩
  · cases r; rfl
  · cases c
theorem Ra.str {i : Str} {v : V} (r : Ra G F H (.str i) v) : v = .str i := by
  rcases r with r | ⟨a, _, c⟩
  · cases r; rfl
  · cases c
theorem Ra.non {v : V} (r : Ra G F H .non v) : v = .non := by
  rcases r with r | ⟨a, _, c⟩
  · cases r; rfl
  · cases c
theorem Ra.ty {k : Bt} {v : V} (r : Ra G F H (.ty k) v) : v = .ty k.name := by
  rcases r with r | ⟨a, _, c⟩
  · cases r; rfl
  · cases c
theorem Ra.cl {k : Nat} {v : V} (r : Ra G F H (.cl k) v) : v = .ref (G.cls k) := by
  rcases r with r | ⟨a, _, c⟩
  · cases r; rfl
  · cases c
theorem Ra.fn {k : Nat} {v : V} (r : Ra G F H (.fn k) v) : v = .ref (G.fn k) := by
  rcases r with r | ⟨a, _, c⟩
  · cases r; rfl
  · cases c
/-- a list: where it stands, or one of the written part -/
theorem Ra.lst {xs : List D} {v : V} (r : Ra G F H (.lst xs) v) : ∃ a vs, v = .ref a ∧ SqL G.K H a vs ∧ Reps G F H xs vs := by
  rcases r with r | ⟨a, e, c⟩
  · cases r with
    | lst f h r => exact ⟨_, _, rfl, SqL.of h, r⟩
  · cases c with
    | lst h r => exact ⟨_, _, e, SqL.of h, r⟩
theorem Rep.dpB : (∀ {d : D} {v : V}, Rep G F H d v → ∀ p, toPy d = some p → Dp G.K H v p) ∧ ∀ {xs : List D} {vs : List V}, Reps G F H xs vs → ∀ ps, toPys xs = some ps → DpAll G.K H vs ps := by
  have key : ∀ {xs : List D} {vs : List V} (a : Addr) (r : Reps G F H xs vs), (∀ ps, toPys xs = some ps → DpAll G.K H vs ps) → True := fun _ _ _ => trivial
  refine ⟨fun {d v} h => ?_, fun {xs vs} h => ?_⟩
  · refine Rep.rec (motive_1 := fun d v _ => ∀ p, toPy d = some p → Dp G.K H v p) (motive_2 := fun xs vs _ => ∀ ps, toPys xs = some ps → DpAll G.K H vs ps)
      (fun p e => by cases e; exact .non) (fun b p e => by cases e; exact .bl b) (fun b p e => by cases e; exact .int b) (fun b p e => by cases e; exact .str b) ?_ ?_ ?_ ?_ ?_ ?_ ?_ ?_ ?_ ?_ ?_ ?_ ?_ h
    · intro a xs vs f h _ ih p e
      unfold toPy at e
      obtain ⟨ps, e1, rfl⟩ := Option.map_eq_some_iff.mp e
      exact .tup (SqT.of h) (ih ps e1)
    · intro a xs vs h _ ih p e
      unfold toPy at e
      obtain ⟨ps, e1, rfl⟩ := Option.map_eq_some_iff.mp e
      exact .tup (h H) (ih ps e1)
    · intro a xs vs f h _ ih p e
      unfold toPy at e
      obtain ⟨ps, e1, rfl⟩ := Option.map_eq_some_iff.mp e
      exact .lst (SqL.of h) (ih ps e1)
    · intro a ns h p e
      cases e
    · intro a kvs ks ds ws vs f h e1 e2 l _ ih p e
      cases e
    · intro a kvs ks ds ws vs f h e1 e2 l _ ih p e
      cases e
    · intro a dx c fs ks ds ws vs f h e1 e2 l _ ih p e
      cases e
    · intro a dd c fs ks ds ws vs g f h e1 e2 l _ ih p e
      cases e
    · intro k p e
      cases e
    · intro k p e
      cases e
    · intro k p e
      cases e
    · intro ps e
      cases e
      exact .nil
    · intro x v xs vs _ _ ih1 ih2 ps e
      unfold toPys at e
      split at e
      · rename_i p ep
        split at e
        · rename_i ps' eps
          cases e
          exact .cons (ih1 p ep) (ih2 ps' eps)
        · cases e
      · cases e
  · refine Reps.rec (motive_1 := fun d v _ => ∀ p, toPy d = some p → Dp G.K H v p) (motive_2 := fun xs vs _ => ∀ ps, toPys xs = some ps → DpAll G.K H vs ps)
      (fun p e => by cases e; exact .non) (fun b p e => by cases e; exact .bl b) (fun b p e => by cases e; exact .int b) (fun b p e => by cases e; exact .str b) ?_ ?_ ?_ ?_ ?_ ?_ ?_ ?_ ?_ ?_ ?_ ?_ ?_ h
    · intro a xs vs f h _ ih p e
      unfold toPy at e
      obtain ⟨ps, e1, rfl⟩ := Option.map_eq_some_iff.mp e
      exact .tup (SqT.of h) (ih ps e1)
    · intro a xs vs h _ ih p e
      unfold toPy at e
      obtain ⟨ps, e1, rfl⟩ := Option.map_eq_some_iff.mp e
      exact .tup (h H) (ih ps e1)
    · intro a xs vs f h _ ih p e
      unfold toPy at e
      obtain ⟨ps, e1, rfl⟩ := Option.map_eq_some_iff.mp e
      exact .lst (SqL.of h) (ih ps e1)
    · intro a ns h p e
      cases e
    · intro a kvs ks ds ws vs f h e1 e2 l _ ih p e
      cases e
    · intro a kvs ks ds ws vs f h e1 e2 l _ ih p e
      cases e
    · intro a dx c fs ks ds ws vs f h e1 e2 l _ ih p e
      cases e
    · intro a dd c fs ks ds ws vs g f h e1 e2 l _ ih p e
      cases e
    · intro k p e
      cases e
    · intro k p e
      cases e
    · intro k p e
      cases e
    · intro ps e
      cases e
      exact .nil
    · intro x v xs vs _ _ ih1 ih2 ps e
      unfold toPys at e
      split at e
      · rename_i p ep
        split at e
        · rename_i ps' eps
          cases e
          exact .cons (ih1 p ep) (ih2 ps' eps)
        · cases e
      · cases e
theorem Ra.dp {d : D} {v : V} {p : PyData} (r : Ra G F H d v) (e : toPy d = some p) : Dp G.K H v p := by
  rcases r with r | ⟨a, ev, c⟩
  · exact Rep.dpB.1 r p e
  · subst ev
    cases c with
    | lst h r =>
      unfold toPy at e
      obtain ⟨ps, e1, rfl⟩ := Option.map_eq_some_iff.mp e
      exact .lst (SqL.of h) (Rep.dpB.2 r ps e1)
    | dK => cases e
    | dT => cases e
    | ins => cases e
end
def op2 (f : D → D → Option (Bool × D)) : List D → Option (Bool × D) := fun ds => match ds with
  | [x, y] => f x y
  | _ => none
def op1 (f : D → Option (Bool × D)) : List D → Option (Bool × D) := fun ds => match ds with
  | [x] => f x
  | _ => none
section
variable {G : Ge} {F : AS} {H : Hp}
theorem ras2 {ds : List D} {vs : List V} {f : D → D → Option (Bool × D)} {b : Bool} {d : D} (r : Ras G F H ds vs) (e : op2 f ds = some (b, d)) : ∃ x y v w, ds = [x, y] ∧ vs = [v, w] ∧ Ra G F H x v ∧ Ra G F H y w ∧ f x y = some (b, d) := by
  cases r with
  | nil => cases e
  | cons h1 r =>
    cases r with
    | nil => cases e
    | cons h2 r =>
      cases r with
      | nil => exact ⟨_, _, _, _, rfl, rfl, h1, h2, e⟩
      | cons _ _ => cases e
theorem ras1 {ds : List D} {vs : List V} {f : D → Option (Bool × D)} {b : Bool} {d : D} (r : Ras G F H ds vs) (e : op1 f ds = some (b, d)) : ∃ x v, ds = [x] ∧ vs = [v] ∧ Ra G F H x v ∧ f x = some (b, d) := by
  cases r with
  | nil => cases e
  | cons h1 r =>
    cases r with
    | nil => exact ⟨_, _, rfl, rfl, h1, e⟩
    | cons _ _ => cases e
end

section
variable {G : Ge}
/-- an operator upon two operands: cases of data -/
theorem opOk2 {f : D → D → Option (Bool × D)} {r : R2} (h : ∀ {Z : Zn} {F M : AS} {ρ : En} {σ : L2.St} {H : Hp} {x y : D} {v w : V} {b : Bool} {d : D} {Q : VK}, St G Z F M ρ σ H → Ra G F H x v → Ra G F H y w → f x y = some (b, d) → Kont G Z F M ρ σ H b d Q → r v w H Q) : OpOk G (op2 f) (r2 r) := by
  intro Z F M ρ σ H ds vs b d Q t ra e k
  obtain ⟨x, y, v, w, rfl, rfl, r1, r2, e'⟩ := ras2 ra e
  exact ⟨v, w, rfl, h t r1 r2 e' k⟩
theorem opOk1 {f : D → Option (Bool × D)} {r : V → Hp → VK → Prop} (h : ∀ {Z : Zn} {F M : AS} {ρ : En} {σ : L2.St} {H : Hp} {x : D} {v : V} {b : Bool} {d : D} {Q : VK}, St G Z F M ρ σ H → Ra G F H x v → f x = some (b, d) → Kont G Z F M ρ σ H b d Q → r v H Q) : OpOk G (op1 f) fun vs H Q => ∃ x, vs = [x] ∧ r x H Q := by
  intro Z F M ρ σ H ds vs b d Q t ra e k
  obtain ⟨x, v, rfl, rfl, r1, e'⟩ := ras1 ra e
  exact ⟨v, rfl, h t r1 e' k⟩

/-! ### + -/
def dAdd : D → D → Option (Bool × D)
  | .int i, .int j => some (false, .int (i + j))
  | .int i, .bl k => some (false, .int (i + b2i k))
  | .str x, .str y => if x.length + y.length ≤ sizeLine then some (false, .str (x ++ y)) else none
  | .tup xs, .tup ys => if xs.length + ys.length ≤ sizeLine then some (false, .tup (xs ++ ys)) else none
  | .lst xs, .lst ys => if xs.length + ys.length ≤ sizeLine then some (true, .lst (xs ++ ys)) else none
  | _, _ => none
def rAddAll (K : PySem.W.Frag) : R2 := fun x y H Q => (∃ i j, x = .int i ∧ y = .int j ∧ Q (.int (i + j)) H) ∨ (∃ i k, x = .int i ∧ y = .bl k ∧ Q (.int (i + b2i k)) H) ∨ (∃ i j, x = .str i ∧ y = .str j ∧ i.length + j.length ≤ sizeLine ∧ Q (.str (i ++ j)) H) ∨ rCatA K x y H Q ∨ rCat x y H Q
theorem op_addAll {X : Cx} : OpR X (binaryOp .Add) (rAddAll X.K) := op_add.or (op_add_ib.or (op_add_str.or (op_catA.or op_cat)))
/-- a list: where it stands -/
theorem Ra.lstAt {F : AS} {H : Hp} {xs : List D} {v : V} (r : Ra G F H (.lst xs) v) : ∃ a vs, v = .ref a ∧ H a = some (.lst vs) ∧ Reps G F H xs vs := by
  rcases r with r | ⟨a, e, c⟩
  · cases r with
    | lst f h r => exact ⟨_, _, rfl, h, r⟩
  · cases c with
    | lst h r => exact ⟨_, _, e, h, r⟩
theorem Reps.nil_iff {F : AS} {H : Hp} {xs : List D} {vs : List V} (r : Reps G F H xs vs) : vs = [] ↔ xs = [] := by
  cases r <;> simp
theorem ok_add : OpOk G (op2 dAdd) (r2 (rAddAll G.K)) := opOk2 fun {Z F M ρ σ H x y v w b d Q} t r1 r2 e k => by
  unfold dAdd at e
  split at e
  · cases e
    exact .inl ⟨_, _, r1.int, r2.int, k.rep t (.int _)⟩
  · cases e
    exact .inr (.inl ⟨_, _, r1.int, r2.bl, k.rep t (.int _)⟩)
  · split at e
    · rename_i h
      cases e
      exact .inr (.inr (.inl ⟨_, _, r1.str, r2.str, h, k.rep t (.str _)⟩))
    · cases e
  · rename_i xs ys
    split at e
    · rename_i h
      cases e
      have q1 := r1.tup
      have q2 := r2.tup
      obtain ⟨a1, vs, e1, s1, rs⟩ := q1.seqT
      obtain ⟨a2, ws, e2, s2, rt⟩ := q2.seqT
      subst e1 e2
      refine .inr (.inr (.inr (.inl ⟨a1, a2, vs, ws, rfl, rfl, s1, s2, by rw [← rs.length, ← rt.length]; exact h, fun z => ?_, fun _ z => ?_, fun _ _ p hp => k.newT t hp (rs.append rt)⟩)))
      · have hx : xs = [] := rs.nil_iff.mp z
        subst hx
        exact k.rep t q2
      · have hy : ys = [] := rt.nil_iff.mp z
        subst hy
        rw [List.append_nil] at k
        exact k.rep t q1
    · cases e
  · split at e
    · rename_i h
      cases e
      obtain ⟨a1, vs, e1, s1, rs⟩ := r1.lstAt
      obtain ⟨a2, ws, e2, s2, rt⟩ := r2.lstAt
      subst e1 e2
      exact .inr (.inr (.inr (.inr ⟨a1, a2, vs, ws, rfl, rfl, s1, s2, by rw [← rs.length, ← rt.length]; exact h, fun p hp => k.newL t hp (rs.append rt)⟩)))
    · cases e
  · cases e

/-! ### - * // % ** -/
def dInt2 (c : Int → Int → Bool) (f : Int → Int → Int) : D → D → Option (Bool × D)
  | .int i, .int j => if c i j then some (false, .int (f i j)) else none
  | _, _ => none
theorem ok_int2 {c : Int → Int → Bool} {f : Int → Int → Int} {C : Int → Int → Prop} (hC : ∀ i j, c i j = true → C i j) : OpOk G (op2 (dInt2 c f)) (r2 (rI C fun i j => .int (f i j))) := opOk2 fun {Z F M ρ σ H x y v w b d Q} t r1 r2 e k => by
  unfold dInt2 at e
  split at e
  · split at e
    · rename_i h
      cases e
      exact ⟨_, _, r1.int, r2.int, hC _ _ h, k.rep t (.int _)⟩
    · cases e
  · cases e
def dSub : D → D → Option (Bool × D)
  | .int i, .int j => some (false, .int (i - j))
  | _, _ => none
theorem ok_sub : OpOk G (op2 dSub) (r2 (rI0 fun i j => .int (i - j))) := opOk2 fun {Z F M ρ σ H x y v w b d Q} t r1 r2 e k => by
  unfold dSub at e
  split at e
  · cases e
    exact ⟨_, _, r1.int, r2.int, k.rep t (.int _)⟩
  · cases e
def small64 (i : Int) : Bool := decide (-(2 ^ 64) < i) && decide (i < 2 ^ 64)
def mulOk (i j : Int) : Bool := small64 j || small64 i || decide (i.natAbs.log2 + j.natAbs.log2 < 1000000)
def dMul : D → D → Option (Bool × D)
  | .int i, .int j => if mulOk i j then some (false, .int (i * j)) else none
  | .tup xs, .int k => if !xs.isEmpty && decide (2 ≤ k) && decide (k ≤ 1000) && decide (xs.length ≤ 1000) then some (false, .tup (List.replicate k.toNat xs).flatten) else none
  | .lst xs, .int k => if decide (-(2 ^ 63) ≤ k) && decide (k < 2 ^ 63) && decide (xs.length * k.toNat ≤ sizeLine) then some (true, .lst (List.replicate k.toNat xs).flatten) else none
  | _, _ => none
def rMulAll (K : PySem.W.Frag) : R2 := fun x y H Q => rI CMul (fun i j => .int (i * j)) x y H Q ∨ rI CMulW (fun i j => .int (i * j)) x y H Q ∨ rRepT K x y H Q ∨ rRep x y H Q
theorem op_mulAll {X : Cx} : OpR X (binaryOp .Mult) (rMulAll X.K) := op_mul.or (op_mulW.or (op_repT.or op_rep))
theorem Reps.rep {F : AS} {H : Hp} {xs : List D} {vs : List V} (r : Reps G F H xs vs) : ∀ k : Nat, Reps G F H (List.replicate k xs).flatten (List.replicate k vs).flatten
  | 0 => .nil
  | k + 1 => by
    rw [List.replicate_succ, List.replicate_succ, List.flatten_cons, List.flatten_cons]
    exact r.append (Reps.rep r k)
theorem ok_mul : OpOk G (op2 dMul) (r2 (rMulAll G.K)) := opOk2 fun {Z F M ρ σ H x y v w b d Q} t r1 r2 e k => by
  unfold dMul at e
  split at e
  · split at e
    · rename_i i j h
      cases e
      unfold mulOk at h
      simp only [Bool.or_eq_true, decide_eq_true_eq] at h
      rcases h with (h | h) | h
      · unfold small64 at h
        simp only [Bool.and_eq_true, decide_eq_true_eq] at h
        exact .inl ⟨_, _, r1.int, r2.int, .inr h, k.rep t (.int _)⟩
      · unfold small64 at h
        simp only [Bool.and_eq_true, decide_eq_true_eq] at h
        exact .inl ⟨_, _, r1.int, r2.int, .inl h, k.rep t (.int _)⟩
      · exact .inr (.inl ⟨_, _, r1.int, r2.int, h, k.rep t (.int _)⟩)
    · cases e
  · split at e
    · rename_i xs j h
      cases e
      simp only [Bool.and_eq_true, decide_eq_true_eq, Bool.not_eq_true', List.isEmpty_eq_false_iff] at h
      obtain ⟨⟨⟨h1, h2⟩, h3⟩, h4⟩ := h
      obtain ⟨a1, vs, e1, s1, rs⟩ := r1.tup.seqT
      exact .inr (.inr (.inl ⟨a1, _, vs, e1, r2.int, s1, fun z => h1 (rs.nil_iff.mp z), h2, h3, by rw [← rs.length]; exact h4, fun p hp => k.newT t hp (rs.rep _)⟩))
    · cases e
  · split at e
    · rename_i xs j h
      cases e
      simp only [Bool.and_eq_true, decide_eq_true_eq] at h
      obtain ⟨⟨h1, h2⟩, h3⟩ := h
      obtain ⟨a1, vs, e1, s1, rs⟩ := r1.lstAt
      exact .inr (.inr (.inr ⟨a1, _, vs, e1, r2.int, s1, h1, h2, by rw [← rs.length]; exact h3, fun p hp => k.newL t hp (rs.rep _)⟩))
    · cases e
  · cases e
def divOk (_ j : Int) : Bool := decide (j ≠ 0) && decide (j.natAbs < 1073741824)
def divOkW (_ j : Int) : Bool := decide (0 < j) && decide (j.natAbs.log2 < 9000)
def dDiv : D → D → Option (Bool × D)
  | .int i, .int j => if divOk i j || divOkW i j then some (false, .int (i.fdiv j)) else none
  | _, _ => none
def rDivAll : R2 := fun x y H Q => rI CDivN (fun i j => .int (i.fdiv j)) x y H Q ∨ rI CDivW (fun i j => .int (i / j)) x y H Q
theorem op_divAll {X : Cx} : OpR X (binaryOp .FloorDiv) rDivAll := op_fdivN.or op_fdivW
theorem ok_div : OpOk G (op2 dDiv) (r2 rDivAll) := opOk2 fun {Z F M ρ σ H x y v w b d Q} t r1 r2 e k => by
  unfold dDiv at e
  split at e
  · split at e
    · rename_i i j h
      cases e
      simp only [Bool.or_eq_true] at h
      rcases h with h | h
      · unfold divOk at h
        simp only [Bool.and_eq_true, decide_eq_true_eq] at h
        exact .inl ⟨_, _, r1.int, r2.int, h, k.rep t (.int _)⟩
      · unfold divOkW at h
        simp only [Bool.and_eq_true, decide_eq_true_eq] at h
        refine .inr ⟨_, _, r1.int, r2.int, h, ?_⟩
        show Q (.int (i / j)) H
        rw [← Int.fdiv_eq_ediv_of_nonneg _ (Int.le_of_lt h.1)]
        exact k.rep t (.int _)
    · cases e
  · cases e
def modOk (_ j : Int) : Bool := decide (j ≠ 0)
abbrev dMod : D → D → Option (Bool × D) := dInt2 modOk fun i j => i.fmod j
theorem ok_mod : OpOk G (op2 dMod) (r2 (rI (fun _ j => j ≠ 0) fun i j => .int (i.fmod j))) := ok_int2 fun i j h => of_decide_eq_true h
def powOk (i j : Int) : Bool := decide (0 ≤ j) && decide (j ≤ 1000000) && decide (i.natAbs < 2 ^ 64)
abbrev dPow : D → D → Option (Bool × D) := dInt2 powOk fun i j => i ^ j.toNat
theorem ok_pow : OpOk G (op2 dPow) (r2 (rI CPow fun i j => .int (i ^ j.toNat))) := ok_int2 fun i j h => by
  unfold powOk at h
  simp only [Bool.and_eq_true, decide_eq_true_eq] at h
  exact ⟨h.1.1, h.1.2, h.2⟩
def dNeg : D → Option (Bool × D)
  | .int i => some (false, .int (-i))
  | _ => none
theorem ok_neg : OpOk G (op1 dNeg) fun vs H Q => ∃ x, vs = [x] ∧ rU (fun i => .int (-i)) x H Q := opOk1 fun {Z F M ρ σ H x v b d Q} t r e k => by
  unfold dNeg at e
  split at e
  · cases e
    exact ⟨_, r.int, k.rep t (.int _)⟩
  · cases e

/-! ### comparisons -/
def dEqv (x y : D) : Option Bool := match toPy x with
  | some p => match toPy y with
    | some q => if SeqAt.shaped p && SeqAt.shaped q then some (PyData.eqv p q) else none
    | none => none
  | none => none
def dEq (x y : D) : Option (Bool × D) := match dEqv x y with
  | some b => some (false, .bl b)
  | none => none
def dNe (x y : D) : Option (Bool × D) := match dEqv x y with
  | some b => some (false, .bl (!b))
  | none => none
theorem dEqv_use {x y : D} {b : Bool} (h : dEqv x y = some b) : ∃ p q, toPy x = some p ∧ toPy y = some q ∧ SeqAt.shaped p = true ∧ SeqAt.shaped q = true ∧ b = PyData.eqv p q := by
  unfold dEqv at h
  split at h
  · rename_i p hp
    split at h
    · rename_i q hq
      split at h
      · rename_i hs
        simp only [Bool.and_eq_true] at hs
        exact ⟨p, q, hp, hq, hs.1, hs.2, (Option.some.inj h).symm⟩
      · cases h
    · cases h
  · cases h
theorem ok_eq : OpOk G (op2 dEq) (r2 (rEqD G.K)) := opOk2 fun {Z F M ρ σ H x y v w b d Q} t r1 r2 e k => by
  unfold dEq at e
  split at e
  · rename_i c h
    cases e
    obtain ⟨p, q, e1, e2, s1, s2, rfl⟩ := dEqv_use h
    exact ⟨p, q, r1.dp e1, r2.dp e2, s1, s2, k.rep t (.bl _)⟩
  · cases e
theorem ok_ne : OpOk G (op2 dNe) (r2 (rNeD G.K)) := opOk2 fun {Z F M ρ σ H x y v w b d Q} t r1 r2 e k => by
  unfold dNe at e
  split at e
  · rename_i c h
    cases e
    obtain ⟨p, q, e1, e2, s1, s2, rfl⟩ := dEqv_use h
    exact ⟨p, q, r1.dp e1, r2.dp e2, s1, s2, k.rep t (.bl _)⟩
  · cases e
def dIntB (f : Int → Int → Bool) : D → D → Option (Bool × D)
  | .int i, .int j => some (false, .bl (f i j))
  | _, _ => none
theorem ok_intB {f : Int → Int → Bool} : OpOk G (op2 (dIntB f)) (r2 (rI0 fun i j => .bl (f i j))) := opOk2 fun {Z F M ρ σ H x y v w b d Q} t r1 r2 e k => by
  unfold dIntB at e
  split at e
  · cases e
    exact ⟨_, _, r1.int, r2.int, k.rep t (.bl _)⟩
  · cases e
abbrev dLt := dIntB fun i j => decide (i < j)
abbrev dLe := dIntB fun i j => decide (i ≤ j)
abbrev dGt := dIntB fun i j => decide (j < i)
abbrev dGe := dIntB fun i j => decide (j ≤ i)
/-- is None; is True, is False -/
def isNon : D → Bool
  | .non => true
  | _ => false
/-- is True, is False -/
def isBlD : D → Bool → Bool
  | .bl a, b => decide (a = b)
  | _, _ => false
def dIs : D → D → Option (Bool × D)
  | x, .non => some (false, .bl (isNon x))
  | x, .bl b => some (false, .bl (isBlD x b))
  | _, _ => none
def dIsNot : D → D → Option (Bool × D)
  | x, .non => some (false, .bl (!isNon x))
  | x, .bl b => some (false, .bl (!isBlD x b))
  | _, _ => none
def rIsBl : R2 := fun x y H Q => ∃ b : Bool, y = .bl b ∧ Q (.bl (decide (x = .bl b))) H
def rIsNotBl : R2 := fun x y H Q => ∃ b : Bool, y = .bl b ∧ Q (.bl (!decide (x = .bl b))) H
theorem neB {v u : Value} {Q : Value → Shared → Prop} {s : Shared} (ne : v ≠ u) (h : Q (.bool false) s) : Q (.bool (v == u)) s := by
  rw [beq_eq_false_iff_ne.mpr ne]
  exact h
theorem neNB {v u : Value} {Q : Value → Shared → Prop} {s : Shared} (ne : v ≠ u) (h : Q (.bool true) s) : Q (.bool (!(v == u))) s := by
  rw [beq_eq_false_iff_ne.mpr ne]
  exact h
theorem is_boolV {M : Model} {A : Around} {E : Value → Shared → Prop} {s : Shared} {Q : Value → Shared → Prop} {x : V} {v : Value} {b : Bool} (r : RelV x v) (h : Q (.bool (decide (x = .bl b))) s) : wpAny M A (compareOp .Is v (.bool b)) Q E s := by
  cases x with
  | bl a =>
    cases (show v = Value.bool a from r)
    by_cases e : a = b
    · subst e
      exact wpAny_is_self rfl (by simpa using h)
    · exact wpAny_is_other rfl (fun z => e (Value.bool.inj z)) (by simpa [e] using h)
  | non => cases (show v = Value.none from r); exact wpAny_pure (neB (fun z => nomatch z) (by simpa using h))
  | int i => obtain ⟨t, rfl⟩ := r; exact wpAny_pure (neB (fun z => nomatch z) (by simpa using h))
  | str i => obtain ⟨t, rfl⟩ := r; exact wpAny_pure (neB (fun z => nomatch z) (by simpa using h))
  | byt i => obtain ⟨t, rfl⟩ := r; exact wpAny_pure (neB (fun z => nomatch z) (by simpa using h))
  | flt i => obtain ⟨t, rfl⟩ := r; exact wpAny_pure (neB (fun z => nomatch z) (by simpa using h))
  | ref a => cases (show v = Value.ref a from r); exact wpAny_pure (neB (fun z => nomatch z) (by simpa using h))
  | ty n => cases (show v = Value.type n from r); exact wpAny_pure (neB (fun z => nomatch z) (by simpa using h))
theorem isnot_boolV {M : Model} {A : Around} {E : Value → Shared → Prop} {s : Shared} {Q : Value → Shared → Prop} {x : V} {v : Value} {b : Bool} (r : RelV x v) (h : Q (.bool (!decide (x = .bl b))) s) : wpAny M A (compareOp .IsNot v (.bool b)) Q E s := by
  cases x with
  | bl a =>
    cases (show v = Value.bool a from r)
    by_cases e : a = b
    · subst e
      exact wpAny_isNot_self rfl (by simpa using h)
    · exact wpAny_isNot_other rfl (fun z => e (Value.bool.inj z)) (by simpa [e] using h)
  | non => cases (show v = Value.none from r); exact wpAny_pure (neNB (fun z => nomatch z) (by simpa using h))
  | int i => obtain ⟨t, rfl⟩ := r; exact wpAny_pure (neNB (fun z => nomatch z) (by simpa using h))
  | str i => obtain ⟨t, rfl⟩ := r; exact wpAny_pure (neNB (fun z => nomatch z) (by simpa using h))
  | byt i => obtain ⟨t, rfl⟩ := r; exact wpAny_pure (neNB (fun z => nomatch z) (by simpa using h))
  | flt i => obtain ⟨t, rfl⟩ := r; exact wpAny_pure (neNB (fun z => nomatch z) (by simpa using h))
  | ref a => cases (show v = Value.ref a from r); exact wpAny_pure (neNB (fun z => nomatch z) (by simpa using h))
  | ty n => cases (show v = Value.type n from r); exact wpAny_pure (neNB (fun z => nomatch z) (by simpa using h))
theorem op_isBool {X : Cx} : OpR X (compareOp .Is) rIsBl := by
  intro pins s σ H x y v u Q I rx ry h
  obtain ⟨b, rfl, q⟩ := h
  cases (show u = Value.bool b from ry)
  exact is_boolV rx ⟨.bl _, H, I, rfl, q⟩
theorem op_isNotBool {X : Cx} : OpR X (compareOp .IsNot) rIsNotBl := by
  intro pins s σ H x y v u Q I rx ry h
  obtain ⟨b, rfl, q⟩ := h
  cases (show u = Value.bool b from ry)
  exact isnot_boolV rx ⟨.bl _, H, I, rfl, q⟩
def rIsAll : R2 := fun x y H Q => (y = .non ∧ Q (.bl (decide (x = .non))) H) ∨ rIsBl x y H Q
def rIsNotAll : R2 := fun x y H Q => (y = .non ∧ Q (.bl (!decide (x = .non))) H) ∨ rIsNotBl x y H Q
theorem op_isAll {X : Cx} : OpR X (compareOp .Is) rIsAll := op_isN.or op_isBool
theorem op_isNotAll {X : Cx} : OpR X (compareOp .IsNot) rIsNotAll := op_notN.or op_isNotBool
theorem Ra.isNon {F : AS} {H : Hp} {x : D} {v : V} (r : Ra G F H x v) : decide (v = .non) = Ev.isNon x := by
  rcases r with r | ⟨a, e, c⟩
  · cases r <;> rfl
  · subst e
    cases c <;> rfl
theorem Ra.isBl {F : AS} {H : Hp} {x : D} {v : V} {b : Bool} (r : Ra G F H x v) : decide (v = .bl b) = isBlD x b := by
  rcases r with r | ⟨a, e, c⟩
  · cases r with
    | bl a => show _ = decide (a = b); simp
    | _ => rfl
  · subst e
    cases c <;> rfl
theorem ok_is : OpOk G (op2 dIs) (r2 rIsAll) := opOk2 fun {Z F M ρ σ H x y v w b d Q} t r1 r2 e k => by
  unfold dIs at e
  split at e
  · cases e
    refine .inl ⟨r2.non, ?_⟩
    rw [r1.isNon]
    exact k.rep t (.bl _)
  · cases e
    refine .inr ⟨_, r2.bl, ?_⟩
    rw [r1.isBl]
    exact k.rep t (.bl _)
  · cases e
theorem ok_isNot : OpOk G (op2 dIsNot) (r2 rIsNotAll) := opOk2 fun {Z F M ρ σ H x y v w b d Q} t r1 r2 e k => by
  unfold dIsNot at e
  split at e
  · cases e
    refine .inl ⟨r2.non, ?_⟩
    rw [r1.isNon]
    exact k.rep t (.bl _)
  · cases e
    refine .inr ⟨_, r2.bl, ?_⟩
    rw [r1.isBl]
    exact k.rep t (.bl _)
  · cases e
end
end Ev

namespace Ev
open PySem PySem.Spec PyProof.Rows L2

/-! ## dicts -/
/-- the key that data is -/
def keyOf : D → Option Key
  | .int i => some (.inl i)
  | .str s => some (.inr s)
  | _ => none
def keysOf : List D → Option (List Key)
  | [] => some []
  | d :: ds => match keyOf d with
    | some k => match keysOf ds with
      | some ks => some (k :: ks)
      | none => none
    | none => none
def tkeyOf : D → Option (List Key)
  | .tup xs => keysOf xs
  | _ => none
section
variable {G : Ge} {Z : Zn} {F M : AS} {ρ : En} {σ : L2.St} {H : Hp}
theorem Ra.key {d : D} {v : V} {k : Key} (r : Ra G F H d v) (e : keyOf d = some k) : v = kV k := by
  cases d with
  | int i => cases e; exact r.int
  | str i => cases e; exact r.str
  | _ => cases e
theorem Reps.keys : ∀ {ds : List D} {vs : List V} {ks : List Key}, Reps G F H ds vs → keysOf ds = some ks → vs = ks.map kV
  | [], _, _, r, e => by cases r; cases e; rfl
  | d :: ds, _, ks, r, e => by
    cases r with
    | cons h t =>
      unfold keysOf at e
      split at e
      · rename_i k ek
        split at e
        · rename_i ks' eks
          cases e
          rw [Reps.keys t eks, Ra.key (.inl h) ek]
          rfl
        · cases e
      · cases e
/-- a tuple as a key: where it stands -/
theorem Ra.tkey {d : D} {v : V} {k : List Key} (r : Ra G F H d v) (e : tkeyOf d = some k) : ∃ b, v = .ref b ∧ H b = some (.tup (k.map kV)) := by
  cases d with
  | tup xs =>
    cases r.tup with
    | tup f h q => exact ⟨_, rfl, by rw [h, Reps.keys q e]⟩
  | _ => cases e
end

/-! ### pairs -/
def Prs (G : Ge) (F : AS) (H : Hp) {κ : Type} : List (κ × D) → List (κ × V) → Prop := Paired fun p q => p.1 = q.1 ∧ Rep G F H p.2 q.2
section
variable {G : Ge} {Z : Zn} {F M : AS} {ρ : En} {σ : L2.St} {H : Hp} {κ : Type} [DecidableEq κ]
theorem Prs.of_zip : ∀ {ks : List κ} {ds : List D} {vs : List V}, ks.length = ds.length → Reps G F H ds vs → Prs G F H (ks.zip ds) (ks.zip vs)
  | [], [], _, _, r => by cases r; exact .nil
  | k :: ks, d :: ds, _, l, r => by
    cases r with
    | cons h t => exact .cons ⟨rfl, h⟩ (Prs.of_zip (by simpa using l) t)
theorem Prs.to_zip : ∀ {kvs : List (κ × D)} {ws : List (κ × V)}, Prs G F H kvs ws → ∃ (ks : List κ) (ds : List D) (vs : List V), kvs = ks.zip ds ∧ ws = ks.zip vs ∧ ks.length = ds.length ∧ Reps G F H ds vs
  | _, _, .nil => ⟨[], [], [], rfl, rfl, rfl, .nil⟩
  | (k, d) :: _, (k', v) :: _, .cons ⟨e, h⟩ t => by
    obtain ⟨ks, ds, vs, rfl, rfl, l, r⟩ := Prs.to_zip t
    cases (show k = k' from e)
    exact ⟨k :: ks, d :: ds, v :: vs, rfl, rfl, by simp [l], .cons h r⟩
theorem Prs.length {kvs : List (κ × D)} {ws : List (κ × V)} (r : Prs G F H kvs ws) : kvs.length = ws.length := Paired.length r
def lk (kvs : List (κ × D)) (k : κ) : Option D := (kvs.find? fun kv => decide (kv.1 = k)).map (·.2)
def pk (kvs : List (κ × D)) (k : κ) (d : D) : List (κ × D) :=
  if (kvs.any fun kv => decide (kv.1 = k)) = true then kvs.map (fun kv => if kv.1 = k then (kv.1, d) else kv) else kvs ++ [(k, d)]
theorem Prs.look (k : κ) : ∀ {kvs : List (κ × D)} {ws : List (κ × V)}, Prs G F H kvs ws → (lk kvs k = none ∧ valV ws k = none) ∨ ∃ d v, lk kvs k = some d ∧ valV ws k = some v ∧ Rep G F H d v
  | _, _, .nil => .inl ⟨rfl, rfl⟩
  | (j, d) :: r, (j', v) :: q, .cons ⟨e, h⟩ t => by
    cases (show j = j' from e)
    unfold lk valV
    simp only [List.find?_cons]
    by_cases z : j = k
    · simp only [z, decide_true]
      exact .inr ⟨d, v, rfl, rfl, h⟩
    · simp only [z, decide_false]
      exact Prs.look k t
theorem Prs.any (k : κ) : ∀ {kvs : List (κ × D)} {ws : List (κ × V)}, Prs G F H kvs ws → (kvs.any fun kv => decide (kv.1 = k)) = ws.any fun kv => decide (kv.1 = k)
  | _, _, .nil => rfl
  | (j, d) :: r, (j', v) :: q, .cons ⟨e, h⟩ t => by
    cases (show j = j' from e)
    simp only [List.any_cons, Prs.any k t]
theorem Prs.repl (k : κ) {d : D} {v : V} (hr : Rep G F H d v) : ∀ {kvs : List (κ × D)} {ws : List (κ × V)}, Prs G F H kvs ws → Prs G F H (kvs.map fun kv => if kv.1 = k then (kv.1, d) else kv) (ws.map fun kv => if kv.1 = k then (kv.1, v) else kv)
  | _, _, .nil => .nil
  | (j, d') :: r, (j', v') :: q, .cons ⟨e, h⟩ t => by
    cases (show j = j' from e)
    rw [List.map_cons, List.map_cons]
    refine .cons ?_ (Prs.repl k hr t)
    by_cases z : j = k
    · rw [if_pos z, if_pos z]
      exact ⟨rfl, hr⟩
    · rw [if_neg z, if_neg z]
      exact ⟨rfl, h⟩
theorem Paired.app {α β : Type} {P : α → β → Prop} : ∀ {l₁ l₂ : List α} {m₁ m₂ : List β}, Paired P l₁ m₁ → Paired P l₂ m₂ → Paired P (l₁ ++ l₂) (m₁ ++ m₂)
  | _, _, _, _, .nil, s => s
  | _, _, _, _, .cons h t, s => .cons h (Paired.app t s)
theorem Prs.put (k : κ) {d : D} {v : V} (hr : Rep G F H d v) {kvs : List (κ × D)} {ws : List (κ × V)} (r : Prs G F H kvs ws) : Prs G F H (pk kvs k d) (putK ws k v) := by
  unfold pk putK
  rw [r.any k]
  split
  · exact r.repl k hr
  · exact Paired.app r (.cons ⟨rfl, hr⟩ .nil)
end
section
variable {G : Ge} {Z : Zn} {F M : AS} {ρ : En} {σ : L2.St} {H : Hp}
theorem Con.mkK {kvs : List (Key × D)} {ws : List (Key × V)} {a : Addr} (h : H a = some (.dK ws)) (r : Prs G F H kvs ws) : Con G F H (.dK kvs) a := by
  obtain ⟨ks, ds, vs, e1, e2, l, q⟩ := r.to_zip
  exact .dK h e1 e2 l q
theorem Con.mkT {kvs : List (List Key × D)} {ws : List (List Key × V)} {a : Addr} (h : H a = some (.dT ws)) (r : Prs G F H kvs ws) : Con G F H (.dT kvs) a := by
  obtain ⟨ks, ds, vs, e1, e2, l, q⟩ := r.to_zip
  exact .dT h e1 e2 l q
theorem Con.atK {kvs : List (Key × D)} {a : Addr} (c : Con G F H (.dK kvs) a) : ∃ ws, H a = some (.dK ws) ∧ Prs G F H kvs ws := by
  cases c with
  | dK h e1 e2 l r => subst e1 e2; exact ⟨_, h, .of_zip l r⟩
theorem Con.atT {kvs : List (List Key × D)} {a : Addr} (c : Con G F H (.dT kvs) a) : ∃ ws, H a = some (.dT ws) ∧ Prs G F H kvs ws := by
  cases c with
  | dT h e1 e2 l r => subst e1 e2; exact ⟨_, h, .of_zip l r⟩
theorem Ra.atK {kvs : List (Key × D)} {v : V} (r : Ra G F H (.dK kvs) v) : ∃ a ws, v = .ref a ∧ H a = some (.dK ws) ∧ Prs G F H kvs ws := by
  rcases r with r | ⟨a, e, c⟩
  · cases r with
    | dK f h e1 e2 l r => subst e1 e2; exact ⟨_, _, rfl, h, .of_zip l r⟩
  · obtain ⟨ws, h, r⟩ := c.atK
    exact ⟨a, ws, e, h, r⟩
theorem Ra.atT {kvs : List (List Key × D)} {v : V} (r : Ra G F H (.dT kvs) v) : ∃ a ws, v = .ref a ∧ H a = some (.dT ws) ∧ Prs G F H kvs ws := by
  rcases r with r | ⟨a, e, c⟩
  · cases r with
    | dT f h e1 e2 l r => subst e1 e2; exact ⟨_, _, rfl, h, .of_zip l r⟩
  · obtain ⟨ws, h, r⟩ := c.atT
    exact ⟨a, ws, e, h, r⟩
/-- what a dict has at a key -/
def dLook (x y : D) : Option (Option D) := match x with
  | .dK kvs => match keyOf y with
    | some k => some (lk kvs k)
    | none => none
  | .dT kvs => match tkeyOf y with
    | some k => some (lk kvs k)
    | none => none
  | _ => none
theorem dLook_use {x y : D} {v w : V} {o : Option D} (r1 : Ra G F H x v) (r2 : Ra G F H y w) (e : dLook x y = some o) : ∃ a u, v = .ref a ∧ DGet H a w u ∧ ((o = none ∧ u = none) ∨ ∃ d z, o = some d ∧ u = some z ∧ Rep G F H d z) := by
  unfold dLook at e
  split at e
  · split at e
    · rename_i k hk
      cases e
      obtain ⟨a, ws, rfl, h, p⟩ := r1.atK
      rw [r2.key hk]
      exact ⟨a, _, rfl, DGet.k h, p.look k⟩
    · cases e
  · split at e
    · rename_i k hk
      cases e
      obtain ⟨a, ws, rfl, h, p⟩ := r1.atT
      obtain ⟨b, rfl, hb⟩ := r2.tkey hk
      exact ⟨a, _, rfl, DGet.t h hb, p.look k⟩
    · cases e
  · cases e
end

/-! ## subscripts -/
def dIx : D → D → Option (Bool × D)
  | .lst xs, .int i => match atI xs i with
    | some d => some (false, d)
    | none => none
  | .tup xs, .int i => match atI xs i with
    | some d => some (false, d)
    | none => none
  | .ktp xs, .int i => match atI xs i with
    | some d => some (false, d)
    | none => none
  | .str z, .int i => if z.length ≤ sizeLine then match atI z.cps.toList i with
    | some c => some (false, .str ⟨#[c]⟩)
    | none => none else none
  | x, y => match dLook x y with
    | some (some d) => some (false, d)
    | _ => none
def rDGet : R2 := fun x y H Q => ∃ a v, x = .ref a ∧ DGet H a y (some v) ∧ Q v H
def rIxAll (K : PySem.W.Frag) : R2 := fun x y H Q => rIxL K x y H Q ∨ rIxT K x y H Q ∨ rIxS x y H Q ∨ rDGet x y H Q
theorem ix_dict {X : Cx} (hu : X.A.units + 1 < cLine) : IxR X rDGet := by
  intro value slice pins s σ H x y v u Q I rx ry h hs
  obtain ⟨a, z, rfl, g, q⟩ := h
  cases rx
  exact tail_any (dict_typeIs I g) PySem.F.slot_dict_getitem.lookup (d_getItem hu I g ry fun w' s' I' rw' => ⟨z, H, I', rw', q⟩) hs
theorem ix_all {X : Cx} (hu : X.A.units + 1 < cLine) : IxR X (rIxAll X.K) := ix_list.or (ix_tup.or (ix_str.or (ix_dict hu)))
section
variable {G : Ge} {Z : Zn} {F M : AS} {ρ : En} {σ : L2.St} {H : Hp}
theorem Reps.atI {xs : List D} {vs : List V} {i : Int} {d : D} (r : Reps G F H xs vs) (e : L2.atI xs i = some d) : ∃ v, L2.atI vs i = some v ∧ Rep G F H d v := by
  unfold L2.atI at e ⊢
  obtain ⟨j, e1, e2⟩ := Option.bind_eq_some_iff.mp e
  obtain ⟨v, h1, h2⟩ := r.get e2
  rw [← r.length, e1]
  exact ⟨v, h1, h2⟩
theorem ok_ix : OpOk G (op2 dIx) (r2 (rIxAll G.K)) := opOk2 fun {Z F M ρ σ H x y v w b d Q} t r1 r2 e k => by
  unfold dIx at e
  split at e
  · split at e
    · rename_i d' he
      cases e
      obtain ⟨a, vs, e1, s1, rs⟩ := r1.lst
      obtain ⟨z, h1, h2⟩ := rs.atI he
      exact .inl ⟨a, vs, _, z, e1, r2.int, s1, h1, k.rep t h2⟩
    · cases e
  · split at e
    · rename_i d' he
      cases e
      obtain ⟨a, vs, e1, s1, rs⟩ := r1.tup.seqT
      obtain ⟨z, h1, h2⟩ := rs.atI he
      exact .inr (.inl ⟨a, vs, _, z, e1, r2.int, s1, h1, k.rep t h2⟩)
    · cases e
  · split at e
    · rename_i d' he
      cases e
      obtain ⟨a, vs, e1, s1, rs⟩ := r1.ktp.seqK
      obtain ⟨z, h1, h2⟩ := rs.atI he
      exact .inr (.inl ⟨a, vs, _, z, e1, r2.int, s1, h1, k.rep t h2⟩)
    · cases e
  · split at e
    · rename_i hz
      split at e
      · rename_i c he
        cases e
        exact .inr (.inr (.inl ⟨_, _, c, r1.str, r2.int, hz, he, k.rep t (.str _)⟩))
      · cases e
    · cases e
  · split at e
    · rename_i d' he
      cases e
      obtain ⟨a, u, rfl, g, hu⟩ := dLook_use r1 r2 he
      rcases hu with ⟨z, _⟩ | ⟨d2, z, e1, e2, rp⟩
      · cases z
      · cases e1
        subst e2
        exact .inr (.inr (.inr ⟨a, z, rfl, g, k.rep t rp⟩))
    · cases e

/-! ## in -/
def dIn (x y : D) : Option Bool := match y with
  | .lst ys => match toPy x with
    | some p => match toPys ys with
      | some ps => if SeqAt.shaped p && SeqAt.shaped (.list ps) then some (ps.any fun z => PyData.eqv z p) else none
      | none => none
    | none => none
  | .tup ys => dInFlat x ys
  | .ktp ys => dInFlat x ys
  | y => match dLook y x with
    | some (some _) => some true
    | some none => some false
    | none => none
where
  flat : D → Option V
    | .non => some .non
    | .bl b => some (.bl b)
    | .int i => some (.int i)
    | .str s => some (.str s)
    | _ => none
  flats : List D → Option (List V)
    | [] => some []
    | d :: ds => match flat d with
      | some v => match flats ds with
        | some vs => some (v :: vs)
        | none => none
      | none => none
  dInFlat (x : D) (ys : List D) : Option Bool := match flat x with
    | some v => match flats ys with
      | some vs => if flatV v && vs.all flatV then some (inV v vs) else none
      | none => none
    | none => none
def dInV (x y : D) : Option (Bool × D) := match dIn x y with
  | some b => some (false, .bl b)
  | none => none
def dNotInV (x y : D) : Option (Bool × D) := match dIn x y with
  | some b => some (false, .bl (!b))
  | none => none
def rDIn (neg : Bool) : R2 := fun y x H Q => ∃ a o, x = .ref a ∧ DGet H a y o ∧ Q (.bl (if neg then !o.isSome else o.isSome)) H
theorem op_dIn {X : Cx} (hu : X.A.units + 1 < cLine) : OpR X (compareOp .In) (rDIn false) := by
  intro pins s σ H y x iv u Q I ry rx h
  obtain ⟨a, o, rfl, g, q⟩ := h
  obtain rfl : u = Value.ref a := rx
  exact d_in hu I g ry fun s3 I3 => ⟨.bl o.isSome, H, I3, rfl, q⟩
theorem op_dNotIn {X : Cx} (hu : X.A.units + 1 < cLine) : OpR X (compareOp .NotIn) (rDIn true) := by
  intro pins s σ H y x iv u Q I ry rx h
  obtain ⟨a, o, rfl, g, q⟩ := h
  obtain rfl : u = Value.ref a := rx
  exact d_notIn hu I g ry fun s3 I3 => ⟨.bl (!o.isSome), H, I3, rfl, q⟩
def rInAll (K : PySem.W.Frag) : R2 := fun x y H Q => rInD K x y H Q ∨ rIn K false x y H Q ∨ rDIn false x y H Q
def rNotInAll (K : PySem.W.Frag) : R2 := fun x y H Q => rNotInD K x y H Q ∨ rIn K true x y H Q ∨ rDIn true x y H Q
theorem op_inAll {X : Cx} (hu : X.A.units + 65 < cLine) : OpR X (compareOp .In) (rInAll X.K) := (op_inD hu).or (op_in_seq.or (op_dIn (by omega)))
theorem op_notInAll {X : Cx} (hu : X.A.units + 65 < cLine) : OpR X (compareOp .NotIn) (rNotInAll X.K) := (op_notInD hu).or (op_notIn_seq.or (op_dNotIn (by omega)))
theorem Ra.flat {x : D} {v z : V} (r : Ra G F H x v) (e : dIn.flat x = some z) : v = z := by
  cases x with
  | non => cases e; exact r.non
  | bl b => cases e; exact r.bl
  | int i => cases e; exact r.int
  | str i => cases e; exact r.str
  | _ => cases e
theorem Reps.flats : ∀ {xs : List D} {vs zs : List V}, Reps G F H xs vs → dIn.flats xs = some zs → vs = zs
  | [], _, _, r, e => by cases r; cases e; rfl
  | x :: xs, _, _, r, e => by
    cases r with
    | cons h t =>
      unfold dIn.flats at e
      split at e
      · rename_i v ev
        split at e
        · rename_i vs' evs
          cases e
          rw [Ra.flat (.inl h) ev, Reps.flats t evs]
        · cases e
      · cases e
theorem dIn_use {x y : D} {v w : V} {b : Bool} (r1 : Ra G F H x v) (r2 : Ra G F H y w) (e : dIn x y = some b) :
    (∃ d ds, Dp G.K H v d ∧ Dp G.K H w (.list ds) ∧ SeqAt.shaped d = true ∧ SeqAt.shaped (.list ds) = true ∧ b = ds.any fun z => PyData.eqv z d) ∨
      (∃ p xs, w = .ref p ∧ (SqL G.K H p xs ∨ SqT G.K H p xs) ∧ flatV v = true ∧ xs.all flatV = true ∧ b = inV v xs) ∨ ∃ a o, w = .ref a ∧ DGet H a v o ∧ b = o.isSome := by
  have fl : ∀ {ys : List D} {a : Addr} {vs : List V}, w = .ref a → SqT G.K H a vs → Reps G F H ys vs → dIn.dInFlat x ys = some b → ∃ p xs, w = .ref p ∧ (SqL G.K H p xs ∨ SqT G.K H p xs) ∧ flatV v = true ∧ xs.all flatV = true ∧ b = inV v xs := by
    intro ys a vs ew sq rs e
    unfold dIn.dInFlat at e
    split at e
    · rename_i z ez
      split at e
      · rename_i zs ezs
        split at e
        · rename_i hf
          cases e
          have h1 := r1.flat ez
          have h2 := rs.flats ezs
          subst h1 h2
          simp only [Bool.and_eq_true] at hf
          exact ⟨a, vs, ew, .inr sq, hf.1, hf.2, rfl⟩
        · cases e
      · cases e
    · cases e
  unfold dIn at e
  split at e
  · split at e
    · rename_i p hp
      split at e
      · rename_i ps hps
        split at e
        · rename_i hs
          cases e
          simp only [Bool.and_eq_true] at hs
          refine .inl ⟨p, ps, r1.dp hp, r2.dp ?_, hs.1, hs.2, rfl⟩
          unfold toPy
          rw [hps]; rfl
        · cases e
      · cases e
    · cases e
  · obtain ⟨a, vs, e1, s1, rs⟩ := r2.tup.seqT
    exact .inr (.inl (fl e1 s1 rs e))
  · obtain ⟨a, vs, e1, s1, rs⟩ := r2.ktp.seqK
    exact .inr (.inl (fl e1 s1 rs e))
  · split at e
    · rename_i d' he
      cases e
      obtain ⟨a, u, e1, g, hu⟩ := dLook_use r2 r1 he
      rcases hu with ⟨z, _⟩ | ⟨d2, z, e1', e2, rp⟩
      · cases z
      · subst e2
        exact .inr (.inr ⟨a, _, e1, g, rfl⟩)
    · rename_i he
      cases e
      obtain ⟨a, u, e1, g, hu⟩ := dLook_use r2 r1 he
      rcases hu with ⟨_, z⟩ | ⟨d2, z, e1', e2, rp⟩
      · subst z
        exact .inr (.inr ⟨a, _, e1, g, rfl⟩)
      · cases e1'
    · cases e
theorem ok_in : OpOk G (op2 dInV) (r2 (rInAll G.K)) := opOk2 fun {Z F M ρ σ H x y v w b d Q} t r1 r2 e k => by
  unfold dInV at e
  split at e
  · rename_i c h
    cases e
    rcases dIn_use r1 r2 h with ⟨d, ds, h1, h2, h3, h4, rfl⟩ | ⟨p, xs, h1, h2, h3, h4, rfl⟩ | ⟨a, o, h1, h2, rfl⟩
    · exact .inl ⟨d, ds, h1, h2, h3, h4, k.rep t (.bl _)⟩
    · exact .inr (.inl ⟨p, xs, h1, h2, h3, h4, k.rep t (.bl _)⟩)
    · exact .inr (.inr ⟨a, o, h1, h2, k.rep t (.bl _)⟩)
  · cases e
theorem ok_notIn : OpOk G (op2 dNotInV) (r2 (rNotInAll G.K)) := opOk2 fun {Z F M ρ σ H x y v w b d Q} t r1 r2 e k => by
  unfold dNotInV at e
  split at e
  · rename_i c h
    cases e
    rcases dIn_use r1 r2 h with ⟨d, ds, h1, h2, h3, h4, rfl⟩ | ⟨p, xs, h1, h2, h3, h4, rfl⟩ | ⟨a, o, h1, h2, rfl⟩
    · exact .inl ⟨d, ds, h1, h2, h3, h4, k.rep t (.bl _)⟩
    · exact .inr (.inl ⟨p, xs, h1, h2, h3, h4, k.rep t (.bl _)⟩)
    · exact .inr (.inr ⟨a, o, h1, h2, k.rep t (.bl _)⟩)
  · cases e
end
end Ev

namespace Ev
open PySem PySem.Spec PyProof.Rows L2

/-! ## slices -/
def cutD (xs : List D) (lo hi : Option Int) : List D := (xs.drop (HT.sIx xs.length 0 lo)).take (HT.sIx xs.length xs.length hi - HT.sIx xs.length 0 lo)
def wholeCut (n : Nat) (lo hi : Option Int) : Bool := decide (HT.sIx n 0 lo = 0) && decide (HT.sIx n n hi = n)
def dSl (x : D) (lo hi : Option Int) : Option (Bool × D) := match x with
  | .lst xs => some (true, .lst (cutD xs lo hi))
  | .tup xs => some (false, .tup (cutD xs lo hi))
  | .ktp xs => if wholeCut xs.length lo hi then some (false, .ktp xs) else some (false, .tup (cutD xs lo hi))
  | .str z => if z.length ≤ sizeLine then some (false, .str (cutS z lo hi)) else none
  | _ => none
def rSlAll (K : PySem.W.Frag) : V → Option Int → Option Int → Hp → VK → Prop := fun x lo hi H Q => rSlL K x lo hi H Q ∨ rSlA K x lo hi H Q ∨ rSlS x lo hi H Q
theorem sl_all {X : Cx} : SlR X (rSlAll X.K) := sl_list.or (sl_tupA.or sl_str)
section
variable {G : Ge} {Z : Zn} {F M : AS} {ρ : En} {σ : L2.St} {H : Hp}
theorem Reps.cut {xs : List D} {vs : List V} (r : Reps G F H xs vs) (lo hi : Option Int) : Reps G F H (cutD xs lo hi) (cutV vs lo hi) := by
  unfold cutD cutV
  rw [r.length]
  exact (r.drop _).take _
theorem cut_whole {xs : List D} {lo hi : Option Int} (h1 : HT.sIx xs.length 0 lo = 0) (h2 : HT.sIx xs.length xs.length hi = xs.length) : cutD xs lo hi = xs := by
  unfold cutD
  rw [h1, h2]
  simp
theorem ok_sl {x d : D} {v : V} {lo hi : Option Int} {b : Bool} {Q : VK} (t : St G Z F M ρ σ H) (r : Ra G F H x v) (e : dSl x lo hi = some (b, d)) (k : Kont G Z F M ρ σ H b d Q) : rSlAll G.K v lo hi H Q := by
  unfold dSl at e
  split at e
  · cases e
    obtain ⟨a, vs, e1, s1, rs⟩ := r.lst
    exact .inl ⟨a, vs, e1, s1, fun p hp => k.newL t hp (rs.cut lo hi)⟩
  · cases e
    have r := r.tup
    obtain ⟨a, vs, e1, s1, rs⟩ := r.seqT
    refine .inr (.inl ⟨a, vs, e1, s1, fun hw => ?_, fun hw p hp => k.newT t hp (rs.cut lo hi)⟩)
    rw [← rs.length] at hw
    rw [cut_whole hw.1 hw.2] at k
    rw [e1] at r
    exact k.rep t r
  · have r := r.ktp
    obtain ⟨a, vs, e1, s1, rs⟩ := r.seqK
    split at e
    · rename_i hw
      cases e
      unfold wholeCut at hw
      simp only [Bool.and_eq_true, decide_eq_true_eq] at hw
      refine .inr (.inl ⟨a, vs, e1, s1, fun _ => ?_, fun h => absurd (by rw [← rs.length]; exact hw) h⟩)
      rw [e1] at r
      exact k.rep t r
    · rename_i hw
      cases e
      unfold wholeCut at hw
      simp only [Bool.and_eq_true, decide_eq_true_eq] at hw
      exact .inr (.inl ⟨a, vs, e1, s1, fun h => absurd (by rw [← rs.length] at h; exact h) hw, fun _ p hp => k.newT t hp (rs.cut lo hi)⟩)
  · split at e
    · rename_i hz
      cases e
      exact .inr (.inr ⟨_, r.str, hz, k.rep t (.str _)⟩)
    · cases e
  · cases e
end
def opSl0 : List D → Option (Bool × D) := fun ds => match ds with
  | [x] => dSl x none none
  | _ => none
def opSl1 : List D → Option (Bool × D) := fun ds => match ds with
  | [x, .int i] => dSl x (some i) none
  | _ => none
def opSl2 : List D → Option (Bool × D) := fun ds => match ds with
  | [x, .int j] => dSl x none (some j)
  | _ => none
def opSl3 : List D → Option (Bool × D) := fun ds => match ds with
  | [x, .int i, .int j] => dSl x (some i) (some j)
  | _ => none
section
variable {X : Cx} {G : Ge} {Z : Zn} {E : XK} {e a b : Expr} {f g h : En → R Opd} {pos p2 : Pos}
theorem Ras.int1 {F : AS} {H : Hp} {x y : D} {vs : List V} (r : Ras G F H [x, y] vs) : ∃ v w, vs = [v, w] ∧ Ra G F H x v ∧ Ra G F H y w := by
  cases r with
  | cons h1 r =>
    cases r with
    | cons h2 r =>
      cases r
      exact ⟨_, _, rfl, h1, h2⟩
theorem je_sl0 (hK : X.K = G.K) (he : PE X e (tE G Z E f)) : PE X (.Subscript e (.Slice none none none p2) pos) (tE G Z E (sOp opSl0 [f])) := by
  refine (pe_slice sl_all he po_none po_none).imp fun σ H Q q => ?_
  have ok : OpOk G opSl0 fun vs H Q => ∃ x, vs = [x] ∧ rSlAll X.K x none none H Q := by
    intro Z F M ρ σ H ds vs b d Q t ra e k
    unfold opSl0 at e
    split at e
    · cases ra with
      | cons h1 r =>
        cases r
        exact ⟨_, rfl, by rw [hK]; exact ok_sl t h1 e k⟩
    · cases e
  exact tE_mono (tA1 (sOp_use ok q)) fun x H1 ⟨x', e', q'⟩ => by
    cases e'
    exact q'
theorem je_sl1 (hK : X.K = G.K) (he : PE X e (tE G Z E f)) (ha : PE X a (tE G Z E g)) : PE X (.Subscript e (.Slice (some a) none none p2) pos) (tE G Z E (sOp opSl1 [f, g])) := by
  refine (pe_slice sl_all he (po_some ha) po_none).imp fun σ H Q q => ?_
  have ok : OpOk G opSl1 fun vs H Q => ∃ x i, vs = [x, .int i] ∧ rSlAll X.K x (some i) none H Q := by
    intro Z F M ρ σ H ds vs b d Q t ra e k
    unfold opSl1 at e
    split at e
    · obtain ⟨v, w, rfl, h1, h2⟩ := Ras.int1 ra
      exact ⟨v, _, by rw [h2.int], by rw [hK]; exact ok_sl t h1 e k⟩
    · cases e
  exact tE_mono (tA2 (sOp_use ok q)) fun x H1 q1 => tE_mono q1 fun y H2 ⟨x', i, e', q'⟩ => by
    cases e'
    exact ⟨i, rfl, q'⟩
theorem je_sl2 (hK : X.K = G.K) (he : PE X e (tE G Z E f)) (ha : PE X a (tE G Z E g)) : PE X (.Subscript e (.Slice none (some a) none p2) pos) (tE G Z E (sOp opSl2 [f, g])) := by
  refine (pe_slice sl_all he po_none (po_some ha)).imp fun σ H Q q => ?_
  have ok : OpOk G opSl2 fun vs H Q => ∃ x i, vs = [x, .int i] ∧ rSlAll X.K x none (some i) H Q := by
    intro Z F M ρ σ H ds vs b d Q t ra e k
    unfold opSl2 at e
    split at e
    · obtain ⟨v, w, rfl, h1, h2⟩ := Ras.int1 ra
      exact ⟨v, _, by rw [h2.int], by rw [hK]; exact ok_sl t h1 e k⟩
    · cases e
  exact tE_mono (tA2 (sOp_use ok q)) fun x H1 q1 => tE_mono q1 fun y H2 ⟨x', i, e', q'⟩ => by
    cases e'
    exact ⟨i, rfl, q'⟩
theorem StA.read1 {F M : AS} {ρ : En} {σ : L2.St} {H : Hp} {o : Opd} {v : V} {d : D} (t : StA G Z F M ρ σ [o] [v] H) (e : der o ρ = some d) : Ra G F H d v := by
  obtain ⟨w, r, e0, w0, _⟩ := t.wt
  cases e0
  exact t.st.derRa w0 e
def sInt (f : En → R Opd) : En → R Opd := fun ρ => (f ρ).bind fun o ρ1 => match o with
  | .v b (.int i) => .ok (.v b (.int i)) ρ1
  | _ => .stuck
theorem tE_int {σ : L2.St} {H : Hp} {Q : VK} (q : tE G Z E (sInt f) σ H Q) : tE G Z E f σ H fun y H1 => ∃ i, y = .int i ∧ Q y H1 := by
  obtain ⟨F, M, ρ, t, p⟩ := q
  refine ⟨F, M, ρ, t, (Post.bind p).mono fun o ρ1 F1 M1 H1 s q v a => ?_⟩
  have q := q a.st.dj
  cases o with
  | ali j => exact q.elim
  | v c d =>
    cases d with
    | int i =>
      have ra : Ra G F1 H1 (.int i) v := a.read1 rfl
      exact ⟨i, ra.int, q F1 M1 H1 Stp.refl v a⟩
    | _ => exact q.elim
theorem je_sl3 (hK : X.K = G.K) (he : PE X e (tE G Z E f)) (ha : PE X a (tE G Z E g)) (hb : PE X b (tE G Z E h)) : PE X (.Subscript e (.Slice (some a) (some b) none p2) pos) (tE G Z E (sOp opSl3 [f, sInt g, h])) := by
  refine (pe_slice sl_all he (po_some ha) (po_some hb)).imp fun σ H Q q => ?_
  have ok : OpOk G opSl3 fun vs H Q => ∃ x i j, vs = [x, .int i, .int j] ∧ rSlAll X.K x (some i) (some j) H Q := by
    intro Z F M ρ σ H ds vs b d Q t ra e k
    unfold opSl3 at e
    split at e
    · cases ra with
      | cons h1 ra =>
        obtain ⟨v, w, rfl, h2, h3⟩ := Ras.int1 ra
        exact ⟨_, _, _, by rw [h2.int, h3.int], by rw [hK]; exact ok_sl t h1 e k⟩
    · cases e
  exact tE_mono (tA3 (sOp_use ok q)) fun x H1 q1 => tE_mono (tE_int q1) fun y H2 ⟨i, ei, q2⟩ => ⟨i, ei, tE_mono q2 fun z H3 ⟨x', i', j, e', q'⟩ => by
    cases ei
    cases e'
    exact ⟨j, rfl, q'⟩⟩

/-! ## names, constants -/
def sVar (i : Nat) : En → R Opd := fun ρ => match ρ[i]? with
  | some (some x) => if x.m = .frz then .ok (.v false x.d) ρ else .ok (.ali i) ρ
  | _ => .stuck
theorem je_var {i : Nat} {x : Str} (hN : X.N[i]? = some x) (hv : Vis X.env.scope x) (hd : (x == ("__debug__" : Str)) = false) (hcd : (x == ("__classdict__" : Str)) = false) : PE X (.Name x pos) (tE G Z E (sVar i)) := by
  refine (pe_var hN hv hd hcd).imp fun σ H Q q => ?_
  obtain ⟨F, M, ρ, t, p⟩ := q
  unfold sVar at p
  split at p
  · rename_i y hy
    obtain ⟨v, es, r⟩ := t.slot i y hy
    refine ⟨v, es, ?_⟩
    split at p
    · rename_i hm
      have r' : Rep G F H y.d v := by
        obtain ⟨m, d⟩ := y
        cases (show m = .frz from hm)
        exact r
      exact p F M H Stp.refl v (t.res r')
    · exact p F M H Stp.refl v (t.resAli es)
  · exact p.elim
def sLit (d : D) : En → R Opd := fun ρ => .ok (.v false d) ρ
theorem tE_lit {d : D} {v : V} {σ : L2.St} {H : Hp} {Q : VK} (r : ∀ F H, Rep G F H d v) (q : tE G Z E (sLit d) σ H Q) : Q v H := by
  obtain ⟨F, M, ρ, t, p⟩ := q
  exact p F M H Stp.refl v (t.res (r F H))
theorem je_int {i : Int} {j : Nat} : PE X (.Constant (.int i) j pos) (tE G Z E (sLit (.int i))) := pe_int.imp fun σ H Q q => tE_lit (fun _ _ => .int i) q
theorem je_bl {i : Bool} {j : Nat} : PE X (.Constant (.bool i) j pos) (tE G Z E (sLit (.bl i))) := pe_bl.imp fun σ H Q q => tE_lit (fun _ _ => .bl i) q
theorem je_str {i : Str} {j : Nat} : PE X (.Constant (.str i) j pos) (tE G Z E (sLit (.str i))) := pe_str.imp fun σ H Q q => tE_lit (fun _ _ => .str i) q
theorem je_non {j : Nat} : PE X (.Constant .none j pos) (tE G Z E (sLit .non)) := pe_non.imp fun σ H Q q => tE_lit (fun _ _ => .non) q
/-- a def of the text as a value -/
theorem je_fn {k : Nat} {x : Str} (hg : Gl X x) (hm : X.mg x = some (.ref (G.fn k))) (hd : (x == ("__debug__" : Str)) = false) : PE X (.Name x pos) (tE G Z E (sLit (.fn k))) :=
  (pe_glob hg hm (v := .ref (G.fn k)) rfl hd).imp fun σ H Q q => tE_lit (fun _ _ => .fn k) q
/-- a constant of the written part: an int, a tuple -/
theorem je_gint {i : Int} {x : Str} {t : Tok} (hg : Gl X x) (hm : X.mg x = some (.int i t)) (hd : (x == ("__debug__" : Str)) = false) : PE X (.Name x pos) (tE G Z E (sLit (.int i))) :=
  (pe_glob hg hm (v := .int i) ⟨t, rfl⟩ hd).imp fun σ H Q q => tE_lit (fun _ _ => .int i) q

/-! ## truth -/
def truth : D → Option Bool
  | .non => some false
  | .bl b => some b
  | .int i => some (i != 0)
  | .str s => if s.length ≤ sizeLine then some ((s.length : Int) != 0) else none
  | .lst xs => some (!xs.isEmpty)
  | .tup xs => some (!xs.isEmpty)
  | .ktp xs => some (!xs.isEmpty)
  | .dK kvs => some (!kvs.isEmpty)
  | _ => none
theorem isEmpty_len {α β : Type} {xs : List α} {ys : List β} (h : xs.length = ys.length) : xs.isEmpty = ys.isEmpty := by
  cases xs <;> cases ys <;> simp_all
theorem truth_use {F : AS} {H : Hp} {d : D} {v : V} {b : Bool} (r : Ra G F H d v) (e : truth d = some b) : TruV G.K v H b := by
  cases d with
  | non => cases e; rw [r.non]; rfl
  | bl c => cases e; rw [r.bl]; rfl
  | int c => cases e; rw [r.int]; rfl
  | str s =>
    unfold truth at e
    dsimp only at e
    split at e
    · rename_i h
      cases e
      rw [r.str]
      exact ⟨h, rfl⟩
    · cases e
  | lst xs =>
    cases e
    obtain ⟨a, vs, rfl, s, rs⟩ := r.lst
    exact .inl ⟨vs, s, by rw [isEmpty_len rs.length]⟩
  | tup xs =>
    cases e
    obtain ⟨a, vs, rfl, s, rs⟩ := r.tup.seqT
    exact .inr (.inl ⟨vs, s, by rw [isEmpty_len rs.length]⟩)
  | ktp xs =>
    cases e
    obtain ⟨a, vs, rfl, s, rs⟩ := r.ktp.seqK
    exact .inr (.inl ⟨vs, s, by rw [isEmpty_len rs.length]⟩)
  | dK kvs =>
    cases e
    obtain ⟨a, ws, rfl, h, p⟩ := r.atK
    exact .inr (.inr ⟨ws, h, by rw [isEmpty_len p.length]⟩)
  | _ => cases e
/-! ## tests -/
abbrev STe := En → R Bool
def sTruth (f : En → R Opd) : STe := fun ρ => (f ρ).bind fun o ρ1 => match der o ρ1 with
  | some d => match truth d with
    | some b => .ok b ρ1
    | none => .stuck
  | none => .stuck
def plainTest : Expr → Bool
  | .UnaryOp .Not _ _ => false
  | .BoolOp _ _ _ => false
  | .IfExp _ _ _ _ => false
  | .Compare _ _ _ _ => false
  | _ => true
theorem plainTest_eq {env : Env} (h : plainTest e = true) (whole : Sem Value) : isTrue e env whole = (do let v ← whole; standAt e.pos; holding [v] (truthy v)) := by
  cases e with
  | UnaryOp op x p =>
    cases op with
    | Not => cases h
    | _ => rfl
  | BoolOp _ _ _ => cases h
  | IfExp _ _ _ _ => cases h
  | Compare _ _ _ _ => cases h
  | _ => rfl
theorem tE_use {α : Type} {k : α → En → AS → AS → Hp → Prop} {g : Opd → En → R α} {Q : VK} {σ : L2.St} {H : Hp} {F M : AS} {ρ : En} (t : St G Z F M ρ σ H) (p : Post G E ((f ρ).bind g) F M H k)
    (h : ∀ o ρ1 F1 M1 H1 v, Stp G.T F M H F1 M1 H1 → StA G Z F1 M1 ρ1 σ [o] [v] H1 → Post G E (g o ρ1) F1 M1 H1 k → Q v H1) : tE G Z E f σ H Q :=
  ⟨F, M, ρ, t, (Post.bind p).mono fun o ρ1 F1 M1 H1 s q v a => h o ρ1 F1 M1 H1 v s a (q a.st.dj)⟩
theorem tT_use {α : Type} {k : α → En → AS → AS → Hp → Prop} {c : STe} {g : Bool → En → R α} {Q : Bool → Hp → Prop} {σ : L2.St} {H : Hp} {F M : AS} {ρ : En} (t : St G Z F M ρ σ H) (p : Post G E ((c ρ).bind g) F M H k)
    (h : ∀ b ρ1 F1 M1 H1, Stp G.T F M H F1 M1 H1 → St G Z F1 M1 ρ1 σ H1 → Post G E (g b ρ1) F1 M1 H1 k → Q b H1) : tT G Z E c σ H Q :=
  ⟨F, M, ρ, t, (Post.bind p).mono fun b ρ1 F1 M1 H1 s q a => h b ρ1 F1 M1 H1 s a (q a.dj)⟩
theorem jt_truth (hK : X.K = G.K) (hp : plainTest e = true) (he : PE X e (tE G Z E f)) : PT X e (tT G Z E (sTruth f)) := by
  refine (pt_truth he (plainTest_eq hp)).imp fun σ H Q ⟨F, M, ρ, t, p⟩ => ?_
  refine tE_use t p fun o ρ1 F1 M1 H1 v s a q => ?_
  split at q
  · rename_i d hd
    split at q
    · rename_i b hb
      exact ⟨b, by rw [hK]; exact truth_use (a.read1 hd) hb, q F1 M1 H1 Stp.refl a.st⟩
    · exact q.elim
  · exact q.elim
/-- a comparison as a test -/
theorem jt_cmp {o : CmpOp} {op : List D → Option (Bool × D)} {r : R2} {a b : Expr} (ho : OpR X (compareOp o) r) (ok : OpOk G op (r2 r)) (hb0 : ∀ ds b d, op ds = some (b, d) → ∃ c, d = .bl c) (ha : PE X a (tE G Z E f)) (hb : PE X b (tE G Z E g)) (hm : behindInMarks o b = false) : PT X (.Compare a [o] [b] pos) (tT G Z E (sTruth (sOp op [f, g]))) := by
  refine (pt_cmpR ho ha hb hm).imp fun σ H Q ⟨F, M, ρ, t, p⟩ => ?_
  refine tE_mono (tA2 (Q := fun vs H1 => r2 r vs H1 fun x H' => ∃ k, x = .bl k ∧ Q k H') ?_) fun x H1 h1 => tE_mono h1 fun y H2 h2 => by
    obtain ⟨x', y', e, q⟩ := h2
    cases e
    exact q
  have p' : Post G E ((sArgs [f, g] ρ).bind fun os ρ1 => R.bind (match ders os ρ1 with
    | some ds => match op ds with
      | some (b, d) => .ok (.v b d) ρ1
      | none => .stuck
    | none => .stuck) fun o ρ1 => match der o ρ1 with
      | some d => match truth d with
        | some b => .ok b ρ1
        | none => .stuck
      | none => .stuck) F M H fun b ρ' F' M' H' => St G Z F' M' ρ' σ H' → Q b H' := by
    unfold sTruth sOp at p
    revert p
    generalize sArgs [f, g] ρ = r
    cases r <;> exact fun p => p
  refine tA_use t p' fun os ρ1 F1 M1 H1 vs s a q => ?_
  split at q
  · rename_i ds e1
    split at q
    · rename_i b d e2
      obtain ⟨c, rfl⟩ := hb0 _ _ _ e2
      refine ok a.st (a.read e1) e2 fun F' M' H' v s' a' => ?_
      have hv : v = .bl c := by
        have ra := a'.read1 (o := .v b (.bl c)) rfl
        exact ra.bl
      exact ⟨c, hv, q F' M' H' s' a'.st⟩
    · exact q.elim
  · exact q.elim
def sTNot (c : STe) : STe := fun ρ => (c ρ).bind fun b ρ1 => .ok (!b) ρ1
def sTAnd (c d : STe) : STe := fun ρ => (c ρ).bind fun b ρ1 => if b then d ρ1 else .ok false ρ1
def sTOr (c d : STe) : STe := fun ρ => (c ρ).bind fun b ρ1 => if b then .ok true ρ1 else d ρ1
theorem jt_not {c : STe} (hc : PT X e (tT G Z E c)) : PT X (.UnaryOp .Not e pos) (tT G Z E (sTNot c)) :=
  (pt_not hc).imp fun σ H Q ⟨F, M, ρ, t, p⟩ => tT_use t p fun b ρ1 F1 M1 H1 s a q => q F1 M1 H1 Stp.refl a
theorem _root_.L2.PW.imp {t t' : TT} (h : PW X e t) (i : ∀ σ H Q, t' σ H Q → t σ H Q) : PW X e t' := ⟨fun wh pins s σ H Q I hq => h.run wh pins s σ H Q I (i σ H Q hq)⟩
theorem jw_and1 {c : STe} (hc : PT X e (tT G Z E c)) : PW X (.BoolOp .And [e] pos) (tT G Z E c) := pw_and1 hc
theorem jw_or1 {c : STe} (hc : PT X e (tT G Z E c)) : PW X (.BoolOp .Or [e] pos) (tT G Z E c) := pw_or1 hc
theorem jw_and {c d : STe} {r : List Expr} (hc : PT X e (tT G Z E c)) (hd : PW X (.BoolOp .And (a :: r) pos) (tT G Z E d)) : PW X (.BoolOp .And (e :: a :: r) pos) (tT G Z E (sTAnd c d)) :=
  (pw_and hc hd).imp fun σ H Q ⟨F, M, ρ, t, p⟩ => tT_use t p fun b ρ1 F1 M1 H1 s st q => by
    cases b with
    | true => exact ⟨F1, M1, ρ1, st, q⟩
    | false => exact q F1 M1 H1 Stp.refl st
theorem jw_or {c d : STe} {r : List Expr} (hc : PT X e (tT G Z E c)) (hd : PW X (.BoolOp .Or (a :: r) pos) (tT G Z E d)) : PW X (.BoolOp .Or (e :: a :: r) pos) (tT G Z E (sTOr c d)) :=
  (pw_or hc hd).imp fun σ H Q ⟨F, M, ρ, t, p⟩ => tT_use t p fun b ρ1 F1 M1 H1 s st q => by
    cases b with
    | true => exact q F1 M1 H1 Stp.refl st
    | false => exact ⟨F1, M1, ρ1, st, q⟩

/-! ## as values -/
def sAnd (f g : En → R Opd) : En → R Opd := fun ρ => (f ρ).bind fun o ρ1 => match der o ρ1 with
  | some d => match truth d with
    | some true => g ρ1
    | some false => .ok o ρ1
    | none => .stuck
  | none => .stuck
def sOr (f g : En → R Opd) : En → R Opd := fun ρ => (f ρ).bind fun o ρ1 => match der o ρ1 with
  | some d => match truth d with
    | some true => .ok o ρ1
    | some false => g ρ1
    | none => .stuck
  | none => .stuck
theorem je_one {op : BoolOp} (h : PE X e (tE G Z E f)) : PE X (.BoolOp op [e] pos) (tE G Z E f) := pe_one h
theorem StA.drop {F M : AS} {ρ : En} {σ : L2.St} {H : Hp} {os : List Opd} {vs : List V} (t : StA G Z F M ρ σ os vs H) : St G Z F M ρ σ H := t.st
theorem je_and {r : List Expr} (hK : X.K = G.K) (ha : PE X a (tE G Z E f)) (hb : PE X (.BoolOp .And (b :: r) pos) (tE G Z E g)) : PE X (.BoolOp .And (a :: b :: r) pos) (tE G Z E (sAnd f g)) :=
  (pe_andT ha hb).imp fun σ H Q ⟨F, M, ρ, t, p⟩ => tE_use t p fun o ρ1 F1 M1 H1 v s a q => by
    split at q
    · rename_i d hd
      have ra := a.read1 hd
      split at q
      · rename_i hb
        exact ⟨true, by rw [hK]; exact truth_use ra hb, ⟨F1, M1, ρ1, a.st, q⟩⟩
      · rename_i hb
        exact ⟨false, by rw [hK]; exact truth_use ra hb, q F1 M1 H1 Stp.refl v a⟩
      · exact q.elim
    · exact q.elim
theorem je_or {r : List Expr} (hK : X.K = G.K) (ha : PE X a (tE G Z E f)) (hb : PE X (.BoolOp .Or (b :: r) pos) (tE G Z E g)) : PE X (.BoolOp .Or (a :: b :: r) pos) (tE G Z E (sOr f g)) :=
  (pe_orT ha hb).imp fun σ H Q ⟨F, M, ρ, t, p⟩ => tE_use t p fun o ρ1 F1 M1 H1 v s a q => by
    split at q
    · rename_i d hd
      have ra := a.read1 hd
      split at q
      · rename_i hb
        exact ⟨true, by rw [hK]; exact truth_use ra hb, q F1 M1 H1 Stp.refl v a⟩
      · rename_i hb
        exact ⟨false, by rw [hK]; exact truth_use ra hb, ⟨F1, M1, ρ1, a.st, q⟩⟩
      · exact q.elim
    · exact q.elim
def sNot (f : En → R Opd) : En → R Opd := fun ρ => (f ρ).bind fun o ρ1 => match der o ρ1 with
  | some d => match truth d with
    | some b => .ok (.v false (.bl (!b))) ρ1
    | none => .stuck
  | none => .stuck
theorem je_not (hK : X.K = G.K) (ha : PE X a (tE G Z E f)) : PE X (.UnaryOp .Not a pos) (tE G Z E (sNot f)) :=
  (pe_notT ha).imp fun σ H Q ⟨F, M, ρ, t, p⟩ => tE_use t p fun o ρ1 F1 M1 H1 v s a q => by
    split at q
    · rename_i d hd
      split at q
      · rename_i b hb
        exact ⟨b, by rw [hK]; exact truth_use (a.read1 hd) hb, q F1 M1 H1 Stp.refl _ (a.st.res (.bl _))⟩
      · exact q.elim
    · exact q.elim
def sIte (c : STe) (f g : En → R Opd) : En → R Opd := fun ρ => (c ρ).bind fun b ρ1 => if b then f ρ1 else g ρ1
theorem je_ite {c : STe} (hc : PT X e (tT G Z E c)) (ha : PE X a (tE G Z E f)) (hb : PE X b (tE G Z E g)) : PE X (.IfExp e a b pos) (tE G Z E (sIte c f g)) :=
  (pe_ifExp hc ha hb).imp fun σ H Q ⟨F, M, ρ, t, p⟩ => tT_use t p fun b ρ1 F1 M1 H1 s st q => by
    cases b with
    | true => exact ⟨F1, M1, ρ1, st, q⟩
    | false => exact ⟨F1, M1, ρ1, st, q⟩
end
end Ev

namespace Ev
open PySem PySem.Spec PyProof.Rows L2

/-! ## arguments -/
section
variable {X : Cx} {G : Ge} {Z : Zn} {E : XK} {e a b : Expr} {es : List Expr} {f g h : En → R Opd} {fs : List (En → R Opd)} {pos p2 : Pos}
def plainArg : Expr → Bool
  | .Starred _ _ => false
  | _ => true
theorem plainArgs_any {env : Env} {pos : Pos} : ∀ {es : List Expr}, es.all plainArg = true → ((backTo pos (starEach es env)).any fun x => x.1) = false
  | [], _ => rfl
  | e :: es, h => by
    simp only [List.all_cons, Bool.and_eq_true] at h
    have ih := plainArgs_any (pos := pos) (env := env) h.2
    cases e with
    | Starred _ _ => cases h.1
    | _ => exact ih
theorem plainArg_eq {env : Env} (h : plainArg e = true) : starEach (e :: es) env = (false, eval e env) :: starEach es env := by
  cases e with
  | Starred _ _ => cases h
  | _ => rfl
theorem ja_nil : PA X [] (tA G Z E (sArgs [])) := pa_nil.imp fun σ H Q h => tA_nil h
theorem ja_cons (hp : plainArg e = true) (he : PE X e (tE G Z E f)) (hr : PA X es (tA G Z E (sArgs fs))) : PA X (e :: es) (tA G Z E (sArgs (f :: fs))) :=
  (pa_cons he hr (plainArg_eq hp)).imp fun σ H Q h => tA_cons h

/-! ## displays -/
def sTup (fs : List (En → R Opd)) : En → R Opd := fun ρ => (sArgs fs ρ).bind fun os ρ1 => match frzs os ρ1 with
  | some (ds, ρ2) => if ds.length ≤ sizeLine then .ok (.v false (.tup ds)) ρ2 else .stuck
  | none => .stuck
def sLst (fs : List (En → R Opd)) : En → R Opd := fun ρ => (sArgs fs ρ).bind fun os ρ1 => match frzs os ρ1 with
  | some (ds, ρ2) => if ds.length ≤ sizeLine then .ok (.v true (.lst ds)) ρ2 else .stuck
  | none => .stuck
/-- operands shared, then a new thing -/
theorem tA_frz {E : XK} {k : List D → En → R Opd} {Q : VK} {Q' : List V → Hp → Prop} {σ : L2.St} {H : Hp} (hq : tE G Z E (fun ρ => (sArgs fs ρ).bind fun os ρ1 => match frzs os ρ1 with
    | some (ds, ρ2) => k ds ρ2
    | none => .stuck) σ H Q)
    (h : ∀ {F M : AS} {ρ : En} {H : Hp} {ds : List D} {vs : List V}, St G Z F M ρ σ H → Reps G F H ds vs → Post G E (k ds ρ) F M H (fun o ρ' F' M' H' => ∀ v, StA G Z F' M' ρ' σ [o] [v] H' → Q v H') → Q' vs H) : tA G Z E (sArgs fs) σ H Q' := by
  obtain ⟨F, M, ρ, t, p⟩ := hq
  refine tA_use t p fun os ρ1 F1 M1 H1 vs s a q => ?_
  split at q
  · rename_i ds ρ2 e
    obtain ⟨F2, M2, s2, t2, r2⟩ := a.frzs e
    refine h t2 r2 ?_
    have q : Post G E (k ds ρ2) F1 M1 H1 fun o ρ' F' M' H' => ∀ v, StA G Z F' M' ρ' σ [o] [v] H' → Q v H' := q
    revert q
    generalize k ds ρ2 = r
    intro q
    cases r with
    | ok o ρ3 => exact fun F3 M3 H3 s3 => q F3 M3 H3 (s2.trans t2.dj s3)
    | exc c as => exact fun F3 M3 H3 ks ds ws vs dd s3 => q F3 M3 H3 ks ds ws vs dd (s2.trans t2.dj s3)
    | stuck => exact q
  · exact q.elim
theorem Kont.of {F M : AS} {ρ ρ' : En} {σ : L2.St} {H : Hp} {b : Bool} {d : D} {Q : VK} (p : Post G E (R.ok (Opd.v b d) ρ) F M H (fun o ρ' F' M' H' => ∀ v, StA G Z F' M' ρ' σ [o] [v] H' → Q v H')) : Kont G Z F M ρ σ H b d Q := fun F' M' H' v s a => p F' M' H' s v a
theorem je_tup {k : Nat} (h : PA X es (tA G Z E (sArgs fs))) : PE X (.Tuple es k pos) (tE G Z E (sTup fs)) :=
  (pe_tup h).imp fun σ H Q q => tA_frz q fun {F M ρ H ds vs} t r p => by
    split at p
    · rename_i hl
      exact ⟨by rw [← r.length]; exact hl, fun a ha => (Kont.of (ρ' := ρ) p).newT t ha r⟩
    · exact p.elim
theorem je_lst (h : PA X es (tA G Z E (sArgs fs))) : PE X (.List es pos) (tE G Z E (sLst fs)) :=
  (pe_lst h).imp fun σ H Q q => tA_frz q fun {F M ρ H ds vs} t r p => by
    split at p
    · rename_i hl
      exact ⟨by rw [← r.length]; exact hl, fun a ha => (Kont.of (ρ' := ρ) p).newL t ha r⟩
    · exact p.elim
def sNewD (d : D) : En → R Opd := fun ρ => .ok (.v true d) ρ
theorem je_dK : PE X (.Dict [] [] pos) (tE G Z E (sNewD (.dK []))) :=
  pe_dnewK.imp fun σ H Q ⟨F, M, ρ, t, p⟩ a ha => (Kont.of (ρ' := ρ) p).new t ha (.dK upd_same (ks := []) (ds := []) (vs := []) rfl rfl rfl .nil)
theorem je_dT : PE X (.Dict [] [] pos) (tE G Z E (sNewD (.dT []))) :=
  pe_dnewT.imp fun σ H Q ⟨F, M, ρ, t, p⟩ a ha => (Kont.of (ρ' := ρ) p).new t ha (.dT upd_same (ks := []) (ds := []) (vs := []) rfl rfl rfl .nil)

/-! ## built-ins upon operands that are read -/
theorem je_callB {id : String} {x : Str} {p : Pos} {r : List V → Hp → VK → Prop} {op : List D → Option (Bool × D)} (hc : CallR X (.builtin id) r) (ok : OpOk G op r) (hg : Gl X x) (hm : X.mg x = none) (hv : bootBuiltins x = some (.builtin id)) (ha : PA X (e :: es) (tA G Z E (sArgs fs)))
    (hn : x ≠ "__name__") (hdb : (x == ("__debug__" : Str)) = false) (hpa : (e :: es).all plainArg = true) : PE X (.Call (.Name x p) (e :: es) [] pos) (tE G Z E (sOp op fs)) :=
  (pe_callB hc hg hm hv ha hn hdb (plainArg_eq (by simp only [List.all_cons, Bool.and_eq_true] at hpa; exact hpa.1)) (plainArgs_any (by simp only [List.all_cons, Bool.and_eq_true] at hpa; exact hpa.2))).imp fun σ H Q q => sOp_use ok q
theorem je_callTy {T : String} {x : Str} {p : Pos} {r : List V → Hp → VK → Prop} {op : List D → Option (Bool × D)} (hc : CallR X (.type T) r) (ok : OpOk G op r) (hg : Gl X x) (hm : X.mg x = none) (hv : bootBuiltins x = some (.type T)) (ha : PA X (e :: es) (tA G Z E (sArgs fs)))
    (hn : x ≠ "__name__") (hdb : (x == ("__debug__" : Str)) = false) (hpa : (e :: es).all plainArg = true) : PE X (.Call (.Name x p) (e :: es) [] pos) (tE G Z E (sOp op fs)) :=
  (pe_callTy hc hg hm hv ha hn hdb (plainArg_eq (by simp only [List.all_cons, Bool.and_eq_true] at hpa; exact hpa.1)) (plainArgs_any (by simp only [List.all_cons, Bool.and_eq_true] at hpa; exact hpa.2))).imp fun σ H Q q => sOp_use ok q
end
end Ev

namespace Ev
open PySem PySem.Spec PyProof.Rows L2

/-! ## built-in functions -/
section
variable {G : Ge} {Z : Zn} {F M : AS} {ρ : En} {σ : L2.St} {H : Hp}
theorem Ras.inv1 {x : D} {vs : List V} (r : Ras G F H [x] vs) : ∃ v, vs = [v] ∧ Ra G F H x v := by
  cases r with
  | cons h1 r =>
    cases r
    exact ⟨_, rfl, h1⟩
theorem Ra.scr {ns : List Int} {v : V} (r : Ra G F H (.scr ns) v) : ∃ a, v = .ref a ∧ SqL G.K H a (ns.map V.int) := by
  rcases r with r | ⟨a, _, c⟩
  · cases r with
    | scr h => exact ⟨_, rfl, h.elim (fun h => .inl h.2) fun h => h H⟩
  · cases c
theorem Reps.ints : ∀ (ns : List Int), Reps G F H (ns.map D.int) (ns.map V.int)
  | [] => .nil
  | n :: ns => .cons (.int n) (Reps.ints ns)
theorem Reps.toInts : ∀ {xs : List D} {vs : List V} {ns : List Int}, Reps G F H xs vs → xs = ns.map D.int → vs = ns.map V.int
  | _, _, [], .nil, _ => rfl
  | _, _, n :: ns, .nil, e => by cases e
  | _, _, [], .cons _ _, e => by cases e
  | _, _, n :: ns, .cons h t, e => by
    injection e with e1 e2
    subst e1
    rw [Reps.toInts t e2]
    cases h
    rfl

/-! ### len -/
def lenD : D → Option Int
  | .lst xs => some xs.length
  | .tup xs => some xs.length
  | .ktp xs => some xs.length
  | .scr ns => some ns.length
  | .dK kvs => some kvs.length
  | .dT kvs => some kvs.length
  | .str s => if s.length ≤ sizeLine then some s.length else none
  | _ => none
theorem opOk1r {f : D → Option (Bool × D)} {r : List V → Hp → VK → Prop} (h : ∀ {Z : Zn} {F M : AS} {ρ : En} {σ : L2.St} {H : Hp} {x : D} {v : V} {b : Bool} {d : D} {Q : VK}, St G Z F M ρ σ H → Ra G F H x v → f x = some (b, d) → Kont G Z F M ρ σ H b d Q → r [v] H Q) : OpOk G (op1 f) r :=
  fun {Z F M ρ σ H ds vs b d Q} t ra e k => by
    unfold op1 at e
    split at e
    · obtain ⟨v, rfl, h1⟩ := Ras.inv1 ra
      exact h t h1 e k
    · cases e
def fLen (x : D) : Option (Bool × D) := match lenD x with
  | some n => some (false, .int n)
  | none => none
def rLenAll (K : PySem.W.Frag) : List V → Hp → VK → Prop := fun xs H Q => (∃ x n, xs = [x] ∧ LenV K x H n ∧ Q (.int n) H) ∨ (∃ a kvs, xs = [V.ref a] ∧ H a = some (.dK kvs) ∧ Q (.int kvs.length) H) ∨ rLenT xs H Q
theorem cr_lenAll {X : Cx} : CallR X (.builtin "len") (rLenAll X.K) := call_len.or (call_lenD.or call_len_dT)
theorem ok_len : OpOk G (op1 fLen) (rLenAll G.K) := opOk1r fun {Z F M ρ σ H x v b d Q} t r e k => by
  unfold fLen at e
  split at e
  · rename_i n hn
    cases e
    cases x with
    | lst xs =>
      cases hn
      obtain ⟨a, vs, rfl, s, rs⟩ := r.lst
      exact .inl ⟨_, vs.length, rfl, .inl ⟨vs, s, rfl⟩, by rw [← rs.length]; exact k.rep t (.int _)⟩
    | tup xs =>
      cases hn
      obtain ⟨a, vs, rfl, s, rs⟩ := r.tup.seqT
      exact .inl ⟨_, vs.length, rfl, .inr ⟨vs, s, rfl⟩, by rw [← rs.length]; exact k.rep t (.int _)⟩
    | ktp xs =>
      cases hn
      obtain ⟨a, vs, rfl, s, rs⟩ := r.ktp.seqK
      exact .inl ⟨_, vs.length, rfl, .inr ⟨vs, s, rfl⟩, by rw [← rs.length]; exact k.rep t (.int _)⟩
    | scr ns =>
      cases hn
      obtain ⟨a, rfl, s⟩ := r.scr
      exact .inl ⟨_, ns.length, rfl, .inl ⟨_, s, by simp⟩, k.rep t (.int _)⟩
    | dK kvs =>
      cases hn
      obtain ⟨a, ws, rfl, h, p⟩ := r.atK
      exact .inr (.inl ⟨a, ws, rfl, h, by rw [← p.length]; exact k.rep t (.int _)⟩)
    | dT kvs =>
      cases hn
      obtain ⟨a, ws, rfl, h, p⟩ := r.atT
      exact .inr (.inr ⟨a, ws, rfl, h, by rw [← p.length]; exact k.rep t (.int _)⟩)
    | str s =>
      unfold lenD at hn
      dsimp only at hn
      split at hn
      · rename_i hz
        cases hn
        rw [r.str]
        exact .inl ⟨_, s.length, rfl, ⟨hz, rfl⟩, k.rep t (.int _)⟩
      · cases hn
    | _ => cases hn
  · cases e

/-! ### sum, all, any -/
def intsOf : List D → Option (List Int)
  | [] => some []
  | .int i :: r => match intsOf r with
    | some ns => some (i :: ns)
    | none => none
  | _ => none
theorem intsOf_map : ∀ {xs : List D} {ns : List Int}, intsOf xs = some ns → xs = ns.map D.int
  | [], _, e => by cases e; rfl
  | x :: xs, ns, e => by
    cases x with
    | int i =>
      unfold intsOf at e
      split at e
      · rename_i ms h
        cases e
        rw [intsOf_map h]
        rfl
      · cases e
    | _ => cases e
def blsOf : List D → Option (List Bool)
  | [] => some []
  | .bl i :: r => match blsOf r with
    | some ns => some (i :: ns)
    | none => none
  | _ => none
theorem Reps.toBls : ∀ {xs : List D} {vs : List V} {ns : List Bool}, Reps G F H xs vs → blsOf xs = some ns → vs = ns.map V.bl
  | _, _, _, .nil, e => by cases e; rfl
  | x :: xs, _, ns, .cons h t, e => by
    cases x with
    | bl i =>
      unfold blsOf at e
      split at e
      · rename_i ms hm
        cases e
        rw [Reps.toBls t hm]
        cases h
        rfl
      · cases e
    | _ => cases e
/-- a sequence's items -/
def itemsD : D → Option (List D)
  | .lst xs => some xs
  | .tup xs => some xs
  | .ktp xs => some xs
  | .scr ns => some (ns.map .int)
  | _ => none
theorem Ra.items {x : D} {xs : List D} {v : V} (r : Ra G F H x v) (e : itemsD x = some xs) : ∃ a vs, v = .ref a ∧ (SqL G.K H a vs ∨ SqT G.K H a vs) ∧ Reps G F H xs vs := by
  cases x with
  | lst ys =>
    cases e
    obtain ⟨a, vs, e1, s, rs⟩ := r.lst
    exact ⟨a, vs, e1, .inl s, rs⟩
  | tup ys =>
    cases e
    obtain ⟨a, vs, e1, s, rs⟩ := r.tup.seqT
    exact ⟨a, vs, e1, .inr s, rs⟩
  | ktp ys =>
    cases e
    obtain ⟨a, vs, e1, s, rs⟩ := r.ktp.seqK
    exact ⟨a, vs, e1, .inr s, rs⟩
  | scr ns =>
    cases e
    obtain ⟨a, e1, s⟩ := r.scr
    exact ⟨a, _, e1, .inl s, Reps.ints ns⟩
  | _ => cases e
def rSumT (K : PySem.W.Frag) : List V → Hp → VK → Prop := fun vs H Q => ∃ (a : Addr) (ns : List Int), vs = [V.ref a] ∧ SqT K H a (ns.map V.int) ∧ Q (.int ns.sum) H
theorem cr_sumT {X : Cx} (hc : X.calm = true) : CallR X (.builtin "sum") (rSumT X.K) := by
  intro pins s σ H vs us Q I r h
  obtain ⟨a, ns, rfl, hs, q⟩ := h
  obtain ⟨its, rv, hl, _⟩ := I.tuple hs
  rw [Vals.ref1 r]
  have hi := rv.ints
  obtain ⟨xs, e⟩ := hi.allInts.items
  have hn : numsOf (PySem.intItems xs).toList = ns := by rw [← e]; exact hi.numsOf
  rw [nums_intItems] at hn
  rw [e] at hl
  refine PySem.W.ktm_sumG (I.ok.hd hc) hl fun h' tk t' hk => ?_
  rw [preSum_eq, List.take_of_length_le (by simp), hn]
  exact ⟨.int _, H, I.kept hk, ⟨_, rfl⟩, q⟩
def rSumAll (K : PySem.W.Frag) : List V → Hp → VK → Prop := fun vs H Q => rSum K vs H Q ∨ rSumT K vs H Q
theorem cr_sumAll {X : Cx} (hc : X.calm = true) : CallR X (.builtin "sum") (rSumAll X.K) := (cr_sum hc).or (cr_sumT hc)
def fSum (x : D) : Option (Bool × D) := match itemsD x with
  | some xs => match intsOf xs with
    | some ns => some (false, .int ns.sum)
    | none => none
  | none => none
theorem ok_sum : OpOk G (op1 fSum) (rSumAll G.K) := opOk1r fun {Z F M ρ σ H x v b d Q} t r e k => by
  unfold fSum at e
  split at e
  · rename_i xs hx
    split at e
    · rename_i ns hn
      cases e
      obtain ⟨a, vs, rfl, s, rs⟩ := r.items hx
      rw [rs.toInts (intsOf_map hn)] at s
      rcases s with s | s
      · exact .inl ⟨a, ns, rfl, s, k.rep t (.int _)⟩
      · exact .inr ⟨a, ns, rfl, s, k.rep t (.int _)⟩
    · cases e
  · cases e
def fAll (x : D) : Option (Bool × D) := match x with
  | .lst xs => match blsOf xs with
    | some bs => some (false, .bl (bs.all id))
    | none => none
  | _ => none
def fAny (x : D) : Option (Bool × D) := match x with
  | .lst xs => match blsOf xs with
    | some bs => some (false, .bl (bs.any id))
    | none => none
  | _ => none
theorem ok_all : OpOk G (op1 fAll) (rAll G.K) := opOk1r fun {Z F M ρ σ H x v b d Q} t r e k => by
  unfold fAll at e
  split at e
  · split at e
    · rename_i bs hb
      cases e
      obtain ⟨a, vs, rfl, s, rs⟩ := r.lst
      rw [rs.toBls hb] at s
      exact ⟨a, bs, rfl, s, k.rep t (.bl _)⟩
    · cases e
  · cases e
theorem ok_any : OpOk G (op1 fAny) (rAny G.K) := opOk1r fun {Z F M ρ σ H x v b d Q} t r e k => by
  unfold fAny at e
  split at e
  · split at e
    · rename_i bs hb
      cases e
      obtain ⟨a, vs, rfl, s, rs⟩ := r.lst
      rw [rs.toBls hb] at s
      exact ⟨a, bs, rfl, s, k.rep t (.bl _)⟩
    · cases e
  · cases e

/-! ### int, bool, abs, str -/
def fInt (x : D) : Option (Bool × D) := match x with
  | .int i => some (false, .int i)
  | .bl b => some (false, .int (if b then 1 else 0))
  | _ => none
def rInt1 : List V → Hp → VK → Prop := fun xs H Q => (∃ i, xs = [.int i] ∧ Q (.int i) H) ∨ ∃ k : Bool, xs = [.bl k] ∧ Q (.int (if k then 1 else 0)) H
theorem cr_int1 {X : Cx} : CallR X (.type "int") rInt1 := call_int1
theorem ok_int1 : OpOk G (op1 fInt) rInt1 := opOk1r fun {Z F M ρ σ H x v b d Q} t r e k => by
  unfold fInt at e
  split at e
  · cases e; rw [r.int]; exact .inl ⟨_, rfl, k.rep t (.int _)⟩
  · cases e; rw [r.bl]; exact .inr ⟨_, rfl, k.rep t (.int _)⟩
  · cases e
def fBool (x : D) : Option (Bool × D) := match x with
  | .int i => some (false, .bl (i != 0))
  | .bl b => some (false, .bl b)
  | _ => none
def rBool1 : List V → Hp → VK → Prop := fun xs H Q => (∃ i, xs = [.int i] ∧ Q (.bl (i != 0)) H) ∨ ∃ k : Bool, xs = [.bl k] ∧ Q (.bl k) H
theorem cr_bool1 {X : Cx} : CallR X (.type "bool") rBool1 := call_bool1
theorem ok_bool1 : OpOk G (op1 fBool) rBool1 := opOk1r fun {Z F M ρ σ H x v b d Q} t r e k => by
  unfold fBool at e
  split at e
  · cases e; rw [r.int]; exact .inl ⟨_, rfl, k.rep t (.bl _)⟩
  · cases e; rw [r.bl]; exact .inr ⟨_, rfl, k.rep t (.bl _)⟩
  · cases e
def fAbs (x : D) : Option (Bool × D) := match x with
  | .int i => some (false, .int (if i < 0 then -i else i))
  | _ => none
def rAbs : List V → Hp → VK → Prop := fun xs H Q => ∃ i : Int, xs = [.int i] ∧ Q (.int (if i < 0 then -i else i)) H
theorem cr_abs {X : Cx} : CallR X (.builtin "abs") rAbs := call_abs
theorem ok_abs : OpOk G (op1 fAbs) rAbs := opOk1r fun {Z F M ρ σ H x v b d Q} t r e k => by
  unfold fAbs at e
  split at e
  · cases e; rw [r.int]; exact ⟨_, rfl, k.rep t (.int _)⟩
  · cases e

/-! ### list, tuple -/
def fList (x : D) : Option (Bool × D) := match itemsD x with
  | some xs => some (true, .lst xs)
  | none => match x with
    | .dK kvs => some (true, .lst (kvs.map fun kv => match kv.1 with
      | .inl i => .int i
      | .inr s => .str s))
    | _ => none
def rListAll (K : PySem.W.Frag) : List V → Hp → VK → Prop := fun xs H Q => (∃ p ys, xs = [.ref p] ∧ (SqL K H p ys ∨ SqT K H p ys) ∧ ∀ l, H l = none → Q (.ref l) (upd H l (.lst ys))) ∨ rListD xs H Q
theorem cr_listAll {X : Cx} (hc : X.calm = true) : CallR X (.type "list") (rListAll X.K) := call_list_of.or (call_list_dK hc)
theorem Prs.keysR : ∀ {kvs : List (Key × D)} {ws : List (Key × V)}, Prs G F H kvs ws → Reps G F H (kvs.map fun kv => match kv.1 with
      | .inl i => D.int i
      | .inr s => D.str s) (ws.map fun kv => kV kv.1)
  | _, _, .nil => .nil
  | (k, d) :: _, (k', v) :: _, .cons ⟨e, _⟩ t => by
    cases (show k = k' from e)
    refine .cons ?_ (Prs.keysR t)
    cases k with
    | inl i => exact .int i
    | inr s => exact .str s
theorem ok_list : OpOk G (op1 fList) (rListAll G.K) := opOk1r fun {Z F M ρ σ H x v b d Q} t r e k => by
  unfold fList at e
  split at e
  · rename_i xs hx
    cases e
    obtain ⟨a, vs, rfl, s, rs⟩ := r.items hx
    exact .inl ⟨a, vs, rfl, s, fun l hl => k.newL t hl rs⟩
  · split at e
    · cases e
      obtain ⟨a, ws, rfl, h, p⟩ := r.atK
      exact .inr ⟨a, ws, rfl, h, fun l hl => k.newL t hl p.keysR⟩
    · cases e
def fTuple (x : D) : Option (Bool × D) := match x with
  | .lst xs => some (false, .tup xs)
  | .scr ns => some (false, .tup (ns.map .int))
  | .tup xs => some (false, .tup xs)
  | .ktp xs => some (false, .ktp xs)
  | _ => none
def rTupleAll (K : PySem.W.Frag) : List V → Hp → VK → Prop := fun xs H Q => ∃ p ys, xs = [.ref p] ∧ ((SqL K H p ys ∧ ∀ l, H l = none → Q (.ref l) (upd H l (.tup ys))) ∨ (SqT K H p ys ∧ Q (.ref p) H))
theorem cr_tupleAll {X : Cx} : CallR X (.type "tuple") (rTupleAll X.K) := call_tuple_of
theorem ok_tuple : OpOk G (op1 fTuple) (rTupleAll G.K) := opOk1r fun {Z F M ρ σ H x v b d Q} t r e k => by
  unfold fTuple at e
  split at e
  · cases e
    obtain ⟨a, vs, rfl, s, rs⟩ := r.lst
    exact ⟨a, vs, rfl, .inl ⟨s, fun l hl => k.newT t hl rs⟩⟩
  · rename_i ns
    cases e
    obtain ⟨a, rfl, s⟩ := r.scr
    exact ⟨a, _, rfl, .inl ⟨s, fun l hl => k.newT t hl (Reps.ints ns)⟩⟩
  · cases e
    have r := r.tup
    obtain ⟨a, vs, rfl, s, rs⟩ := r.seqT
    exact ⟨a, vs, rfl, .inr ⟨s, k.rep t r⟩⟩
  · cases e
    have r := r.ktp
    obtain ⟨a, vs, rfl, s, rs⟩ := r.seqK
    exact ⟨a, vs, rfl, .inr ⟨s, k.rep t r⟩⟩
  · cases e

/-! ### isinstance -/
def btOf : D → Option Bt
  | .non => some .none
  | .bl _ => some .bool
  | .int _ => some .int
  | .str _ => some .str
  | .tup _ => some .tuple
  | .ktp _ => some .tuple
  | .lst _ => some .list
  | .dK _ => some .dict
  | .dT _ => some .dict
  | _ => none
def Bt.sub (a b : Bt) : Bool := decide (a = b) || (decide (a = .bool) && decide (b = .int)) || decide (b = .object)
theorem Bt.sub_kit : ∀ a b : Bt, kitB a.name b.name = some (a.sub b) := by
  intro a b
  cases a <;> cases b <;> decide +kernel
theorem Ra.tyX {d : D} {v : V} {b : Bt} (r : Ra G F H d v) (e : btOf d = some b) : TyX G.K H v (.type b.name) := by
  cases d with
  | non => cases e; rw [r.non]; exact .base .non
  | bl x => cases e; rw [r.bl]; exact .base (.bl x)
  | int x => cases e; rw [r.int]; exact .base (.int x)
  | str x => cases e; rw [r.str]; exact .base (.str x)
  | tup xs =>
    cases e
    cases r.tup with
    | tup f h q => exact .base (.tup h)
  | ktp xs =>
    cases e
    cases r.ktp with
    | ktp h q =>
      rcases h (fun _ => none) with h | ⟨o, its, n, h1, h2, _⟩
      · rcases h with h | ⟨o, h⟩ <;> cases h
      · exact .kTuple h1 h2
  | lst xs =>
    cases e
    rcases r with r | ⟨a, rfl, c⟩
    · cases r with
      | lst f h q => exact .base (.lst h)
    · cases c with
      | lst h q => exact .base (.lst h)
  | dK kvs =>
    cases e
    obtain ⟨a, ws, rfl, h, p⟩ := r.atK
    exact .base (.dK h)
  | dT kvs =>
    cases e
    obtain ⟨a, ws, rfl, h, p⟩ := r.atT
    exact .base (.dT h)
  | _ => cases e
def btsOf : List D → Option (List Bt)
  | [] => some []
  | .ty b :: r => match btsOf r with
    | some bs => some (b :: bs)
    | none => none
  | _ => none
theorem Reps.bts : ∀ {xs : List D} {vs : List V} {bs : List Bt}, Reps G F H xs vs → btsOf xs = some bs → Paired ClsV vs (bs.map fun b => Value.type b.name)
  | [], _, _, .nil, e => by cases e; exact .nil
  | x :: xs, _, bs, .cons h t, e => by
    cases x with
    | ty b =>
      unfold btsOf at e
      split at e
      · rename_i ms hm
        cases e
        cases h
        exact .cons (.ty _) (Reps.bts t hm)
      · cases e
    | _ => cases e
theorem kitAny_bts {K : PySem.W.Frag} (a : Bt) : ∀ bs : List Bt, PySem.W.kitAny K (.type a.name) (bs.map fun b => Value.type b.name) = some (bs.any a.sub)
  | [] => kitAny_nil
  | b :: bs => kitAny_cons (b := a.sub b) (kit_ty (a.sub_kit b)) (fun z => by rw [List.any_cons, z, kitAny_bts a bs]; rfl) (fun z => by rw [List.any_cons, z]; rfl)
def opIsi : List D → Option (Bool × D) := fun ds => match ds with
  | [x, .ty T] => match btOf x with
    | some b => some (false, .bl (b.sub T))
    | none => none
  | [x, .tup cs] => match btOf x with
    | some b => match btsOf cs with
      | some bs => some (false, .bl (bs.any b.sub))
      | none => none
    | none => none
  | _ => none
def rIsiAll (K : PySem.W.Frag) : List V → Hp → VK → Prop := fun xs H Q => rIsi K xs H Q ∨ rIsiT K xs H Q
theorem cr_isi {X : Cx} : CallR X (.builtin "isinstance") (rIsiAll X.K) := call_isi.or call_isiT
theorem ok_isi : OpOk G opIsi (rIsiAll G.K) := fun {Z F M ρ σ H ds vs b d Q} t ra e k => by
  unfold opIsi at e
  split at e
  · split at e
    · rename_i c hb
      cases e
      obtain ⟨v, w, rfl, h1, h2⟩ := Ras.int1 ra
      rw [h2.ty]
      exact .inl ⟨v, _, _, _, _, rfl, .ty _, h1.tyX hb, kit_ty (c.sub_kit _), k.rep t (.bl _)⟩
    · cases e
  · split at e
    · rename_i c hb
      split at e
      · rename_i bs hbs
        cases e
        obtain ⟨v, w, rfl, h1, h2⟩ := Ras.int1 ra
        cases h2.tup with
        | tup f h q => exact .inr ⟨v, _, _, _, _, _, rfl, h, q.bts hbs, h1.tyX hb, kitAny_bts c bs, k.rep t (.bl _)⟩
      · cases e
    · cases e
  · cases e
/-! ### repr -/
def fRepr (x : D) : Option (Bool × D) := match toPy x with
  | some p => if p.showable && !p.hasDict && decide (p.depth ≤ 8) && decide (p.shown.length ≤ sizeLine) then some (false, .str p.shown) else none
  | none => none
def rReprD (K : PySem.W.Frag) : List V → Hp → VK → Prop := fun xs H Q => ∃ x d, xs = [x] ∧ Dp K H x d ∧ d.showable = true ∧ d.hasDict = false ∧ d.depth ≤ 8 ∧ d.shown.length ≤ sizeLine ∧ Q (.str d.shown) H
theorem cr_reprD {X : Cx} (hg : X.A.guards = some []) (hu : X.A.units + 65 < cLine) : CallR X (.builtin "repr") (rReprD X.K) := by
  intro pins s σ H xs us Q I r h
  obtain ⟨x, d, rfl, hd, h1, h2, h3, h4, q⟩ := h
  obtain ⟨u, rfl, ru⟩ := Vals.one r
  obtain ⟨as, rd⟩ := Dp.reads I d x u hd ru
  cases rd with
  | none => exact PySem.P.repr_of_none ⟨.str _, H, I.tok _, ⟨_, rfl⟩, q⟩
  | bool b => exact PySem.P.repr_of_bool ⟨.str _, H, I.tok _, ⟨_, rfl⟩, q⟩
  | int i t =>
    refine PySem.P.repr_of_int ?_ ⟨.str _, H, I.tok _, ⟨_, rfl⟩, q⟩
    simpa [PyData.showable] using h1
  | str y t => exact PySem.P.repr_of_str ⟨.str _, H, I.tok _, ⟨_, rfl⟩, q⟩ h4
  | list a1 a2 a3 a4 => exact repr_of_reads' (Reads.list a1 a2 a3 a4) h1 (fun z => by rw [h2] at z; cases z) hg (by omega) (fun _ _ z => z) (fun h' w tk hk => ⟨.str _, H, I.kept hk, ⟨_, rfl⟩, q⟩) h4
  | tuple a1 a2 a3 a4 => exact repr_of_reads' (Reads.tuple a1 a2 a3 a4) h1 (fun z => by rw [h2] at z; cases z) hg (by omega) (fun _ _ z => z) (fun h' w tk hk => ⟨.str _, H, I.kept hk, ⟨_, rfl⟩, q⟩) h4
  | dict => cases h2
theorem ok_repr : OpOk G (op1 fRepr) (rReprD G.K) := opOk1r fun {Z F M ρ σ H x v b d Q} t r e k => by
  unfold fRepr at e
  split at e
  · rename_i p hp
    split at e
    · rename_i hc
      cases e
      simp only [Bool.and_eq_true, decide_eq_true_eq, Bool.not_eq_true'] at hc
      exact ⟨v, p, rfl, r.dp hp, hc.1.1.1, hc.1.1.2, hc.1.2, hc.2, k.rep t (.str _)⟩
    · cases e
  · cases e
end
end Ev

namespace Ev
open PySem PySem.Spec PyProof.Rows L2

/-! ## stores into containers -/
section
variable {G : Ge} {T : List (Addr × Str)} {Z : Zn} {F M : AS} {ρ : En} {σ : L2.St} {H : Hp}
def Plain : HO → Prop
  | .lst _ => True
  | .dK _ => True
  | .dT _ => True
  | .ins _ _ _ => True
  | _ => False
theorem Con.plain {d : D} {a : Addr} (c : Con G F H d a) : ∃ u, H a = some u ∧ Plain u := by
  cases c with
  | lst h r => exact ⟨_, h, True.intro⟩
  | dK h e1 e2 l r => exact ⟨_, h, True.intro⟩
  | dT h e1 e2 l r => exact ⟨_, h, True.intro⟩
  | ins h e1 e2 l r => exact ⟨_, h, True.intro⟩
theorem tabs_put {a : Addr} {u v : HO} (h : H a = some u) (p : Plain u) (t : LamX.Tabs T H) : LamX.Tabs T (upd H a v) := fun q hq => by
  obtain ⟨ps, e1, e2, e3⟩ := t q hq
  have n1 : q.1 ≠ a := fun z => by
    rw [z, h] at e1
    cases e1
    exact p
  refine ⟨ps, by rw [upd_ne n1]; exact e1, e2, fun pos cv hc => ?_⟩
  obtain ⟨c, e, z⟩ := e3 pos cv hc
  refine ⟨c, e, ?_⟩
  have n2 : c ≠ a := fun y => by
    rw [y, h] at z
    have z := Option.some.inj z
    unfold LamX.CodeO at z
    rw [z] at p
    exact p
  rw [upd_ne n2]
  exact z
theorem keeps_put {a : Addr} {v : HO} (n : ¬ F a) : Keeps F H (upd H a v) := fun b o f h _ => by rw [upd_ne (show b ≠ a from fun z => n (z ▸ f))]; exact h
/-- what a slot's container holds changes -/
theorem St.store {i : Nat} {a : Addr} {d d' : D} {u v : HO} (t : St G Z F M ρ σ H) (e : ρ[i]? = some (some ⟨.own, d⟩)) (es : σ[i]? = some (some (.ref a))) (hm : M a) (h : H a = some u) (p : Plain u) (c : Con G F (upd H a v) d' a) (hT : T = G.T) :
    Stp T F M H F M (upd H a v) ∧ St G Z F M (ρ.set i (some ⟨.own, d'⟩)) σ (upd H a v) := by
  subst hT
  have nf : ¬ F a := fun z => t.dj a z hm
  have dm : ∀ b, H b ≠ none → upd H a v b ≠ none := fun b z => dom_upd z
  have hl : i < ρ.length := (List.getElem?_eq_some_iff.mp e).1
  refine ⟨⟨fun _ h => h, fun b h => h.elim .inl fun z => .inr (.inl z), fun b o ho n _ => by rw [upd_ne (show b ≠ a from fun z => n (z ▸ hm))]; exact ho, dm, fun t => tabs_put h p t⟩,
    ⟨by simpa using t.len, fun j x ej => ?_, fun j k x y n ej ek hx hy => ?_, t.dj, fun b f => dm b (t.fd b f), fun b m => dm b (t.md b m), tabs_put h p t.tab, t.par, fun b hb => ⟨(t.ld b hb).1, (t.ld b hb).2.1, dm b (t.ld b hb).2.2⟩, tf_upd t.tf c.ntup⟩⟩
  · by_cases q : j = i
    · subst q
      rw [List.getElem?_set_self hl] at ej
      cases ej
      exact ⟨_, es, a, rfl, hm, c⟩
    · rw [List.getElem?_set_ne (Ne.symm q)] at ej
      obtain ⟨w, ew, r⟩ := t.slot j x ej
      refine ⟨w, ew, r.mono (fun _ h => h) (keeps_put nf) (fun b m eb hb => ⟨hb, upd_ne fun z => ?_⟩) fun b _ _ hb => ⟨hb, upd_ne fun z => (t.ld b hb).2.1 (z ▸ hm)⟩⟩
      subst z
      subst eb
      exact t.apart j i _ _ q ej e (by rw [m]; simp) (by simp) (ew.trans es.symm)
  · have old : ∀ (l : Nat) (z : Val), (ρ.set i (some ⟨.own, d'⟩))[l]? = some (some z) → z.m ≠ .frz → ∃ z' : Val, z'.m ≠ .frz ∧ ρ[l]? = some (some z') := fun l z el hz => by
      by_cases q : l = i
      · subst q
        exact ⟨_, by simp, e⟩
      · rw [List.getElem?_set_ne (Ne.symm q)] at el
        exact ⟨z, hz, el⟩
    obtain ⟨x', hx', ex⟩ := old j x ej hx
    obtain ⟨y', hy', ey⟩ := old k y ek hy
    exact t.apart j k x' y' n ex ey hx' hy'

/-! ## methods that change a slot's container -/
/-- a method: the container and what it is given to the container after and the answer -/
def MutOk (G : Ge) (op : D → List D → Option (D × D)) (r : V → List V → Hp → VK → Prop) : Prop :=
  ∀ {F : AS} {H : Hp} {a : Addr} {d d' res : D} {ds : List D} {vs : List V} {Q : VK}, ¬ F a → Con G F H d a → Reps G F H ds vs → op d ds = some (d', res) →
    (∀ u v y, H a = some u → Plain u → Con G F (upd H a v) d' a → Rep G F (upd H a v) res y → Q y (upd H a v)) → r (.ref a) vs H Q
def putSlot (i : Nat) (op : D → List D → Option (D × D)) (ds : List D) (ρ : En) : R Opd := match ρ[i]? with
  | some (some ⟨.own, d⟩) => match op d ds with
    | some (d', r) => .ok (.v false r) (ρ.set i (some ⟨.own, d'⟩))
    | none => .stuck
  | _ => .stuck
def sMut (i : Nat) (ty : D → Bool) (op : D → List D → Option (D × D)) (fs : List (En → R Opd)) : En → R Opd := fun ρ => match ρ[i]? with
  | some (some ⟨.own, d0⟩) => if ty d0 then (sArgs fs ρ).bind fun os ρ1 => match frzs os ρ1 with
      | some (ds, ρ2) => putSlot i op ds ρ2
      | none => .stuck
    else .stuck
  | _ => .stuck
theorem putSlot_use {E : XK} {i : Nat} {op : D → List D → Option (D × D)} {r : V → List V → Hp → VK → Prop} {ds : List D} {vs : List V} {v : V} {Q : VK} (ok : MutOk G op r) (t : St G Z F M ρ σ H) (rs : Reps G F H ds vs) (es : σ[i]? = some (some v))
    (p : Post G E (putSlot i op ds ρ) F M H (fun o ρ' F' M' H' => ∀ v, StA G Z F' M' ρ' σ [o] [v] H' → Q v H')) : r v vs H Q := by
  unfold putSlot at p
  split at p
  · rename_i d hd
    split at p
    · rename_i d' res hop
      obtain ⟨w, ew, a, ea, hm, c⟩ := t.slot i _ hd
      rw [es] at ew
      cases ew
      subst ea
      refine ok (t.dj a · hm) c rs hop fun u v y hu pu c' r' => ?_
      obtain ⟨s, t'⟩ := t.store (T := G.T) hd es hm hu pu c' rfl
      exact p F M _ s y (t'.res r')
    · exact p.elim
  · exact p.elim
end
section
variable {X : Cx} {G : Ge} {Z : Zn} {E : XK} {e a b : Expr} {es : List Expr} {f g h : En → R Opd} {fs : List (En → R Opd)} {pos p2 apos cpos : Pos}
theorem plainArgs_all {env : Env} {pos : Pos} : ∀ {es : List Expr}, es.all plainArg = true → ((backTo pos (starEach es env)).all fun x => !x.1) = true
  | [], _ => rfl
  | e :: es, h => by
    simp only [List.all_cons, Bool.and_eq_true] at h
    have ih := plainArgs_all (pos := pos) (env := env) h.2
    cases e with
    | Starred _ _ => cases h.1
    | _ => exact ih
theorem plainArgs_bm {env : Env} {pos : Pos} (h : (e :: es).all plainArg = true) (hn : (e :: es).length < 30) : ((((backTo pos (starEach (e :: es) env)).all fun x => !x.1) && (backToKw pos (keywordEach [] env)).all fun x => x.1.isSome) && decide (((e :: es).length + ([] : List Keyword).length + if ([] : List Keyword).isEmpty = true then 0 else 1) < 30)) = true := by
  rw [plainArgs_all h]
  simp only [keywordEach, backToKw, List.map_nil, List.all_nil, Bool.and_true, Bool.true_and, List.length_nil, List.isEmpty_nil, if_true, Nat.add_zero, decide_eq_true_eq]
  exact hn
theorem post_stp {F M F1 M1 : AS} {σ : L2.St} {H : Hp} {r : R Opd} {Q : VK} (s : Stp G.T F M H F1 M1 H) (dj : ∀ a, F1 a → ¬ M1 a) (q : Post G E r F M H fun o ρ' F' M' H' => ∀ v, StA G Z F' M' ρ' σ [o] [v] H' → Q v H') :
    Post G E r F1 M1 H fun o ρ' F' M' H' => ∀ v, StA G Z F' M' ρ' σ [o] [v] H' → Q v H' := by
  cases r with
  | ok o ρ3 => exact fun F3 M3 H3 s3 => q F3 M3 H3 (s.trans dj s3)
  | exc c as => exact fun F3 M3 H3 ks ds ws vs dd s3 => q F3 M3 H3 ks ds ws vs dd (s.trans dj s3)
  | stuck => exact q
theorem je_mut {i : Nat} {x : Str} {T id : String} {name : Str} {op : D → List D → Option (D × D)} {r : V → List V → Hp → VK → Prop} {ty : D → Bool} (pa : PlainAttrs T) (slot : Slot T name id) (hty : typeOf (.builtin id) = pure (.type "method_descriptor"))
    (hm : MtR X id r) (ok : MutOk G op r) (hT : ∀ F H d a, ty d = true → Con G F H d a → tyV X.K T (.ref a) H)
    (hN : X.N[i]? = some x) (hv : Vis X.env.scope x) (hd : (x == ("__debug__" : Str)) = false) (hcd : (x == ("__classdict__" : Str)) = false)
    (ha : PA X (e :: es) (tA G Z E (sArgs fs))) (hpa : (e :: es).all plainArg = true) (hna : (e :: es).length < 30) (hbase : attributeBase (.Name x p2) name X.env (eval (.Name x p2) X.env) = eval (.Name x p2) X.env) (hline : (apos.endLine == cpos.line) = true) :
    PE X (.Call (.Attribute (.Name x p2) name apos) (e :: es) [] cpos) (tE G Z E (sMut i ty op fs)) := by
  refine (pe_bm pa slot hty hm (pe_var hN hv hd hcd) ha hbase (plainArgs_bm hpa hna) hline (plainArg_eq (by simp only [List.all_cons, Bool.and_eq_true] at hpa; exact hpa.1)) (plainArgs_any (by simp only [List.all_cons, Bool.and_eq_true] at hpa; exact hpa.2))).imp fun σ H Q ⟨F, M, ρ, t, p⟩ => ?_
  unfold sMut at p
  split at p
  · rename_i d0 h0
    split at p
    · rename_i hty0
      obtain ⟨v, es, a, ev, hm, c⟩ := t.slot i _ h0
      subst ev
      refine ⟨_, es, hT F H d0 a hty0 c, ?_⟩
      refine tA_use t p fun os ρ1 F1 M1 H1 vs s1 a1 q => ?_
      split at q
      · rename_i ds ρ2 e1
        obtain ⟨F2, M2, s2, t2, r2⟩ := a1.frzs e1
        exact putSlot_use ok t2 r2 es (post_stp s2 t2.dj q)
      · exact q.elim
    · exact p.elim
  · exact p.elim
theorem je_mut0 {i : Nat} {x : Str} {T id : String} {name : Str} {op : D → List D → Option (D × D)} {r : V → List V → Hp → VK → Prop} {ty : D → Bool} (pa : PlainAttrs T) (slot : Slot T name id) (hty : typeOf (.builtin id) = pure (.type "method_descriptor"))
    (hm : MtR X id r) (ok : MutOk G op r) (hT : ∀ F H d a, ty d = true → Con G F H d a → tyV X.K T (.ref a) H)
    (hN : X.N[i]? = some x) (hv : Vis X.env.scope x) (hd : (x == ("__debug__" : Str)) = false) (hcd : (x == ("__classdict__" : Str)) = false)
    (hbase : attributeBase (.Name x p2) name X.env (eval (.Name x p2) X.env) = eval (.Name x p2) X.env) (hline : (apos.endLine == cpos.line) = true) :
    PE X (.Call (.Attribute (.Name x p2) name apos) [] [] cpos) (tE G Z E (sMut i ty op [])) := by
  refine (pe_bm0 pa slot hty hm (pe_var hN hv hd hcd) hbase hline).imp fun σ H Q ⟨F, M, ρ, t, p⟩ => ?_
  unfold sMut at p
  split at p
  · rename_i d0 h0
    split at p
    · rename_i hty0
      obtain ⟨v, es, a, ev, hm, c⟩ := t.slot i _ h0
      subst ev
      exact ⟨_, es, hT F H d0 a hty0 c, putSlot_use ok t .nil es p⟩
    · exact p.elim
  · exact p.elim
def isLst : D → Bool
  | .lst _ => true
  | _ => false
theorem isLst_ty {F : AS} {H : Hp} {d : D} {a : Addr} (h : isLst d = true) (c : Con G F H d a) : tyV G.K "list" (.ref a) H := by
  cases c with
  | lst h r => exact .inl ⟨rfl, _, SqL.of h⟩
  | _ => cases h

/-! ### list.append, pop, insert, reverse -/
def oApp : D → List D → Option (D × D)
  | .lst xs, [x] => if xs.length < sizeLine then some (.lst (xs ++ [x]), .non) else none
  | _, _ => none
theorem ok_app : MutOk G oApp rAppend := fun {F H a d d' res ds vs Q} nf c rs e k => by
  unfold oApp at e
  split at e
  · split at e
    · rename_i hz
      cases e
      cases c with
      | lst h r =>
        cases rs with
        | cons h1 rs =>
          cases rs
          exact ⟨a, _, _, rfl, rfl, h, by rw [← r.length]; exact hz, k _ _ _ h True.intro (.lst upd_same ((r.mono (fun _ h => h) (keeps_put nf)).snoc (h1.mono (fun _ h => h) (keeps_put nf)))) .non⟩
    · cases e
  · cases e
def oPop : D → List D → Option (D × D)
  | .lst xs, [] => match xs[xs.length - 1]? with
    | some y => some (.lst xs.dropLast, y)
    | none => none
  | _, _ => none
theorem ok_pop : MutOk G oPop rPop := fun {F H a d d' res ds vs Q} nf c rs e k => by
  unfold oPop at e
  split at e
  · split at e
    · rename_i y hy
      cases e
      cases c with
      | lst h r =>
        cases rs
        obtain ⟨v, h1, h2⟩ := r.get hy
        exact ⟨a, _, v, rfl, rfl, h, by rw [← r.length]; exact h1, k _ _ _ h True.intro (.lst upd_same (r.mono (fun _ h => h) (keeps_put nf)).dropLast) (h2.mono (fun _ h => h) (keeps_put nf))⟩
    · cases e
  · cases e
def oPopAt : D → List D → Option (D × D)
  | .lst xs, [.int i] => if -(2 ^ 63) ≤ i ∧ i < 2 ^ 63 then match seqIndex? i xs.length with
    | some k => match xs[k]? with
      | some y => some (.lst (xs.eraseIdx k), y)
      | none => none
    | none => none else none
  | _, _ => none
theorem ok_popAt : MutOk G oPopAt rPopAt := fun {F H a d d' res ds vs Q} nf c rs e k => by
  unfold oPopAt at e
  split at e
  · split at e
    · rename_i hi
      split at e
      · rename_i j hj
        split at e
        · rename_i y hy
          cases e
          cases c with
          | lst h r =>
            cases rs with
            | cons h1 rs =>
              cases rs
              obtain ⟨v, h3, h4⟩ := r.get hy
              exact ⟨a, _, _, j, v, rfl, by rw [Ra.int (.inl h1)], h, hi.1, hi.2, by rw [← r.length]; exact hj, h3, k _ _ _ h True.intro (.lst upd_same ((r.mono (fun _ h => h) (keeps_put nf)).eraseIdx j)) (h4.mono (fun _ h => h) (keeps_put nf))⟩
        · cases e
      · cases e
    · cases e
  · cases e
def rPops : V → List V → Hp → VK → Prop := fun x xs H Q => rPop x xs H Q ∨ rPopAt x xs H Q
def oIns : D → List D → Option (D × D)
  | .lst xs, [.int i, y] => if xs.length < sizeLine ∧ 0 ≤ i ∧ i < 2 ^ 63 then some (.lst (xs.take i.toNat ++ [y] ++ xs.drop i.toNat), .non) else none
  | _, _ => none
def rIns : V → List V → Hp → VK → Prop := fun x vs H Q => ∃ (l : Addr) (xs : List V) (i : Int) (y : V), x = .ref l ∧ vs = [.int i, y] ∧ H l = some (.lst xs) ∧ xs.length < sizeLine ∧ 0 ≤ i ∧ i < 2 ^ 63 ∧ Q .non (upd H l (.lst (xs.take i.toNat ++ [y] ++ xs.drop i.toNat)))
theorem mr_insert : MtR X "list.insert" rIns := mt_insert
theorem ok_ins : MutOk G oIns rIns := fun {F H a d d' res ds vs Q} nf c rs e k => by
  unfold oIns at e
  split at e
  · split at e
    · rename_i hi
      cases e
      cases c with
      | lst h r =>
        cases rs with
        | cons h1 rs =>
          cases rs with
          | cons h2 rs =>
            cases rs
            have km : ∀ {v : HO}, Keeps F H (upd H a v) := keeps_put nf
            exact ⟨a, _, _, _, rfl, by rw [Ra.int (.inl h1)], h, by rw [← r.length]; exact hi.1, hi.2.1, hi.2.2, k _ _ _ h True.intro (.lst upd_same ((((r.mono (fun _ h => h) km).take _).snoc (h2.mono (fun _ h => h) km)).append ((r.mono (fun _ h => h) km).drop _))) .non⟩
    · cases e
  · cases e
def oRev : D → List D → Option (D × D)
  | .lst xs, [] => some (.lst xs.reverse, .non)
  | _, _ => none
theorem ok_rev : MutOk G oRev rReverse := fun {F H a d d' res ds vs Q} nf c rs e k => by
  unfold oRev at e
  split at e
  · cases e
    cases c with
    | lst h r =>
      cases rs
      exact ⟨a, _, rfl, rfl, h, k _ _ _ h True.intro (.lst upd_same (r.mono (fun _ h => h) (keeps_put nf)).reverse) .non⟩
  · cases e

/-! ### list.extend -/
def sExt (i : Nat) (f : En → R Opd) : En → R Opd := fun ρ => match ρ[i]? with
  | some (some ⟨.own, .lst _⟩) => (sArgs [f] ρ).bind fun os ρ1 => match ders os ρ1 with
      | some [.lst zs] => match ρ1[i]? with
        | some (some ⟨.own, .lst xs⟩) => if xs.length + zs.length ≤ sizeLine then .ok (.v false .non) (ρ1.set i (some ⟨.own, .lst (xs ++ zs)⟩)) else .stuck
        | _ => .stuck
      | _ => .stuck
  | _ => .stuck
theorem Ra.lstH {F : AS} {H : Hp} {xs : List D} {v : V} (r : Ra G F H (.lst xs) v) : ∃ a vs, v = .ref a ∧ H a = some (.lst vs) ∧ Reps G F H xs vs := by
  rcases r with r | ⟨a, e, c⟩
  · cases r with
    | lst f h r => exact ⟨_, _, rfl, h, r⟩
  · cases c with
    | lst h r => exact ⟨_, _, e, h, r⟩
theorem je_ext {i : Nat} {x : Str} (hK : X.K = G.K) (hN : X.N[i]? = some x) (hv : Vis X.env.scope x) (hd : (x == ("__debug__" : Str)) = false) (hcd : (x == ("__classdict__" : Str)) = false)
    (ha : PA X [e] (tA G Z E (sArgs [f]))) (hpa : [e].all plainArg = true) (hbase : attributeBase (.Name x p2) "extend" X.env (eval (.Name x p2) X.env) = eval (.Name x p2) X.env) (hline : (apos.endLine == cpos.line) = true) :
    PE X (.Call (.Attribute (.Name x p2) "extend" apos) [e] [] cpos) (tE G Z E (sExt i f)) := by
  refine (pe_bm PySem.F.plainAttrs_list PySem.F.slot_list_extend PySem.F.type_list_extend mt_extend (pe_var hN hv hd hcd) ha hbase (plainArgs_bm hpa (by simp)) hline (plainArg_eq (by simp only [List.all_cons, Bool.and_eq_true] at hpa; exact hpa.1)) rfl).imp fun σ H Q ⟨F, M, ρ, t, p⟩ => ?_
  unfold sExt at p
  split at p
  · rename_i ys h0
    obtain ⟨v, es, a, ev, hm, c⟩ := t.slot i _ h0
    subst ev
    refine ⟨_, es, by rw [hK]; exact isLst_ty (d := .lst ys) rfl c, ?_⟩
    refine tA_use t p fun os ρ1 F1 M1 H1 vs s1 a1 q => ?_
    split at q
    · rename_i zs e1
      split at q
      · rename_i xs e2
        split at q
        · rename_i hz
          have ra := a1.read e1
          obtain ⟨w, e3, a', ea, hm1, c1⟩ := a1.st.slot i _ e2
          rw [es] at e3
          cases e3
          cases ea
          obtain ⟨w2, rfl, r1⟩ := Ras.inv1 ra
          obtain ⟨b, ws, rfl, hb, rs⟩ := r1.lstH
          have nf : ¬ F1 a := fun z => a1.st.dj a z hm1
          cases c1 with
          | lst h r =>
            have c' : Con G F1 (upd H1 a (.lst (_ ++ ws))) (.lst (xs ++ zs)) a := .lst upd_same ((r.mono (fun _ h => h) (keeps_put nf)).append (rs.mono (fun _ h => h) (keeps_put nf)))
            refine ⟨a, b, _, ws, rfl, rfl, h, hb, by rw [← r.length, ← rs.length]; exact hz, ?_⟩
            obtain ⟨s, t'⟩ := a1.st.store (T := G.T) e2 es hm1 h True.intro c' rfl
            exact q F1 M1 _ s _ (t'.res .non)
        · exact q.elim
      · exact q.elim
    · exact q.elim
  · exact p.elim
end
end Ev

namespace Ev
open PySem PySem.Spec PyProof.Rows L2

/-! ## statements -/
inductive Rs where
  | nx (ρ : En) | rt (o : Opd) (ρ : En) | bk (ρ : En) | ct (ρ : En)
  | exc (c : Nat) (as : List (Str × D))
  | stuck
def Rs.seq (r : Rs) (k : En → Rs) : Rs := match r with
  | .nx ρ => k ρ
  | r => r
def R.toS {α : Type} (r : R α) (k : α → En → Rs) : Rs := match r with
  | .ok a ρ => k a ρ
  | .exc c as => .exc c as
  | .stuck => .stuck
abbrev SS := En → Rs
def ExcP (G : Ge) (E : XK) (c : Nat) (as : List (Str × D)) (F M : AS) (H : Hp) : Prop :=
  ∀ (F' M' : AS) (H' : Hp) (ks : List Str) (ds : List D) (ws : List (Str × V)) (vs : List V) (dd : Addr), Stp G.T F M H F' M' H' → LamX.Tabs G.T H' → as = ks.zip ds → ws = ks.zip vs → ks.length = ds.length → H' dd = some (.xd ws) → H dd = none → F' dd → (∀ a, F' a → ¬ M' a) → (∀ a, F' a → H' a ≠ none) → (∀ a, M' a → H' a ≠ none) → (∀ a vs, H' a = some (.tup vs) → F' a) → Reps G F' H' ds vs → E (.ref (G.cls c)) (some dd) H'
def PostS (G : Ge) (Z : Zn) (E : XK) (r : Rs) (F M : AS) (H : Hp) (D : Ends) : Prop := match r with
  | .nx ρ => ∀ F' M' H' σ', Stp G.T F M H F' M' H' → St G Z F' M' ρ σ' H' → D.nx σ' H'
  | .rt o ρ => ∀ F' M' H' σ' v, Stp G.T F M H F' M' H' → StA G Z F' M' ρ σ' [o] [v] H' → D.rt v H'
  | .bk ρ => ∀ F' M' H' σ', Stp G.T F M H F' M' H' → St G Z F' M' ρ σ' H' → D.bk σ' H'
  | .ct ρ => ∀ F' M' H' σ', Stp G.T F M H F' M' H' → St G Z F' M' ρ σ' H' → D.ct σ' H'
  | .exc c as => ExcP G E c as F M H
  | .stuck => False
def tS (G : Ge) (Z : Zn) (E : XK) (s : SS) : TS := fun D σ H => ∃ F M ρ, St G Z F M ρ σ H ∧ PostS G Z E (s ρ) F M H D

section
variable {G : Ge} {Z : Zn} {F M F1 M1 : AS} {ρ : En} {σ : L2.St} {H H1 : Hp} {E : XK}
theorem ExcP.step {c : Nat} {as : List (Str × D)} (s : Stp G.T F M H F1 M1 H1) (dj : ∀ a, F1 a → ¬ M1 a) (p : ExcP G E c as F M H) : ExcP G E c as F1 M1 H1 := by
  intro F2 M2 H2 ks ds ws vs dd s2 t e1 e2 l hx hn fx d1 d2 d3 d4 r
  exact p F2 M2 H2 ks ds ws vs dd (s.trans dj s2) t e1 e2 l hx (Classical.byContradiction fun z => s.dom dd z hn) fx d1 d2 d3 d4 r
theorem PostS.step {r : Rs} {D : Ends} (s : Stp G.T F M H F1 M1 H1) (dj : ∀ a, F1 a → ¬ M1 a) (p : PostS G Z E r F M H D) : PostS G Z E r F1 M1 H1 D := by
  cases r with
  | nx ρ => exact fun F2 M2 H2 σ2 s2 t => p F2 M2 H2 σ2 (s.trans dj s2) t
  | rt o ρ => exact fun F2 M2 H2 σ2 v s2 t => p F2 M2 H2 σ2 v (s.trans dj s2) t
  | bk ρ => exact fun F2 M2 H2 σ2 s2 t => p F2 M2 H2 σ2 (s.trans dj s2) t
  | ct ρ => exact fun F2 M2 H2 σ2 s2 t => p F2 M2 H2 σ2 (s.trans dj s2) t
  | exc c as => exact ExcP.step s dj p
  | stuck => exact p
theorem Post.step {α : Type} {r : R α} {k : α → En → AS → AS → Hp → Prop} (s : Stp G.T F M H F1 M1 H1) (dj : ∀ a, F1 a → ¬ M1 a) (p : Post G E r F M H k) : Post G E r F1 M1 H1 k := by
  cases r with
  | ok a ρ => exact fun F2 M2 H2 s2 => p F2 M2 H2 (s.trans dj s2)
  | exc c as => exact ExcP.step s dj p
  | stuck => exact p
theorem PostS.seq {r : Rs} {k : SS} {D : Ends} (p : PostS G Z E (r.seq k) F M H D) : PostS G Z E r F M H { D with nx := tS G Z E k D } := by
  cases r with
  | nx ρ => exact fun F2 M2 H2 σ2 s2 t => ⟨F2, M2, ρ, t, PostS.step s2 t.dj p⟩
  | rt o ρ => exact p
  | bk ρ => exact p
  | ct ρ => exact p
  | exc c as => exact p
  | stuck => exact p
/-- a statement that begins with an expression -/
theorem PostS.bind {α : Type} {r : R α} {k : α → En → Rs} {D : Ends} (p : PostS G Z E (r.toS k) F M H D) : Post G E r F M H fun a ρ' F' M' H' => (∀ a, F' a → ¬ M' a) → PostS G Z E (k a ρ') F' M' H' D := by
  cases r with
  | ok a ρ' => exact fun F' M' H' s dj => PostS.step s dj p
  | exc c as => exact p
  | stuck => exact p
theorem tE_useS {f : En → R Opd} {g : Opd → En → Rs} {D : Ends} {Q : VK} (t : St G Z F M ρ σ H) (p : PostS G Z E ((f ρ).toS g) F M H D)
    (h : ∀ o ρ1 F1 M1 H1 v, Stp G.T F M H F1 M1 H1 → StA G Z F1 M1 ρ1 σ [o] [v] H1 → PostS G Z E (g o ρ1) F1 M1 H1 D → Q v H1) : tE G Z E f σ H Q :=
  ⟨F, M, ρ, t, p.bind.mono fun o ρ1 F1 M1 H1 s q v a => h o ρ1 F1 M1 H1 v s a (q a.st.dj)⟩
theorem tT_useS {f : STe} {g : Bool → En → Rs} {D : Ends} {Q : Bool → Hp → Prop} (t : St G Z F M ρ σ H) (p : PostS G Z E ((f ρ).toS g) F M H D)
    (h : ∀ b ρ1 F1 M1 H1, Stp G.T F M H F1 M1 H1 → St G Z F1 M1 ρ1 σ H1 → PostS G Z E (g b ρ1) F1 M1 H1 D → Q b H1) : tT G Z E f σ H Q :=
  ⟨F, M, ρ, t, p.bind.mono fun b ρ1 F1 M1 H1 s q a => h b ρ1 F1 M1 H1 s a (q a.dj)⟩
theorem tA_useS {fs : List (En → R Opd)} {g : List Opd → En → Rs} {D : Ends} {Q : List V → Hp → Prop} (t : St G Z F M ρ σ H) (p : PostS G Z E ((sArgs fs ρ).toS g) F M H D)
    (h : ∀ os ρ1 F1 M1 H1 vs, Stp G.T F M H F1 M1 H1 → StA G Z F1 M1 ρ1 σ os vs H1 → PostS G Z E (g os ρ1) F1 M1 H1 D → Q vs H1) : tA G Z E (sArgs fs) σ H Q :=
  ⟨F, M, ρ, t, p.bind.mono fun os ρ1 F1 M1 H1 s q vs a => h os ρ1 F1 M1 H1 vs s a (q a.st.dj)⟩

/-! ### binding -/
/-- slot i gets what an operand is -/
def bindS (i : Nat) (o : Opd) (ρ : En) : Option En := match o with
  | .v b d => some (ρ.set i (some ⟨if b then .own else .frz, d⟩))
  | .ali j => match frz1 (.ali j) ρ with
    | some (d, ρ1) => some (ρ1.set i (some ⟨.frz, d⟩))
    | none => none
theorem St.setFrz {i : Nat} {d : D} {v : V} (t : St G Z F M ρ σ H) (np : ∀ p ∈ Z.par, p.1 ≠ i) (r : Rep G F H d v) : St G Z F M (ρ.set i (some ⟨.frz, d⟩)) (σ.set i (some v)) H := by
  refine ⟨by simpa using t.len, fun j x ej => ?_, fun j k x y n ej ek hx hy => ?_, t.dj, t.fd, t.md, t.tab, fun p hp => ?_, t.ld, t.tf⟩
  · by_cases q : j = i
    · subst q
      have hl : j < ρ.length := by
        have := (List.getElem?_eq_some_iff.mp ej).1
        simpa using this
      rw [List.getElem?_set_self hl] at ej
      cases ej
      exact ⟨v, by rw [List.getElem?_set_self (by rw [← t.len]; exact hl)], r⟩
    · rw [List.getElem?_set_ne (Ne.symm q)] at ej ⊢
      exact t.slot j x ej
  · have old : ∀ (l : Nat) (z : Val), (ρ.set i (some ⟨.frz, d⟩))[l]? = some (some z) → z.m ≠ .frz → l ≠ i ∧ ρ[l]? = some (some z) := fun l z el hz => by
      by_cases q : l = i
      · subst q
        have hl : l < ρ.length := by
          have := (List.getElem?_eq_some_iff.mp el).1
          simpa using this
        rw [List.getElem?_set_self hl] at el
        cases el
        exact absurd rfl hz
      · rw [List.getElem?_set_ne (Ne.symm q)] at el
        exact ⟨q, el⟩
    obtain ⟨q1, ex⟩ := old j x ej hx
    obtain ⟨q2, ey⟩ := old k y ek hy
    rw [List.getElem?_set_ne (Ne.symm q1), List.getElem?_set_ne (Ne.symm q2)]
    exact t.apart j k x y n ex ey hx hy
  · rw [List.getElem?_set_ne (Ne.symm (np p hp))]
    exact t.par p hp
theorem St.setOwn {i : Nat} {d : D} {a : Addr} (t : St G Z F M ρ σ H) (np : ∀ p ∈ Z.par, p.1 ≠ i) (m : M a) (fr : Fresh ρ σ a) (c : Con G F H d a) : St G Z F M (ρ.set i (some ⟨.own, d⟩)) (σ.set i (some (.ref a))) H := by
  refine ⟨by simpa using t.len, fun j x ej => ?_, fun j k x y n ej ek hx hy => ?_, t.dj, t.fd, t.md, t.tab, fun p hp => ?_, t.ld, t.tf⟩
  · by_cases q : j = i
    · subst q
      have hl : j < ρ.length := by
        have := (List.getElem?_eq_some_iff.mp ej).1
        simpa using this
      rw [List.getElem?_set_self hl] at ej
      cases ej
      exact ⟨.ref a, by rw [List.getElem?_set_self (by rw [← t.len]; exact hl)], a, rfl, m, c⟩
    · rw [List.getElem?_set_ne (Ne.symm q)] at ej ⊢
      exact t.slot j x ej
  · have hσ : ∀ l, (ρ.set i (some ⟨.own, d⟩))[l]? ≠ none → l = i → (σ.set i (some (V.ref a)))[l]? = some (some (.ref a)) := fun l hl e => by
      subst e
      rw [List.getElem?_set_self]
      rw [← t.len]
      simpa using hl
    by_cases q1 : j = i
    · by_cases q2 : k = i
      · exact absurd (q1.trans q2.symm) n
      · rw [List.getElem?_set_ne (Ne.symm q2)] at ek ⊢
        rw [hσ j (by rw [ej]; simp) q1]
        exact fun z => fr k y ek hy z.symm
    · rw [List.getElem?_set_ne (Ne.symm q1)] at ej ⊢
      by_cases q2 : k = i
      · rw [hσ k (by rw [ek]; simp) q2]
        exact fr j x ej hx
      · rw [List.getElem?_set_ne (Ne.symm q2)] at ek ⊢
        exact t.apart j k x y n ej ek hx hy
  · rw [List.getElem?_set_ne (Ne.symm (np p hp))]
    exact t.par p hp
theorem StA.bindS {i : Nat} {o : Opd} {v : V} {ρ1 : En} (t : StA G Z F M ρ σ [o] [v] H) (np : ∀ p ∈ Z.par, p.1 ≠ i) (e : Ev.bindS i o ρ = some ρ1) : ∃ F1 M1, Stp G.T F M H F1 M1 H ∧ St G Z F1 M1 ρ1 (σ.set i (some v)) H := by
  cases o with
  | v b d =>
    cases e
    obtain ⟨w, r, e0, w0, h0, _⟩ := t.wt
    cases e0
    cases b with
    | false => exact ⟨F, M, Stp.refl, t.st.setFrz np w0⟩
    | true =>
      obtain ⟨a, ea, hm, c⟩ := w0
      subst ea
      exact ⟨F, M, Stp.refl, t.st.setOwn np hm (h0 a rfl).1 c⟩
  | ali j =>
    unfold Ev.bindS at e
    dsimp only at e
    split at e
    · rename_i d ρ2 e2
      cases e
      obtain ⟨F1, M1, s, t1, r⟩ := t.frz1 e2
      exact ⟨F1, M1, s, t1.st.setFrz np r⟩
    · cases e
end

section
variable {X : Cx} {G : Ge} {Z : Zn} {E : XK} {e a b : Expr} {es : List Expr} {f g h : En → R Opd} {fs : List (En → R Opd)} {pos p2 apos cpos : Pos} {st : Stmt} {sts rest : List Stmt} {s s1 s2 : SS}
def sNil : SS := fun ρ => .nx ρ
def sSeq (s1 s2 : SS) : SS := fun ρ => (s1 ρ).seq s2
theorem jss_nil : PSs X [] (tS G Z E sNil) := pss_nil.imp fun D σ H ⟨F, M, ρ, t, p⟩ => p F M H σ Stp.refl t
theorem jss_cons (h1 : PS X st (tS G Z E s1)) (h2 : PSs X rest (tS G Z E s2)) : PSs X (st :: rest) (tS G Z E (sSeq s1 s2)) :=
  (pss_cons h1 h2).imp fun D σ H ⟨F, M, ρ, t, p⟩ => ⟨F, M, ρ, t, PostS.seq p⟩
theorem js_pass : PS X (.Pass pos) (tS G Z E sNil) := ps_pass.imp fun D σ H ⟨F, M, ρ, t, p⟩ => p F M H σ Stp.refl t
theorem js_doc {x : Str} {j : Nat} {pos' : Pos} : PS X (.Expr (.Constant (.str x) j pos) pos') (tS G Z E sNil) := ps_doc.imp fun D σ H ⟨F, M, ρ, t, p⟩ => p F M H σ Stp.refl t
theorem js_break : PS X (.Break pos) (tS G Z E (fun ρ => .bk ρ)) := ps_break.imp fun D σ H ⟨F, M, ρ, t, p⟩ => p F M H σ Stp.refl t
theorem js_cont : PS X (.Continue pos) (tS G Z E (fun ρ => .ct ρ)) := ps_continue.imp fun D σ H ⟨F, M, ρ, t, p⟩ => p F M H σ Stp.refl t
def sDrop (f : En → R Opd) : SS := fun ρ => (f ρ).toS fun _ ρ1 => .nx ρ1
theorem js_expr (he : PE X e (tE G Z E f)) (hs : swapsWith e none pos.line X.env = pure false) : PS X (.Expr e pos) (tS G Z E (sDrop f)) :=
  (ps_expr he hs).imp fun D σ H ⟨F, M, ρ, t, p⟩ => tE_useS t p fun o ρ1 F1 M1 H1 v s a q => q F1 M1 H1 σ Stp.refl a.st
def sRet (f : En → R Opd) : SS := fun ρ => (f ρ).toS fun o ρ1 => .rt o ρ1
theorem js_ret (he : PE X e (tE G Z E f)) : PS X (.Return (some e) pos) (tS G Z E (sRet f)) :=
  (ps_ret he).imp fun D σ H ⟨F, M, ρ, t, p⟩ => tE_useS t p fun o ρ1 F1 M1 H1 v s a q => q F1 M1 H1 σ v Stp.refl a
theorem js_retN : PS X (.Return none pos) (tS G Z E (fun ρ => .rt (.v false .non) ρ)) :=
  ps_retN.imp fun D σ H ⟨F, M, ρ, t, p⟩ => p F M H σ _ Stp.refl (t.res .non)
def sIf (c : STe) (s1 s2 : SS) : SS := fun ρ => (c ρ).toS fun b ρ1 => if b then s1 ρ1 else s2 ρ1
theorem js_if {c : STe} {x y : List Stmt} (hc : PT X e (tT G Z E c)) (ha : PSs X x (tS G Z E s1)) (hb : PSs X y (tS G Z E s2)) : PS X (.If e x y pos) (tS G Z E (sIf c s1 s2)) :=
  (ps_if hc ha hb).imp fun D σ H ⟨F, M, ρ, t, p⟩ => tT_useS t p fun b ρ1 F1 M1 H1 s t1 q => by
    cases b with
    | true => exact ⟨F1, M1, ρ1, t1, q⟩
    | false => exact ⟨F1, M1, ρ1, t1, q⟩
def sSet (i : Nat) (f : En → R Opd) : SS := fun ρ => (f ρ).toS fun o ρ1 => match bindS i o ρ1 with
  | some ρ2 => .nx ρ2
  | none => .stuck
theorem sSet_use {i : Nat} {σ : L2.St} {H : Hp} {D : Ends} (np : ∀ p ∈ Z.par, p.1 ≠ i) (h : tS G Z E (sSet i f) D σ H) : tE G Z E f σ H fun v H1 => D.nx (σ.set i (some v)) H1 := by
  obtain ⟨F, M, ρ, t, p⟩ := h
  refine tE_useS t p fun o ρ1 F1 M1 H1 v s a q => ?_
  split at q
  · rename_i ρ2 e2
    obtain ⟨F2, M2, s2, t2⟩ := a.bindS np e2
    exact q F2 M2 H1 _ s2 t2
  · exact q.elim
theorem js_set {i : Nat} {x : Str} (hN : X.N.Nodup) (hi : X.N[i]? = some x) (hx : Loc X.env.scope x) (np : ∀ p ∈ Z.par, p.1 ≠ i) (he : PE X e (tE G Z E f)) (hs : swapsWith e (some (.Name x p2)) pos.line X.env = pure false) (hf : X.fn x = true ∨ X.env.scope.names.lookup x = some .local) :
    PS X (.Assign [.Name x p2] e pos) (tS G Z E (sSet i f)) :=
  (ps_set hN hi hx he hs hf).imp fun D σ H h => sSet_use np h
def ipTab : Operator → Option (Int → Int → Int)
  | .Add => some (· + ·)
  | .Sub => some (· - ·)
  | _ => none
/-! `x += e` for whole numbers -/
def sAug (i : Nat) (g : Int → Int → Int) (f : En → R Opd) : SS := fun ρ => match ρ[i]? with
  | some (some ⟨.frz, .int j⟩) => (f ρ).toS fun o ρ1 => match o with
    | .v _ (.int k) => .nx (ρ1.set i (some ⟨.frz, .int (g j k)⟩))
    | _ => .stuck
  | _ => .stuck
theorem js_aug {i : Nat} {x : Str} {op : Operator} {gf : Int → Int → Int} (hN : X.N.Nodup) (hi : X.N[i]? = some x) (hx : Loc X.env.scope x) (np : ∀ p ∈ Z.par, p.1 ≠ i) (he : PE X e (tE G Z E f)) (ho : PIp X op (ipI gf)) (hf : X.fn x = true ∨ X.env.scope.names.lookup x = some .local) :
    PS X (.AugAssign (.Name x p2) op e pos) (tS G Z E (sAug i gf f)) :=
  (ps_aug hN hi hx he ho hf).imp fun D σ H ⟨F, M, ρ, t, p⟩ => by
    unfold sAug at p
    split at p
    · rename_i j hj
      obtain ⟨v, es, r⟩ := t.slot i _ hj
      have ev : v = .int j := by cases (show Rep G F H (.int j) v from r); rfl
      subst ev
      refine ⟨_, es, tE_useS t p fun o ρ1 F1 M1 H1 w s a q => ?_⟩
      split at q
      · rename_i b k
        have ew := (a.read1 (o := .v b (.int k)) rfl).int
        exact ⟨j, k, rfl, ew, q F1 M1 H1 _ Stp.refl (a.st.setFrz np (.int _))⟩
      · exact q.elim
    · exact p.elim

/-! ### o[i] = v -/
def oSetL : D → List D → Option (D × D)
  | .lst xs, [.int k, y] => match ixN xs.length k with
    | some j => some (.lst (xs.set j y), .non)
    | none => none
  | .dK kvs, [k, y] => match keyOf k with
    | some k => if kvs.length < sizeLine then some (.dK (pk kvs k y), .non) else none
    | none => none
  | .dT kvs, [k, y] => match tkeyOf k with
    | some k => if kvs.length < sizeLine then some (.dT (pk kvs k y), .non) else none
    | none => none
  | _, _ => none
def rSetAll : TSet := fun o i v H Q => rSetL o i v H Q ∨ rSetD o i v H Q
theorem set_all (hu : X.A.units + 1 < cLine) : PSet X rSetAll := fun pins s σ H o i v ov iv u Q I r1 r2 r3 h => h.elim (set_list pins s σ H o i v ov iv u Q I r1 r2 r3) (set_dict hu pins s σ H o i v ov iv u Q I r1 r2 r3)
theorem ok_setAll {F : AS} {H : Hp} {a : Addr} {d d' res dk dy : D} {w y : V} {Q : Hp → Prop} (nf : ¬ F a) (c : Con G F H d a) (rk : Ra G F H dk w) (ry : Rep G F H dy y) (e : oSetL d [dk, dy] = some (d', res))
    (k : ∀ u v, H a = some u → Plain u → Con G F (upd H a v) d' a → Q (upd H a v)) : rSetAll (.ref a) w y H Q := by
  have km : ∀ {v : HO}, Keeps F H (upd H a v) := keeps_put nf
  unfold oSetL at e
  split at e
  · rename_i xs k' y' heq
    cases heq
    split at e
    · rename_i j hj
      cases e
      cases c with
      | lst h r =>
        exact .inl ⟨a, _, _, j, rfl, rk.int, h, by rw [← r.length]; exact hj, k _ _ h True.intro (.lst upd_same ((r.mono (fun _ h => h) km).set j (ry.mono (fun _ h => h) km)))⟩
    · cases e
  · rename_i kvs k' y' heq
    cases heq
    split at e
    · rename_i kk hk
      split at e
      · rename_i hz
        cases e
        obtain ⟨ws, h, p⟩ := c.atK
        have p' : Prs G F (upd H a (.dK (putK ws kk y))) kvs ws := by
          obtain ⟨ks, ds, vs, rfl, rfl, l, r⟩ := p.to_zip
          exact Prs.of_zip l (r.mono (fun _ h => h) km)
        exact .inr ⟨a, _, rfl, .inl ⟨ws, kk, h, rk.key hk, by rw [← p.length]; exact hz, rfl⟩, k _ _ h True.intro (Con.mkK upd_same (p'.put kk (ry.mono (fun _ h => h) km)))⟩
      · cases e
    · cases e
  · rename_i kvs k' y' heq
    cases heq
    split at e
    · rename_i kk hk
      split at e
      · rename_i hz
        cases e
        obtain ⟨ws, h, p⟩ := c.atT
        obtain ⟨b, rfl, hb⟩ := rk.tkey hk
        have p' : Prs G F (upd H a (.dT (putK ws kk y))) kvs ws := by
          obtain ⟨ks, ds, vs, rfl, rfl, l, r⟩ := p.to_zip
          exact Prs.of_zip l (r.mono (fun _ h => h) km)
        exact .inr ⟨a, _, rfl, .inr ⟨ws, kk, b, h, rfl, hb, by rw [← p.length]; exact hz, rfl⟩, k _ _ h True.intro (Con.mkT upd_same (p'.put kk (ry.mono (fun _ h => h) km)))⟩
      · cases e
    · cases e
  · cases e
/-- x[k] = v, the value first -/
def sPut (i : Nat) (fv fk : En → R Opd) : SS := fun ρ => match ρ[i]? with
 | some (some _) => (sArgs [fv, fk] ρ).toS fun os ρ1 => match os with
  | [ov, ok] => match der ok ρ1 with
    | some dk => match frz1 ov ρ1 with
      | some (dv, ρ2) => match ρ2[i]? with
        | some (some ⟨.own, d⟩) => match oSetL d [dk, dv] with
          | some (d', _) => .nx (ρ2.set i (some ⟨.own, d'⟩))
          | none => .stuck
        | _ => .stuck
      | none => .stuck
    | none => .stuck
  | _ => .stuck
 | _ => .stuck
theorem sPut_use {i : Nat} {fv fk : En → R Opd} {σ : L2.St} {H : Hp} {D : Ends} (h : tS G Z E (sPut i fv fk) D σ H) :
    tE G Z E fv σ H fun y H1 => tVar i σ H1 fun o H2 => tE G Z E fk σ H2 fun w H3 => rSetAll o w y H3 fun H4 => D.nx σ H4 := by
  obtain ⟨F, M, ρ, t, p⟩ := h
  unfold sPut at p
  split at p
  case h_2 => exact p.elim
  rename_i z0 hz0
  obtain ⟨x, hx, _⟩ := t.slot i _ hz0
  have h2 : tA G Z E (sArgs [fv, fk]) σ H fun vs H3 => ∃ y w x, vs = [y, w] ∧ σ[i]? = some (some x) ∧ rSetAll x w y H3 fun H4 => D.nx σ H4 := by
    refine tA_useS t p fun os ρ1 F1 M1 H1 vs s a q => ?_
    split at q
    · rename_i ov ok
      split at q
      · rename_i dk hk
        split at q
        · rename_i dv ρ2 hv
          split at q
          · rename_i d hd
            split at q
            · rename_i d' res hop
              obtain ⟨y, r1, rfl, w1, h1, w2⟩ := id a.wt
              obtain ⟨w, r2, rfl, w3, _, w4⟩ := w2
              cases w4
              have rk : Ra G F1 H1 dk w := a.st.derRa w3 hk
              obtain ⟨F2, M2, s2, t2, rv⟩ := a.frz1 hv
              obtain ⟨x, ex, a', ea, hm, c⟩ := t2.st.slot i _ hd
              subst ea
              have rk2 : Ra G F2 H1 dk w := by
                rcases rk with z | ⟨b, e, z⟩
                · exact .inl (z.mono s2.ext (fun _ _ _ h _ => h))
                · exact .inr ⟨b, e, z.mono s2.ext (fun _ _ _ h _ => h) rfl⟩
              refine ⟨y, w, _, rfl, ex, ok_setAll (t2.st.dj a' · hm) c rk2 rv hop fun u v hu pu c' => ?_⟩
              obtain ⟨s3, t3⟩ := t2.st.store (T := G.T) hd ex hm hu pu c' rfl
              exact q F2 M2 _ σ (s2.trans t2.st.dj s3) t3
            · exact q.elim
          · exact q.elim
        · exact q.elim
      · exact q.elim
    · exact q.elim
  refine tE_mono (tA_cons h2) fun y H1 h3 => ?_
  obtain ⟨F1, M1, ρ1, t1, p1⟩ := tA_cons h3
  refine ⟨x, hx, F1, M1, ρ1, t1, p1.mono fun o ρ' F' M' H' s k v w => ?_⟩
  obtain ⟨y', w', x', e, ex, q⟩ := tA_nil (k v w)
  cases e
  rw [hx] at ex
  cases ex
  exact q
theorem js_put {i : Nat} {x : Str} {k : Expr} {fv fk : En → R Opd} {pos' : Pos} (hu : X.A.units + 1 < cLine) (hN : X.N[i]? = some x) (hv : Vis X.env.scope x) (hd : (x == ("__debug__" : Str)) = false) (hcd : (x == ("__classdict__" : Str)) = false) (he : PE X e (tE G Z E fv)) (hk : PE X k (tE G Z E fk))
    (hs : swapsWithSole [.Subscript (.Name x p2) k pos'] e pos.line X.env = pure false) (hw : swappedStores [.Subscript (.Name x p2) k pos'] e X.env = pure none)
    (ha : ∀ v, assign (.Subscript (.Name x p2) k pos') X.env v = (do
      let ov ← holding [v] (eval (.Name x p2) X.env)
      let iv ← holding [v, ov] (eval k X.env)
      standAt pos'
      holding [v, ov, iv] (setItem ov iv v)
      release [v, ov, iv] [])) : PS X (.Assign [.Subscript (.Name x p2) k pos'] e pos) (tS G Z E (sPut i fv fk)) :=
  (ps_asg he (pg_sub (pe_var hN hv hd hcd) hk (set_all hu) ha) hs hw).imp fun D σ H h => tE_mono (sPut_use h) fun y H1 ⟨v, ev, q⟩ => ⟨v, ev, tE_mono q fun w H2 q2 => q2⟩
end
end Ev

namespace Ev
open PySem PySem.Spec PyProof.Rows L2

/-! ## what is walked -/
/-- J gives the items, whatever is done meanwhile -/
def Wk (G : Ge) (F M : AS) (H : Hp) (J : It) (xs : List D) : Prop := ∀ Z F' M' ρ σ H', Stp G.T F M H F' M' H' → St G Z F' M' ρ σ H' → ∀ i : Nat, (xs.length ≤ i → J.stop i H') ∧
  ∀ x, xs[i]? = some x → J.go i H' ∧ ∀ v H'', J.yld i H' v H'' → (∀ b, H' b ≠ none → H'' b = H' b) ∧ ∃ F'' M'', Stp G.T F' M' H' F'' M'' H'' ∧ St G Z F'' M'' ρ σ H'' ∧ Rep G F'' H'' x v
abbrev SI := En → R (List D)
def tI (G : Ge) (Z : Zn) (E : XK) (w : SI) : TI := fun σ H Q => ∃ F M ρ, St G Z F M ρ σ H ∧ Post G E (w ρ) F M H fun xs ρ' F' M' H' => ∀ J, St G Z F' M' ρ' σ H' → Wk G F' M' H' J xs → Q J H'
theorem _root_.L2.PI.imp {X : Cx} {tg l : Expr} {w w' : TI} (h : PI X tg l w) (i : ∀ σ H Q, w' σ H Q → w σ H Q) : PI X tg l w' := ⟨fun pins s σ H R I hq => h.run pins s σ H R I (i σ H R hq)⟩

section
variable {X : Cx} {G : Ge} {Z : Zn} {E : XK} {e a b c tg : Expr} {es : List Expr} {f g h : En → R Opd} {fs : List (En → R Opd)} {pos p p2 : Pos}
def iSq (K : PySem.W.Frag) (tl : TE) : TI := fun σ H R => tl σ H fun x H1 => ∃ a, x = .ref a ∧ ((∃ xs, SqL K H1 a xs ∧ R (Itl K a) H1) ∨ ∃ xs, SqT K H1 a xs ∧ R (Itt K a) H1)
theorem pi_sq {l : Expr} {tl : TE} (hl : PE X l tl) : PI X tg l (iSq X.K tl) := by
  refine ⟨fun pins s σ H R I h => ?_⟩
  refine thn (hl.run pins s σ H _ I h) fun v s1 ⟨x, H1, I1, r1, q1⟩ => ?_
  obtain ⟨a, e, q⟩ := q1
  subst e
  cases r1
  rcases q with ⟨xs, hq, q⟩ | ⟨xs, hq, q⟩
  · obtain ⟨its, rv, p, hz⟩ := I1.list hq
    refine wpAny_pyIter_list p.isList ?_
    refine ⟨s1.heap.objs.size, [s1.heap.objs.size], _, _, H1, rfl, I1.kept (t' := s1.toks) fun b o e => Heap.get?_push_of_some _ e, turn_list a _, ⟨_, Heap.get?_push_size _ rfl, rfl, rfl⟩, fun b hb => ?_, q⟩
    have e : b = s1.heap.objs.size := by simpa using hb
    subst e
    exact I1.fpOk (Nat.le_refl _) (I1.hok.fresh (Nat.le_refl _))
  · obtain ⟨its, rv, p, hz⟩ := I1.tuple hq
    refine wpAny_pyIter_tuple (show s1.heap.IsTuple a its.toArray from p) ?_
    refine ⟨s1.heap.objs.size, [s1.heap.objs.size], _, _, H1, rfl, I1.kept (t' := s1.toks) fun b o e => Heap.get?_push_of_some _ e, turn_tuple a _, ⟨_, Heap.get?_push_size _ rfl, rfl, rfl⟩, fun b hb => ?_, q⟩
    have e : b = s1.heap.objs.size := by simpa using hb
    subst e
    exact I1.fpOk (Nat.le_refl _) (I1.hok.fresh (Nat.le_refl _))
/-- shared sequences: lists, tuples -/
def SeqI (G : Ge) (H : Hp) (lst : Bool) (a : Addr) (vs : List V) : Prop := if lst then SqL G.K H a vs else SqT G.K H a vs
def seqB : D → Option (Bool × List D)
  | .lst xs => some (true, xs)
  | .scr ns => some (true, ns.map .int)
  | .tup xs => some (false, xs)
  | .ktp xs => some (false, xs)
  | _ => none
theorem Rep.seqB {F : AS} {H : Hp} {d : D} {v : V} {k : Bool} {xs : List D} (r : Rep G F H d v) (e : Ev.seqB d = some (k, xs)) : ∃ a vs, v = .ref a ∧ SeqI G H k a vs ∧ Reps G F H xs vs := by
  cases d with
  | lst ys =>
    cases e
    obtain ⟨a, vs, e1, s, rs⟩ := Ra.lst (.inl r)
    exact ⟨a, vs, e1, s, rs⟩
  | tup ys =>
    cases e
    obtain ⟨a, vs, e1, s, rs⟩ := r.seqT
    exact ⟨a, vs, e1, s, rs⟩
  | ktp ys =>
    cases e
    obtain ⟨a, vs, e1, s, rs⟩ := r.seqK
    exact ⟨a, vs, e1, s, rs⟩
  | scr ns =>
    cases e
    obtain ⟨a, e1, s⟩ := Ra.scr (.inl r)
    exact ⟨a, _, e1, s, Reps.ints ns⟩
  | _ => cases e
theorem SeqI.inj {pins : List (Addr × Obj)} {σ : L2.St} {H : Hp} {s : Shared} : True := trivial
def wSq (f : En → R Opd) : SI := fun ρ => (f ρ).bind fun o ρ1 => match frz1 o ρ1 with
  | some (d, ρ2) => match seqB d with
    | some (_, xs) => .ok xs ρ2
    | none => .stuck
  | none => .stuck
theorem seqWk {F M : AS} {H : Hp} {d : D} {a : Addr} {k : Bool} {xs : List D} (dj : ∀ a, F a → ¬ M a) (r : Rep G F H d (.ref a)) (e : seqB d = some (k, xs)) :
    Wk G F M H (if k then Itl G.K a else Itt G.K a) xs := by
  intro Z F' M' ρ σ H' s t i
  have r' : Rep G F' H' d (.ref a) := r.step dj s
  obtain ⟨a', vs, e1, sq, rs⟩ := r'.seqB e
  cases e1
  cases k with
  | true =>
    refine ⟨fun hl => ⟨vs, sq, by rw [← rs.length]; exact hl⟩, fun x hx => ?_⟩
    obtain ⟨v, h1, h2⟩ := rs.get hx
    refine ⟨⟨vs, v, sq, h1⟩, fun w H'' y => ?_⟩
    obtain ⟨e2, y⟩ := y
    subst e2
    have := y vs sq
    rw [h1] at this
    cases this
    exact ⟨fun _ _ => rfl, F', M', Stp.refl, t, h2⟩
  | false =>
    refine ⟨fun hl => ⟨vs, sq, by rw [← rs.length]; exact hl⟩, fun x hx => ?_⟩
    obtain ⟨v, h1, h2⟩ := rs.get hx
    refine ⟨⟨vs, v, sq, h1⟩, fun w H'' y => ?_⟩
    obtain ⟨e2, y⟩ := y
    subst e2
    have := y vs sq
    rw [h1] at this
    cases this
    exact ⟨fun _ _ => rfl, F', M', Stp.refl, t, h2⟩
theorem tE_useI {w : Opd → En → R (List D)} {R : It → Hp → Prop} {Q : VK} {σ : L2.St} {H : Hp} (hq : tI G Z E (fun ρ => (f ρ).bind w) σ H R)
    (h : ∀ {o ρ1 F1 M1 H1 v}, StA G Z F1 M1 ρ1 σ [o] [v] H1 → Post G E (w o ρ1) F1 M1 H1 (fun xs ρ' F' M' H' => ∀ J, St G Z F' M' ρ' σ H' → Wk G F' M' H' J xs → R J H') → Q v H1) : tE G Z E f σ H Q := by
  obtain ⟨F, M, ρ, t, p⟩ := hq
  exact tE_use t p fun o ρ1 F1 M1 H1 v s a q => h a q
theorem tA_useI {w : List Opd → En → R (List D)} {R : It → Hp → Prop} {Q : List V → Hp → Prop} {σ : L2.St} {H : Hp} (hq : tI G Z E (fun ρ => (sArgs fs ρ).bind w) σ H R)
    (h : ∀ {os ρ1 F1 M1 H1 vs}, StA G Z F1 M1 ρ1 σ os vs H1 → Post G E (w os ρ1) F1 M1 H1 (fun xs ρ' F' M' H' => ∀ J, St G Z F' M' ρ' σ H' → Wk G F' M' H' J xs → R J H') → Q vs H1) : tA G Z E (sArgs fs) σ H Q := by
  obtain ⟨F, M, ρ, t, p⟩ := hq
  exact tA_use t p fun os ρ1 F1 M1 H1 v s a q => h a q
theorem ji_sq (hK : X.K = G.K) (he : PE X e (tE G Z E f)) : PI X tg e (tI G Z E (wSq f)) :=
  (pi_sq he).imp fun σ H R q => tE_useI q fun {o ρ1 F1 M1 H1 v} a q => by
    split at q
    · rename_i d ρ2 e1
      obtain ⟨F2, M2, s2, t2, r2⟩ := a.frz1 e1
      split at q
      · rename_i k xs e2
        obtain ⟨b, vs, rfl, sq, rs⟩ := r2.seqB e2
        refine ⟨b, rfl, ?_⟩
        rw [hK]
        have wk := seqWk (M := M2) t2.st.dj r2 e2
        cases k with
        | true => exact .inl ⟨vs, sq, q F2 M2 H1 s2 _ t2.st wk⟩
        | false => exact .inr ⟨vs, sq, q F2 M2 H1 s2 _ t2.st wk⟩
      · exact q.elim
    · exact q.elim

/-! ### ranges -/
def rgD (lo : Int) (n : Nat) (c : Int) : List D := (List.range n).map fun i => .int (lo + (i : Nat) * c)
theorem rgD_get {lo c : Int} {n i : Nat} {x : D} (e : (rgD lo n c)[i]? = some x) : i < n ∧ x = .int (lo + (i : Nat) * c) := by
  unfold rgD at e
  rw [List.getElem?_map] at e
  obtain ⟨j, h1, h2⟩ := Option.map_eq_some_iff.mp e
  have hl := (List.getElem?_eq_some_iff.mp h1)
  obtain ⟨h3, h4⟩ := hl
  rw [List.getElem_range] at h4
  rw [List.length_range] at h3
  subst h4
  exact ⟨h3, h2.symm⟩
theorem rgD_len {lo c : Int} {n : Nat} : (rgD lo n c).length = n := by simp [rgD]
theorem rgWk {F M : AS} {H : Hp} {lo : Int} {n : Nat} : Wk G F M H (Itr lo n) (rgD lo n 1) := by
  intro Z F' M' ρ σ H' s t i
  refine ⟨fun hl => by rw [rgD_len] at hl; exact hl, fun x hx => ?_⟩
  obtain ⟨h1, rfl⟩ := rgD_get hx
  refine ⟨h1, fun v H'' y => ?_⟩
  obtain ⟨e2, e3⟩ := y
  subst e2 e3
  refine ⟨fun _ _ => rfl, F', M', Stp.refl, t, ?_⟩
  rw [Int.mul_one]
  exact .int _
theorem rgWkC {F M : AS} {H : Hp} {lo c : Int} {n : Nat} : Wk G F M H (Itc lo c n) (rgD lo n c) := by
  intro Z F' M' ρ σ H' s t i
  refine ⟨fun hl => by rw [rgD_len] at hl; exact hl, fun x hx => ?_⟩
  obtain ⟨h1, rfl⟩ := rgD_get hx
  refine ⟨h1, fun v H'' y => ?_⟩
  obtain ⟨e2, e3⟩ := y
  subst e2 e3
  exact ⟨fun _ _ => rfl, F', M', Stp.refl, t, .int _⟩
def wRg1 (f : En → R Opd) : SI := fun ρ => (sArgs [f] ρ).bind fun os ρ1 => match ders os ρ1 with
  | some [.int j] => if -(2 ^ 62) ≤ j ∧ j < 2 ^ 62 then .ok (rgD 0 j.toNat 1) ρ1 else .stuck
  | _ => .stuck
theorem ji_rg1 (hg : Gl X "range") (hm : X.mg "range" = none) (ha : PA X [a] (tA G Z E (sArgs [f]))) (hs : starEach [a] X.env = [(false, eval a X.env)]) : PI X tg (.Call (.Name "range" p) [a] [] pos) (tI G Z E (wRg1 f)) :=
  (pi_range1 hg hm ha hs).imp fun σ H R q => tA_useI q fun {os ρ1 F1 M1 H1 vs} a q => by
    split at q
    · rename_i j e1
      split at q
      · rename_i hj
        obtain ⟨v, rfl, r⟩ := Ras.inv1 (a.read e1)
        exact ⟨j, by rw [r.int], hj.1, hj.2, q F1 M1 H1 Stp.refl _ a.st rgWk⟩
      · exact q.elim
    · exact q.elim
def wRg2 (f g : En → R Opd) : SI := fun ρ => (sArgs [f, g] ρ).bind fun os ρ1 => match ders os ρ1 with
  | some [.int i, .int j] => if -(2 ^ 62) ≤ i ∧ i < 2 ^ 62 ∧ -(2 ^ 62) ≤ j ∧ j < 2 ^ 62 then .ok (rgD i (j - i).toNat 1) ρ1 else .stuck
  | _ => .stuck
theorem ji_rg2 (hg : Gl X "range") (hm : X.mg "range" = none) (ha : PA X [a, b] (tA G Z E (sArgs [f, g]))) (hs : starEach [a, b] X.env = [(false, eval a X.env), (false, eval b X.env)]) (hs2 : starEach [b] X.env = [(false, eval b X.env)]) : PI X tg (.Call (.Name "range" p) [a, b] [] pos) (tI G Z E (wRg2 f g)) :=
  (pi_range2 hg hm ha hs hs2).imp fun σ H R q => tA_useI q fun {os ρ1 F1 M1 H1 vs} a q => by
    split at q
    · rename_i i j e1
      split at q
      · rename_i hj
        obtain ⟨v, w, rfl, r1, r2⟩ := Ras.int1 (a.read e1)
        exact ⟨i, j, by rw [r1.int, r2.int], hj, q F1 M1 H1 Stp.refl _ a.st rgWk⟩
      · exact q.elim
    · exact q.elim
def wRg3 (f g h : En → R Opd) : SI := fun ρ => (sArgs [f, g, h] ρ).bind fun os ρ1 => match ders os ρ1 with
  | some [.int i, .int j, .int c] => if c ≠ 0 ∧ c.natAbs < 1073741824 ∧ Builtin.Range.small i j c = true then .ok (rgD i (Builtin.Range.rangeSize i j c).toNat c) ρ1 else .stuck
  | _ => .stuck
theorem Ras.inv3 {F : AS} {H : Hp} {x y z : D} {vs : List V} (r : Ras G F H [x, y, z] vs) : ∃ u v w, vs = [u, v, w] ∧ Ra G F H x u ∧ Ra G F H y v ∧ Ra G F H z w := by
  cases r with
  | cons h1 r =>
    obtain ⟨v, w, rfl, h2, h3⟩ := Ras.int1 r
    exact ⟨_, v, w, rfl, h1, h2, h3⟩
end
end Ev

namespace Ev
open PySem PySem.Spec PyProof.Rows L2
section
variable {X : Cx} {G : Ge} {Z : Zn} {E : XK} {e a b c tg : Expr} {es : List Expr} {f g h : En → R Opd} {fs : List (En → R Opd)} {pos p p2 : Pos}
theorem ji_rg3 (hg : Gl X "range") (hm : X.mg "range" = none) (ha : PA X [a, b, c] (tA G Z E (sArgs [f, g, h]))) (hs : starEach [a, b, c] X.env = (false, eval a X.env) :: starEach [b, c] X.env) (hpl : (backTo pos (starEach [b, c] X.env)).any (·.1) = false) : PI X tg (.Call (.Name "range" p) [a, b, c] [] pos) (tI G Z E (wRg3 f g h)) :=
  (pi_range3 hg hm ha hs hpl).imp fun σ H R q => tA_useI q fun {os ρ1 F1 M1 H1 vs} a q => by
    split at q
    · rename_i i j c e1
      split at q
      · rename_i hj
        obtain ⟨u, v, w, rfl, r1, r2, r3⟩ := Ras.inv3 (a.read e1)
        have h0 : 0 ≤ Builtin.Range.rangeSize i j c := by
          unfold Builtin.Range.rangeSize
          split
          · split
            · have := Int.ediv_nonneg (a := j - i - 1) (b := c) (by omega) (by omega)
              omega
            · omega
          · split
            · have := Int.ediv_nonneg (a := i - j - 1) (b := -c) (by omega) (by omega)
              omega
            · omega
        exact ⟨i, j, c, (Builtin.Range.rangeSize i j c).toNat, by rw [r1.int, r2.int, r3.int], ⟨hj.1, hj.2.1, hj.2.2, by omega⟩, q F1 M1 H1 Stp.refl _ a.st rgWkC⟩
      · exact q.elim
    · exact q.elim

/-! ### zip, enumerate, reversed -/
def zipD (xs ys : List D) : List D := List.zipWith (fun x y => D.tup [x, y]) xs ys
theorem zipD_get {xs ys : List D} {i : Nat} {z : D} (e : (zipD xs ys)[i]? = some z) : ∃ x y, xs[i]? = some x ∧ ys[i]? = some y ∧ z = .tup [x, y] := by
  unfold zipD at e
  rw [List.getElem?_zipWith] at e
  cases hx : xs[i]? with
  | none => rw [hx] at e; cases e
  | some x =>
    cases hy : ys[i]? with
    | none => rw [hx, hy] at e; cases e
    | some y => rw [hx, hy] at e; cases e; exact ⟨x, y, rfl, rfl, rfl⟩
theorem zipD_len {xs ys : List D} : (zipD xs ys).length = min xs.length ys.length := by simp [zipD]
theorem newPair {F M : AS} {ρ : En} {σ : L2.St} {H : Hp} {x y : D} {v w : V} {T : Addr} (t : St G Z F M ρ σ H) (hT : H T = none) (r1 : Rep G F H x v) (r2 : Rep G F H y w) :
    (∀ b, H b ≠ none → upd H T (.tup [v, w]) b = H b) ∧ ∃ F'' M'', Stp G.T F M H F'' M'' (upd H T (.tup [v, w])) ∧ St G Z F'' M'' ρ σ (upd H T (.tup [v, w])) ∧ Rep G F'' (upd H T (.tup [v, w])) (.tup [x, y]) (.ref T) := by
  have c : Rep G (Fz F T) (upd H T (.tup [v, w])) (.tup [x, y]) (.ref T) := .tup (.inr rfl) upd_same (.cons ((r1.upd_ hT).mono (fun _ h => .inl h) keeps_refl) (.cons ((r2.upd_ hT).mono (fun _ h => .inl h) keeps_refl) .nil))
  obtain ⟨s, a⟩ := t.resTup hT c
  exact ⟨fun b hb => upd_old hT hb, _, _, s, a.st, c⟩
theorem zipWk {F M : AS} {H : Hp} {d1 d2 : D} {a b : Addr} {k : Bool} {xs ys : List D} (dj : ∀ a, F a → ¬ M a) (r1 : Rep G F H d1 (.ref a)) (r2 : Rep G F H d2 (.ref b)) (e1 : seqB d1 = some (k, xs)) (e2 : seqB d2 = some (k, ys)) :
    Wk G F M H (if k then Itz G.K a b else RZ.ItzT G.K a b) (zipD xs ys) := by
  intro Z F' M' ρ σ H' s t i
  obtain ⟨a', vs, z1, sq1, rs1⟩ := (r1.step dj s : Rep G F' H' d1 (.ref a)).seqB e1
  obtain ⟨b', ws, z2, sq2, rs2⟩ := (r2.step dj s : Rep G F' H' d2 (.ref b)).seqB e2
  cases z1
  cases z2
  cases k with
  | true =>
    refine ⟨fun hl => ?_, fun x hx => ?_⟩
    · rw [zipD_len] at hl
      exact ⟨vs, ws, sq1, sq2, by rw [← rs1.length, ← rs2.length]; omega⟩
    · obtain ⟨x1, y1, h1, h2, rfl⟩ := zipD_get hx
      obtain ⟨v, h3, h4⟩ := rs1.get h1
      obtain ⟨w, h5, h6⟩ := rs2.get h2
      refine ⟨⟨vs, ws, v, w, sq1, sq2, h3, h5⟩, fun u H'' y => ?_⟩
      obtain ⟨T, v', w', rfl, hT, rfl, y1, y2⟩ := y
      have e3 := y1 vs sq1
      have e4 := y2 ws sq2
      rw [h3] at e3
      rw [h5] at e4
      cases e3
      cases e4
      exact newPair t hT h4 h6
  | false =>
    refine ⟨fun hl => ?_, fun x hx => ?_⟩
    · rw [zipD_len] at hl
      exact ⟨vs, ws, sq1, sq2, by rw [← rs1.length, ← rs2.length]; omega⟩
    · obtain ⟨x1, y1, h1, h2, rfl⟩ := zipD_get hx
      obtain ⟨v, h3, h4⟩ := rs1.get h1
      obtain ⟨w, h5, h6⟩ := rs2.get h2
      refine ⟨⟨vs, ws, v, w, sq1, sq2, h3, h5⟩, fun u H'' y => ?_⟩
      obtain ⟨T, v', w', rfl, hT, rfl, y1, y2⟩ := y
      have e3 := y1 vs sq1
      have e4 := y2 ws sq2
      rw [h3] at e3
      rw [h5] at e4
      cases e3
      cases e4
      exact newPair t hT h4 h6
def wZip (f g : En → R Opd) : SI := fun ρ => (sArgs [f, g] ρ).bind fun os ρ1 => match frzs os ρ1 with
  | some ([x, y], ρ2) => match seqB x, seqB y with
    | some (k, xs), some (j, ys) => if k = j then .ok (zipD xs ys) ρ2 else .stuck
    | _, _ => .stuck
  | _ => .stuck
theorem Reps.inv2 {F : AS} {H : Hp} {x y : D} {vs : List V} (r : Reps G F H [x, y] vs) : ∃ v w, vs = [v, w] ∧ Rep G F H x v ∧ Rep G F H y w := by
  cases r with
  | cons h1 r =>
    cases r with
    | cons h2 r =>
      cases r
      exact ⟨_, _, rfl, h1, h2⟩
theorem Reps.inv1 {F : AS} {H : Hp} {x : D} {vs : List V} (r : Reps G F H [x] vs) : ∃ v, vs = [v] ∧ Rep G F H x v := by
  cases r with
  | cons h1 r =>
    cases r
    exact ⟨_, rfl, h1⟩
theorem ji_zip {elts : List Expr} {kk : Nat} {tpos : Pos} (hK : X.K = G.K) (hg : Gl X "zip") (hm : X.mg "zip" = none) (ha : PA X [a, b] (tA G Z E (sArgs [f, g]))) (hs : starEach [a, b] X.env = (false, eval a X.env) :: starEach [b] X.env) (hpl : (backTo pos (starEach [b] X.env)).any (·.1) = false) :
    PI X (.Tuple elts kk tpos) (.Call (.Name "zip" p) [a, b] [] pos) (tI G Z E (wZip f g)) :=
  (RZ.pi_zipA hg hm ha hs hpl).imp fun σ H R q => tA_useI q fun {os ρ1 F1 M1 H1 vs} a q => by
    split at q
    · rename_i x y ρ2 e1
      obtain ⟨F2, M2, s2, t2, r2⟩ := a.frzs e1
      split at q
      · rename_i k xs j ys e2 e3
        split at q
        · rename_i hk
          subst hk
          obtain ⟨v, w, rfl, h1, h2⟩ := Reps.inv2 r2
          obtain ⟨a', vs, rfl, sq1, rs1⟩ := h1.seqB e2
          obtain ⟨b', ws, rfl, sq2, rs2⟩ := h2.seqB e3
          have wk := zipWk (M := M2) t2.dj h1 h2 e2 e3
          have qq := q F2 M2 H1 s2 _ t2 wk
          refine ⟨a', b', vs, ws, rfl, ?_⟩
          rw [hK]
          cases k with
          | true => exact .inl ⟨sq1, sq2, qq⟩
          | false => exact .inr ⟨sq1, sq2, qq⟩
        · exact q.elim
      · exact q.elim
    · exact q.elim
def enumD (xs : List D) : List D := xs.zipIdx.map fun p => .tup [.int (p.2 : Nat), p.1]
theorem enumD_get {xs : List D} {i : Nat} {z : D} (e : (enumD xs)[i]? = some z) : ∃ x, xs[i]? = some x ∧ z = .tup [.int (i : Nat), x] := by
  unfold enumD at e
  rw [List.getElem?_map, List.getElem?_zipIdx] at e
  cases hx : xs[i]? with
  | none => rw [hx] at e; cases e
  | some x => rw [hx] at e; cases e; exact ⟨x, rfl, by simp⟩
theorem enumD_len {xs : List D} : (enumD xs).length = xs.length := by simp [enumD]
def wEnum (f : En → R Opd) : SI := fun ρ => (sArgs [f] ρ).bind fun os ρ1 => match frzs os ρ1 with
  | some ([.lst xs], ρ2) => .ok (enumD xs) ρ2
  | _ => .stuck
theorem ji_enum {elts : List Expr} {kk : Nat} {tpos : Pos} (hK : X.K = G.K) (hg : Gl X "enumerate") (hm : X.mg "enumerate" = none) (ha : PA X [a] (tA G Z E (sArgs [f]))) (hs : starEach [a] X.env = [(false, eval a X.env)]) :
    PI X (.Tuple elts kk tpos) (.Call (.Name "enumerate" p) [a] [] pos) (tI G Z E (wEnum f)) :=
  (pi_enum hg hm ha hs).imp fun σ H R q => tA_useI q fun {os ρ1 F1 M1 H1 vs} a q => by
    split at q
    · rename_i xs ρ2 e1
      obtain ⟨F2, M2, s2, t2, r2⟩ := a.frzs e1
      obtain ⟨v, rfl, h1⟩ := Reps.inv1 r2
      obtain ⟨a', vs, rfl, sq1, rs1⟩ := Ra.lst (.inl h1)
      refine ⟨a', vs, rfl, by rw [hK]; exact sq1, q F2 M2 H1 s2 _ t2 ?_⟩
      rw [hK]
      intro Z F' M' ρ σ H' s t i
      obtain ⟨b', ws, z1, sq, rs⟩ := Ra.lst (.inl (h1.step t2.dj s))
      cases z1
      refine ⟨fun hl => ⟨ws, sq, by rw [← rs.length, ← enumD_len]; exact hl⟩, fun x hx => ?_⟩
      obtain ⟨y, h2, rfl⟩ := enumD_get hx
      obtain ⟨w, h3, h4⟩ := rs.get h2
      refine ⟨⟨ws, w, sq, h3⟩, fun u H'' yy => ?_⟩
      obtain ⟨T, x', rfl, hT, rfl, y1⟩ := yy
      have e3 := y1 ws sq
      rw [h3] at e3
      cases e3
      exact newPair t hT (.int _) h4
    · exact q.elim
def wRev (f : En → R Opd) : SI := fun ρ => (f ρ).bind fun o ρ1 => match frz1 o ρ1 with
  | some (d, ρ2) => match seqB d with
    | some (_, xs) => .ok xs.reverse ρ2
    | none => .stuck
  | none => .stuck
theorem ji_rev (hK : X.K = G.K) (hg : Gl X "reversed") (hm : X.mg "reversed" = none) (he : PE X a (tE G Z E f)) (hs : starEach [a] X.env = (false, eval a X.env) :: starEach [] X.env) : PI X tg (.Call (.Name "reversed" p) [a] [] pos) (tI G Z E (wRev f)) :=
  (RT.pi_revA hg hm he hs).imp fun σ H R q => tE_useI q fun {o ρ1 F1 M1 H1 v} a q => by
    split at q
    · rename_i d ρ2 e1
      obtain ⟨F2, M2, s2, t2, r2⟩ := a.frz1 e1
      split at q
      · rename_i k xs e2
        obtain ⟨b, vs, rfl, sq, rs⟩ := r2.seqB e2
        have wk : Wk G F2 M2 H1 (if k then Itv G.K b vs.length else RT.ItvT G.K b vs.length) xs.reverse := by
          intro Z F' M' ρ σ H' s t i
          obtain ⟨b', ws, z1, sq', rs'⟩ := (r2.step t2.st.dj s : Rep G F' H' d (.ref b)).seqB e2
          cases z1
          have hl1 := rs.length
          have hl2 := rs'.length
          cases k with
          | true =>
            refine ⟨fun hl => by rw [List.length_reverse] at hl; show vs.length ≤ i; omega, fun x hx => ?_⟩
            have hi : i < xs.length := by
              have := (List.getElem?_eq_some_iff.mp hx).1
              simpa using this
            rw [List.getElem?_reverse hi, hl1] at hx
            obtain ⟨w, h3, h4⟩ := rs'.get hx
            refine ⟨⟨by omega, ws, w, sq', h3⟩, fun u H'' yy => ?_⟩
            obtain ⟨e3, y1⟩ := yy
            subst e3
            have e4 := y1 ws sq'
            rw [h3] at e4
            cases e4
            exact ⟨fun _ _ => rfl, F', M', Stp.refl, t, h4⟩
          | false =>
            refine ⟨fun hl => by rw [List.length_reverse] at hl; show vs.length ≤ i; omega, fun x hx => ?_⟩
            have hi : i < xs.length := by
              have := (List.getElem?_eq_some_iff.mp hx).1
              simpa using this
            rw [List.getElem?_reverse hi, hl1] at hx
            obtain ⟨w, h3, h4⟩ := rs'.get hx
            refine ⟨⟨by omega, ws, w, sq', h3⟩, fun u H'' yy => ?_⟩
            obtain ⟨e3, y1⟩ := yy
            subst e3
            have e4 := y1 ws sq'
            rw [h3] at e4
            cases e4
            exact ⟨fun _ _ => rfl, F', M', Stp.refl, t, h4⟩
        have qq := q F2 M2 H1 s2 _ t2.st wk
        refine ⟨b, vs, rfl, ?_⟩
        rw [hK]
        cases k with
        | true => exact .inl ⟨sq, qq⟩
        | false => exact .inr ⟨sq, qq⟩
      · exact q.elim
    · exact q.elim

/-! ## targets -/
inductive Tgt where
  | nm (i : Nat) | tp (is : List Nat)
def Tgt.ix : Tgt → List Nat
  | .nm i => [i]
  | .tp is => is
def bNames : List Nat → List D → En → Option En
  | [], [], ρ => some ρ
  | i :: is, d :: ds, ρ => bNames is ds (ρ.set i (some ⟨.frz, d⟩))
  | _, _, _ => none
def Tgt.bd (t : Tgt) (d : D) (ρ : En) : Option En := match t with
  | .nm i => some (ρ.set i (some ⟨.frz, d⟩))
  | .tp is => match d with
    | .tup ds => bNames is ds ρ
    | .ktp ds => bNames is ds ρ
    | _ => none
def sets : List Nat → List V → L2.St → L2.St
  | i :: is, v :: vs, σ => sets is vs (σ.set i (some v))
  | _, _, σ => σ
def gNms : List Nat → TGs
  | [] => gNil
  | i :: is => gCons (gName i) (gNms is)
def Tgt.rd (K : PySem.W.Frag) : Tgt → TG
  | .nm i => gName i
  | .tp is => gTup K is.length (gNms is)
theorem bNames_len : ∀ {is : List Nat} {ds : List D} {ρ ρ1 : En}, bNames is ds ρ = some ρ1 → ds.length = is.length
  | [], [], _, _, _ => rfl
  | [], _ :: _, _, _, e => by cases e
  | _ :: _, [], _, _, e => by cases e
  | i :: is, d :: ds, ρ, ρ1, e => by simp [bNames_len (is := is) (ds := ds) e]
theorem gNms_use {F M : AS} {H : Hp} : ∀ {is : List Nat} {ρ ρ1 : En} {σ : L2.St} {ds : List D} {vs : List V} {Q : L2.St → Hp → Prop}, (∀ p ∈ Z.par, p.1 ∉ is) → St G Z F M ρ σ H → Reps G F H ds vs → bNames is ds ρ = some ρ1 → (∀ ws, St G Z F M ρ1 (sets is ws σ) H → Q (sets is ws σ) H) → gNms is vs σ H Q
  | [], ρ, ρ1, σ, ds, vs, Q, np, t, r, e, q => by
    cases r with
    | nil => cases e; exact ⟨rfl, q [] t⟩
    | cons h r => cases e
  | i :: is, ρ, ρ1, σ, ds, vs, Q, np, t, r, e, q => by
    cases r with
    | nil => cases e
    | @cons d v ds vs h r =>
      refine ⟨v, vs, rfl, ?_⟩
      have t' := t.setFrz (i := i) (fun p hp z => np p hp (z ▸ List.mem_cons_self)) h
      exact gNms_use (fun p hp z => np p hp (List.mem_cons_of_mem _ z)) t' r e fun ws t'' => q (v :: ws) t''
theorem Tgt.use {F M : AS} {H : Hp} {tg : Tgt} {ρ ρ1 : En} {σ : L2.St} {d : D} {v : V} {Q : L2.St → Hp → Prop} (np : ∀ p ∈ Z.par, p.1 ∉ tg.ix) (t : St G Z F M ρ σ H) (r : Rep G F H d v) (e : tg.bd d ρ = some ρ1)
    (q : ∀ ws, St G Z F M ρ1 (sets tg.ix ws σ) H → Q (sets tg.ix ws σ) H) : tg.rd G.K v σ H Q := by
  cases tg with
  | nm i =>
    cases e
    exact q [v] (t.setFrz (fun p hp z => np p hp (z ▸ List.mem_singleton.mpr rfl)) r)
  | tp is =>
    unfold Tgt.bd at e
    dsimp only at e
    split at e
    · obtain ⟨a, vs, rfl, s, rs⟩ := r.seqT
      exact ⟨a, vs, rfl, s, by rw [← rs.length]; exact bNames_len e, gNms_use np t rs e q⟩
    · obtain ⟨a, vs, rfl, s, rs⟩ := r.seqK
      exact ⟨a, vs, rfl, s, by rw [← rs.length]; exact bNames_len e, gNms_use np t rs e q⟩
    · cases e
theorem jg_name {i : Nat} {x : Str} (hN : X.N.Nodup) (hi : X.N[i]? = some x) (hx : Loc X.env.scope x) (hf : X.fn x = true ∨ X.env.scope.names.lookup x = some .local) : PG X (.Name x pos) (Tgt.rd X.K (.nm i)) := pg_name hN hi hx hf
/-- names written one behind the other -/
structure NmsOk (X : Cx) (es : List Expr) (is : List Nat) : Prop where
  pgs : PGs X es (gNms is)
  len : (assignEach es X.env).length = is.length
  nst : (assignEach es X.env).findIdx? (·.1) = none
theorem nms_nil : NmsOk X [] [] := ⟨pgs_nil, rfl, rfl⟩
theorem nms_cons {i : Nat} {is : List Nat} {x : Str} (hN : X.N.Nodup) (hi : X.N[i]? = some x) (hx : Loc X.env.scope x) (hf : X.fn x = true ∨ X.env.scope.names.lookup x = some .local) (h : NmsOk X es is) : NmsOk X (.Name x pos :: es) (i :: is) := by
  obtain ⟨hu, hl, hst⟩ := h
  refine ⟨pgs_cons (pg_name hN hi hx hf) hu rfl, ?_, ?_⟩
  · show ((false, _) :: assignEach es X.env).length = _
    simp [hl]
  · show List.findIdx? (·.1) ((false, _) :: assignEach es X.env) = none
    rw [List.findIdx?_cons, hst]
    rfl
theorem jg_tup {is : List Nat} {k : Nat} (hc : X.calm = true) (h : NmsOk X es is) : PG X (.Tuple es k pos) (Tgt.rd X.K (.tp is)) := pg_tup hc h.pgs h.len h.nst

/-! ## for -/
def Rs.loop (r : Rs) (k : En → Rs) : Rs := match r with
  | .nx ρ => k ρ
  | .ct ρ => k ρ
  | .bk ρ => .nx ρ
  | r => r
def loopS (bd : D → En → Option En) (body : SS) : List D → En → Rs
  | [], ρ => .nx ρ
  | x :: xs, ρ => match bd x ρ with
    | some ρ1 => (body ρ1).loop (loopS bd body xs)
    | none => .stuck
def sFor (w : SI) (tg : Tgt) (body : SS) : SS := fun ρ => (w ρ).toS fun xs ρ1 => loopS tg.bd body xs ρ1
def tSx (G : Ge) (Z : Zn) (E : XK) (F M : AS) (H : Hp) (k : SS) (D : Ends) (σ' : L2.St) (H' : Hp) : Prop := ∃ F' M' ρ, Stp G.T F M H F' M' H' ∧ St G Z F' M' ρ σ' H' ∧ PostS G Z E (k ρ) F' M' H' D
theorem PostS.loop {r : Rs} {k : SS} {D : Ends} {F M : AS} {H : Hp} (p : PostS G Z E (r.loop k) F M H D) : PostS G Z E r F M H { D with nx := tSx G Z E F M H k D, ct := tSx G Z E F M H k D, bk := D.nx } := by
  cases r with
  | nx ρ => exact fun F2 M2 H2 σ2 s2 t => ⟨F2, M2, ρ, s2, t, PostS.step s2 t.dj p⟩
  | rt o ρ => exact p
  | bk ρ => exact p
  | ct ρ => exact fun F2 M2 H2 σ2 s2 t => ⟨F2, M2, ρ, s2, t, PostS.step s2 t.dj p⟩
  | exc c as => exact p
  | stuck => exact p
theorem PostS.ends {r : Rs} {D D' : Ends} {F M : AS} {H : Hp} (p : PostS G Z E r F M H D) (h1 : ∀ σ H, D.nx σ H → D'.nx σ H) (h2 : ∀ v H, D.rt v H → D'.rt v H) (h3 : ∀ σ H, D.bk σ H → D'.bk σ H) (h4 : ∀ σ H, D.ct σ H → D'.ct σ H) : PostS G Z E r F M H D' := by
  cases r with
  | nx ρ => exact fun F2 M2 H2 σ2 s2 t => h1 _ _ (p F2 M2 H2 σ2 s2 t)
  | rt o ρ => exact fun F2 M2 H2 σ2 v s2 t => h2 _ _ (p F2 M2 H2 σ2 v s2 t)
  | bk ρ => exact fun F2 M2 H2 σ2 s2 t => h3 _ _ (p F2 M2 H2 σ2 s2 t)
  | ct ρ => exact fun F2 M2 H2 σ2 s2 t => h4 _ _ (p F2 M2 H2 σ2 s2 t)
  | exc c as => exact p
  | stuck => exact p
theorem js_for {w : SI} {t : Tgt} {body : List Stmt} {s : SS} (hK : X.K = G.K) (hp : PassesOwn (model X.prog X.w) X.A X.env X.xe) (hc : X.calm = true) (np : ∀ p ∈ Z.par, p.1 ∉ t.ix) (hi : PI X tg e (tI G Z E w)) (hg : PG X tg (t.rd X.K)) (hb : PSs X body (tS G Z E s))
    (hs : ∀ x, foldedSetIterable e X.env x = pure x) : PS X (.For tg e body [] pos) (tS G Z E (sFor w t s)) :=
  (ps_for hp hc hi hg hb hs).imp fun D σ H ⟨F, M, ρ, t0, p⟩ => by
    refine ⟨F, M, ρ, t0, p.bind.mono fun xs ρ1 F1 M1 H1 s1 q J t1 wk => ?_⟩
    have q := q t1.dj
    refine ⟨fun i m σ' H' => m = xs.length - i ∧ tSx G Z E F1 M1 H1 (loopS t.bd s (xs.drop i)) D σ' H', ⟨xs.length, by simp, F1, M1, ρ1, Stp.refl, t1, q⟩, ?_⟩
    rintro i m σ' H' ⟨rfl, F2, M2, ρ2, s2, t2, q2⟩
    obtain ⟨w1, w2⟩ := wk Z F2 M2 ρ2 σ' H' s2 t2 i
    by_cases hl : xs.length ≤ i
    · refine .inl ⟨w1 hl, ?_⟩
      rw [List.drop_eq_nil_of_le hl] at q2
      exact q2 F2 M2 H' σ' Stp.refl t2
    · have hl : i < xs.length := by omega
      obtain ⟨h1, h2⟩ := w2 xs[i] (by simp [hl])
      refine .inr ⟨h1, tSx G Z E F1 M1 H1 (loopS t.bd s (xs.drop (i + 1))) D, fun σ3 H3 h3 => ⟨xs.length - (i + 1), by omega, rfl, h3⟩, fun x H'' y => ?_⟩
      obtain ⟨_, F3, M3, s3, t3, r3⟩ := h2 x H'' y
      rw [hK]
      rw [List.drop_eq_getElem_cons hl] at q2
      unfold loopS at q2
      split at q2
      · rename_i ρ3 e3
        refine Tgt.use np t3 r3 e3 fun ws t4 => ⟨F3, M3, ρ3, t4, ?_⟩
        have q3 : PostS G Z E ((s ρ3).loop (loopS t.bd s (xs.drop (i + 1)))) F3 M3 H'' D := PostS.step s3 t3.dj q2
        refine (PostS.loop q3).ends ?_ (fun _ _ h => h) (fun _ _ h => h) ?_
        · rintro σ5 H5 ⟨F5, M5, ρ5, s5, t5, q5⟩
          exact ⟨F5, M5, ρ5, s2.trans t2.dj (s3.trans t3.dj s5), t5, q5⟩
        · rintro σ5 H5 ⟨F5, M5, ρ5, s5, t5, q5⟩
          exact ⟨F5, M5, ρ5, s2.trans t2.dj (s3.trans t3.dj s5), t5, q5⟩
      · exact q2.elim

/-! ## while -/
def whileS (c : STe) (body : SS) : Nat → En → Rs
  | 0, _ => .stuck
  | n + 1, ρ => (c ρ).toS fun b ρ1 => if b then (body ρ1).loop (whileS c body n) else .nx ρ1
def sWhile (fuel : Nat) (c : STe) (body : SS) : SS := whileS c body fuel
theorem js_while {c : STe} {body : List Stmt} {s : SS} {fuel : Nat} (hp : PassesOwn (model X.prog X.w) X.A X.env X.xe) (hc : PT X e (tT G Z E c)) (hb : PSs X body (tS G Z E s)) : PS X (.While e body [] pos) (tS G Z E (sWhile fuel c s)) :=
  (ps_while hp hc hb).imp fun D σ H ⟨F, M, ρ, t0, p⟩ => by
    refine ⟨fun m σ' H' => tS G Z E (whileS c s m) D σ' H', ⟨fuel, F, M, ρ, t0, p⟩, ?_⟩
    rintro m σ1 H1 ⟨F1, M1, ρ1, t1, q1⟩
    cases m with
    | zero => exact q1.elim
    | succ m =>
      refine tT_useS t1 q1 fun b ρ2 F2 M2 H2 s2 t2 q2 => ?_
      cases b with
      | true =>
        refine ⟨fun σ' H' => tS G Z E (whileS c s m) D σ' H', fun σ' H' h => ⟨m, by omega, h⟩, F2, M2, ρ2, t2, ?_⟩
        refine (PostS.loop q2).ends ?_ (fun _ _ h => h) (fun _ _ h => h) ?_
        · rintro σ5 H5 ⟨F5, M5, ρ5, s5, t5, q5⟩
          exact ⟨F5, M5, ρ5, t5, q5⟩
        · rintro σ5 H5 ⟨F5, M5, ρ5, s5, t5, q5⟩
          exact ⟨F5, M5, ρ5, t5, q5⟩
      | false => exact q2 F2 M2 H2 σ1 Stp.refl t2
end
end Ev

namespace Ev
open PySem PySem.Spec PyProof.Rows L2

/-! ## comprehensions -/
def wipeE (ρ : En) : List Nat → En
  | [] => ρ
  | v :: vs => (wipeE ρ vs).set v none
def restE (ρ2 ρ : En) : List Nat → En
  | [] => ρ
  | v :: vs => (restE ρ2 ρ vs).set v (match ρ2[v]? with
    | some y => y
    | none => none)
def hideS : List Nat → En → Option En
  | [], ρ => some ρ
  | v :: vs, ρ => match ρ[v]? with
    | some (some ⟨.own, d⟩) => hideS vs (ρ.set v (some ⟨.frz, d⟩))
    | some (some ⟨.lck, _⟩) => none
    | _ => hideS vs ρ
def R.nox {α : Type} : R α → R α
  | .exc _ _ => .stuck
  | r => r
def lcS (bd : D → En → Option En) (tt : STe) (f : En → R Opd) (vs : List Nat) : List D → List D → En → R (List D)
  | [], acc, ρ => .ok acc ρ
  | x :: xs, acc, ρ => match bd x ρ with
    | some ρ1 => (tt ρ1).nox.bind fun b ρ2 => if b then (f ρ2).nox.bind fun o ρ3 => match frz1 o ρ3 with
        | some (d, ρ4) => if acc.length < sizeLine then lcS bd tt f vs xs (acc ++ [d]) (wipeE ρ4 vs) else .stuck
        | none => .stuck
      else lcS bd tt f vs xs acc (wipeE ρ2 vs)
    | none => .stuck
def sLc (w : SI) (t : Tgt) (tt : STe) (f : En → R Opd) (vs : List Nat) : En → R Opd := fun ρ => (w ρ).bind fun xs ρ1 => match hideS vs ρ1 with
  | some ρ2 => match lcS t.bd tt f vs xs [] (wipeE ρ2 vs) with
    | .ok ds ρ3 => .ok (.v true (.lst ds)) (restE ρ2 ρ3 vs)
    | _ => .stuck
  | none => .stuck
def sYes : STe := fun ρ => .ok true ρ
def E0 : XK := fun _ _ _ => False

theorem wipeE_len {ρ : En} : ∀ {vs : List Nat}, (wipeE ρ vs).length = ρ.length
  | [] => rfl
  | v :: vs => by unfold wipeE; rw [List.length_set, wipeE_len]
theorem wipeE_get {ρ : En} {i : Nat} {x : Val} : ∀ {vs : List Nat}, (wipeE ρ vs)[i]? = some (some x) → ρ[i]? = some (some x) ∧ i ∉ vs
  | [], h => ⟨h, by simp⟩
  | v :: vs, h => by
    unfold wipeE at h
    by_cases q : i = v
    · subst q
      by_cases hl : i < (wipeE ρ vs).length
      · rw [List.getElem?_set_self hl] at h; cases h
      · rw [List.getElem?_eq_none (by simpa using hl)] at h; cases h
    · rw [List.getElem?_set_ne (Ne.symm q)] at h
      obtain ⟨h1, h2⟩ := wipeE_get h
      exact ⟨h1, by simp [q, h2]⟩
theorem wipe_get {σ : L2.St} {i : Nat} : ∀ {vs : List Nat}, i ∉ vs → (wipe σ vs)[i]? = σ[i]?
  | [], h => rfl
  | v :: vs, h => by
    simp only [List.mem_cons, not_or] at h
    unfold wipe
    rw [List.getElem?_set_ne (Ne.symm h.1)]
    exact wipe_get h.2
theorem restE_len {ρ2 ρ : En} : ∀ {vs : List Nat}, (restE ρ2 ρ vs).length = ρ.length
  | [] => rfl
  | v :: vs => by unfold restE; rw [List.length_set, restE_len]
theorem restE_get {ρ2 ρ : En} {i : Nat} {x : Val} : ∀ {vs : List Nat}, (restE ρ2 ρ vs)[i]? = some (some x) → (i ∈ vs ∧ ρ2[i]? = some (some x)) ∨ (i ∉ vs ∧ ρ[i]? = some (some x))
  | [], h => .inr ⟨by simp, h⟩
  | v :: vs, h => by
    unfold restE at h
    by_cases q : i = v
    · subst q
      left
      by_cases hl : i < (restE ρ2 ρ vs).length
      · rw [List.getElem?_set_self hl] at h
        refine ⟨List.mem_cons_self, ?_⟩
        cases h2 : ρ2[i]? with
        | none => rw [h2] at h; cases h
        | some y => rw [h2] at h; cases h; rfl
      · rw [List.getElem?_eq_none (by simpa using hl)] at h; cases h
    · rw [List.getElem?_set_ne (Ne.symm q)] at h
      rcases restE_get h with ⟨h1, h2⟩ | ⟨h1, h2⟩
      · exact .inl ⟨List.mem_cons_of_mem _ h1, h2⟩
      · exact .inr ⟨by simp [q, h1], h2⟩
theorem wipe_of_set {σ : L2.St} {i : Nat} {x : Option V} : ∀ {vs : List Nat}, i ∈ vs → wipe (σ.set i x) vs = wipe σ vs
  | [], h => by simp at h
  | v :: vs, h => by
    unfold wipe
    by_cases q : i ∈ vs
    · rw [wipe_of_set q]
    · have e : i = v := by
        rcases List.mem_cons.mp h with e | e
        · exact e
        · exact absurd e q
      subst e
      have key : ∀ (ws : List Nat) (τ : L2.St), i ∉ ws → (wipe (τ.set i x) ws) = (wipe τ ws).set i x := fun ws => by
        induction ws with
        | nil => exact fun _ _ => rfl
        | cons a ws ih =>
          intro τ hn
          simp only [List.mem_cons, not_or] at hn
          show (wipe (τ.set i x) ws).set a none = ((wipe τ ws).set a none).set i x
          rw [ih τ hn.2, List.set_comm _ _ hn.1]
      rw [key vs σ q, List.set_set]
theorem wipe_sets {vs : List Nat} : ∀ {is : List Nat} {ws : List V} {σ : L2.St}, (∀ i ∈ is, i ∈ vs) → wipe (sets is ws σ) vs = wipe σ vs
  | [], ws, σ, _ => by cases ws <;> rfl
  | i :: is, [], σ, _ => rfl
  | i :: is, w :: ws, σ, h => by
    show wipe (sets is ws (σ.set i (some w))) vs = _
    rw [wipe_sets fun j hj => h j (List.mem_cons_of_mem _ hj)]
    exact wipe_of_set (h i List.mem_cons_self)
theorem wipe_wipe {σ : L2.St} : ∀ {vs us : List Nat}, (∀ v ∈ vs, v ∈ us) → wipe (wipe σ vs) us = wipe σ us
  | [], us, _ => rfl
  | v :: vs, us, h => by
    show wipe ((wipe σ vs).set v none) us = _
    rw [wipe_of_set (h v List.mem_cons_self)]
    exact wipe_wipe fun w hw => h w (List.mem_cons_of_mem _ hw)

section
variable {G : Ge} {Z : Zn} {F M F' M' : AS} {ρ ρ2 ρ3 : En} {σ : L2.St} {H H' : Hp}
theorem St.wipeS {vs : List Nat} (t : St G Z F M ρ σ H) (np : ∀ p ∈ Z.par, p.1 ∉ vs) : St G Z F M (wipeE ρ vs) (wipe σ vs) H :=
  t.sub (by rw [wipeE_len, wipe_length]; exact t.len) id (fun _ _ h => h) (fun i x e => by
    obtain ⟨h1, h2⟩ := wipeE_get e
    exact ⟨h1, wipe_get h2⟩) (fun p hp => by rw [wipe_get (np p hp)]; exact t.par p hp) rfl
theorem hideS_ok : ∀ {vs : List Nat} {ρ ρ2 : En} {F M : AS}, St G Z F M ρ σ H → hideS vs ρ = some ρ2 → ∃ F' M', Stp G.T F M H F' M' H ∧ St G Z F' M' ρ2 σ H ∧ (∀ v ∈ vs, ∀ x : Val, ρ2[v]? = some (some x) → x.m = .frz) ∧ ∀ (i : Nat) (x : Val), ρ[i]? = some (some x) → x.m = .frz → ρ2[i]? = some (some x)
  | [], ρ, ρ2, F, M, t, e => by
    cases e
    exact ⟨F, M, Stp.refl, t, fun v hv => by simp at hv, fun _ _ h _ => h⟩
  | v :: vs, ρ, ρ2, F, M, t, e => by
    unfold hideS at e
    split at e
    · rename_i d hd
      obtain ⟨a, es, hm, s, t1, r⟩ := t.freezeAt (T := G.T) hd
      obtain ⟨F2, M2, s2, t2, h2, h3⟩ := hideS_ok t1 e
      have hl : v < ρ.length := (List.getElem?_eq_some_iff.mp hd).1
      refine ⟨F2, M2, s.trans t1.dj s2, t2, fun w hw x hx => ?_, fun i x hi hx => ?_⟩
      · rcases List.mem_cons.mp hw with e1 | e1
        · subst e1
          have := h3 w ⟨.frz, d⟩ (by rw [List.getElem?_set_self hl]) rfl
          rw [hx] at this
          cases this
          rfl
        · exact h2 w e1 x hx
      · by_cases q : i = v
        · subst q
          rw [hd] at hi
          cases hi
          cases hx
        · exact h3 i x (by rw [List.getElem?_set_ne (Ne.symm q)]; exact hi) hx
    · cases e
    · rename_i h4 h5
      obtain ⟨F2, M2, s2, t2, h2, h3⟩ := hideS_ok t e
      refine ⟨F2, M2, s2, t2, fun w hw x hx => ?_, h3⟩
      rcases List.mem_cons.mp hw with e1 | e1
      · subst e1
        by_cases q : ∃ y : Val, ρ[w]? = some (some y)
        · obtain ⟨⟨m, d⟩, hy⟩ := q
          cases m with
          | frz =>
            have := h3 w ⟨.frz, d⟩ hy rfl
            rw [hx] at this
            cases this
            rfl
          | own => exact absurd hy (h4 d)
          | lck => exact absurd hy (h5 d)
        · -- a slot without a value stays without
          exfalso
          have key : ∀ {us : List Nat} {ρ ρ2 : En}, hideS us ρ = some ρ2 → (∃ y : Val, ρ2[w]? = some (some y)) → ∃ y : Val, ρ[w]? = some (some y) := fun {us} => by
            induction us with
            | nil => intro ρ ρ2 e h; cases e; exact h
            | cons u us ih =>
              intro ρ ρ2 e h
              unfold hideS at e
              split at e
              · rename_i d hd
                obtain ⟨y, hy⟩ := ih e h
                by_cases q : w = u
                · subst q; exact ⟨_, hd⟩
                · rw [List.getElem?_set_ne (Ne.symm q)] at hy; exact ⟨y, hy⟩
              · cases e
              · exact ih e h
          exact q (key e ⟨x, hx⟩)
      · exact h2 w e1 x hx
theorem St.restore {vs : List Nat} (t2 : St G Z F M ρ2 σ H) (hf : ∀ v ∈ vs, ∀ x : Val, ρ2[v]? = some (some x) → x.m = .frz) (np : ∀ p ∈ Z.par, p.1 ∉ vs) (hF : ∀ a, F a → F' a) (k : Keeps F H H') (t3 : St G Z F' M' ρ3 (wipe σ vs) H') : St G Z F' M' (restE ρ2 ρ3 vs) σ H' := by
  have hsub : ∀ (i : Nat) (x : Val), (restE ρ2 ρ3 vs)[i]? = some (some x) → x.m ≠ .frz → i ∉ vs ∧ ρ3[i]? = some (some x) := fun i x e n => by
    rcases restE_get e with ⟨h1, h2⟩ | h
    · exact absurd (hf i h1 x h2) n
    · exact h
  refine ⟨by rw [restE_len, t3.len, wipe_length], fun i x e => ?_, fun i j x y n e1 e2 h1 h2 => ?_, t3.dj, t3.fd, t3.md, t3.tab, fun p hp => ?_, t3.ld, t3.tf⟩
  · rcases restE_get e with ⟨h1, h2⟩ | ⟨h1, h2⟩
    · obtain ⟨v, e3, r⟩ := t2.slot i x h2
      refine ⟨v, e3, ?_⟩
      have hm := hf i h1 x h2
      obtain ⟨m, d⟩ := x
      cases (show m = .frz from hm)
      exact Rep.mono hF k r
    · obtain ⟨v, e3, r⟩ := t3.slot i x h2
      exact ⟨v, by rw [← wipe_get h1]; exact e3, r⟩
  · obtain ⟨a1, b1⟩ := hsub i x e1 h1
    obtain ⟨a2, b2⟩ := hsub j y e2 h2
    have := t3.apart i j x y n b1 b2 h1 h2
    rw [wipe_get a1, wipe_get a2] at this
    exact this
  · rw [← wipe_get (np p hp)]
    exact t3.par p hp
/-- a list that nobody tells of is written -/
theorem St.aside {a : Addr} {u v : HO} (t : St G Z F M ρ σ H) (n1 : ¬ F a) (n2 : ¬ M a) (n3 : ¬ Z.L a) (h : H a = some u) (p : Plain u) (nt : ∀ vs, v ≠ .tup vs) : St G Z F M ρ σ (upd H a v) :=
  t.recast F M _ (fun _ h => h) (keeps_put n1) (fun i x b _ _ _ hm => ⟨hm, upd_ne (show b ≠ a from fun z => n2 (z ▸ hm))⟩) (fun b hl => upd_ne (show b ≠ a from fun z => n3 (z ▸ hl))) t.dj (fun b f => dom_upd (t.fd b f)) (fun b f => dom_upd (t.md b f)) (tabs_put h p t.tab) (fun b hl => ⟨(t.ld b hl).1, (t.ld b hl).2.1⟩) (tf_upd t.tf nt)
theorem Stp.aside {a : Addr} {u v : HO} {H0 : Hp} {F0 M0 : AS} (s : Stp G.T F0 M0 H0 F M H) (n : H0 a = none) (h : H a = some u) (p : Plain u) : Stp G.T F0 M0 H0 F M (upd H a v) :=
  ⟨s.ext, s.new, fun b o hb hm ht => by rw [upd_ne (show b ≠ a from fun z => by rw [z, n] at hb; cases hb)]; exact s.keep b o hb hm ht, fun b hb => dom_upd (s.dom b hb), fun t => tabs_put h p (s.tab t)⟩
theorem R.nox_ok {α : Type} {r : R α} {a : α} {ρ : En} : r.nox = .ok a ρ → r = .ok a ρ := by
  cases r with
  | ok b ρ' => exact fun h => h
  | exc c as => exact fun h => by cases h
  | stuck => exact fun h => by cases h
theorem R.bind_ok {α β : Type} {r : R α} {f : α → En → R β} {b : β} {ρ : En} (h : r.bind f = .ok b ρ) : ∃ a ρ', r = .ok a ρ' ∧ f a ρ' = .ok b ρ := by
  cases r with
  | ok a ρ' => exact ⟨a, ρ', rfl, h⟩
  | exc c as => cases h
  | stuck => cases h
end
section
variable {X : Cx} {G : Ge} {Z : Zn} {E : XK} {e a b c tg elt iter : Expr} {ifs : List Expr} {scope : Scope} {own : List (Str × Nat)} {f g h : En → R Opd} {pos p p2 : Pos}
theorem jts_nil : PTs X [] (tT G Z E0 sYes) := ⟨fun pins s σ H Q I hq => pts_nil.run pins s σ H Q I (by
  obtain ⟨F, M, ρ, t, p⟩ := hq
  exact p F M H Stp.refl t)⟩
theorem jts_one {t : STe} (h : PT X c (tT G Z E0 t)) : PTs X [c] (tT G Z E0 t) := pts_one h
theorem lc_use {w : SI} {t : Tgt} {tt : STe} {vs : List Nat} {σ : L2.St} {H : Hp} {Q : VK} (np : ∀ p ∈ Z.par, p.1 ∉ vs) (hix : ∀ i ∈ t.ix, i ∈ vs) (hq : tE G Z E (sLc w t tt f vs) σ H Q) : tLc (tI G Z E w) (t.rd G.K) (tT G Z E0 tt) (tE G Z E0 f) vs σ H Q := by
  obtain ⟨F, M, ρ, t0, p⟩ := hq
  refine ⟨F, M, ρ, t0, (Post.bind p).mono fun xs ρ1 F1 M1 H1 s1 q J t1 wk L hL => ?_⟩
  have q := q t1.dj
  split at q
  · rename_i ρ2 h2
    obtain ⟨F2, M2, s2, t2, hf2, _⟩ := hideS_ok t1 h2
    split at q
    · rename_i ds ρ3 h3
      have nL : ¬ Z.L L := t1.notL hL
      refine ⟨fun i m H' => m = xs.length - i ∧ ∃ F' M' ρ' acc accV, Stp G.T F2 M2 H1 F' M' H' ∧ St G Z F' M' ρ' (wipe σ vs) H' ∧ H' L = some (.lst accV) ∧ Reps G F' H' acc accV ∧ ¬ F' L ∧ ¬ M' L ∧ lcS t.bd tt f vs (xs.drop i) acc ρ' = .ok ds ρ3, ⟨xs.length, by simp, F2, M2, wipeE ρ2 vs, [], [], Stp.laid hL, (t2.laid (o := .lst []) hL (fun _ z => nomatch z)).wipeS np, upd_same, .nil, t2.notF hL, t2.notM hL, h3⟩, ?_⟩
      rintro i m H' ⟨rfl, F3, M3, ρ', acc, accV, s3, t3, hL3, rs, nF, nM, hl3⟩
      obtain ⟨w1, w2⟩ := wk Z F3 M3 ρ' (wipe σ vs) H' (s2.trans t2.dj s3) t3 i
      by_cases hl : xs.length ≤ i
      · refine .inl ⟨w1 hl, ?_⟩
        rw [List.drop_eq_nil_of_le hl] at hl3
        have e1 : R.ok acc ρ' = R.ok ds ρ3 := hl3
        cases e1
        have t5 : St G Z F3 M3 (restE ρ2 ρ3 vs) σ H' := t2.restore hf2 np s3.ext (s3.keeps t2.dj) t3
        have c5 : Con G F3 H' (.lst ds) L := .lst hL3 rs
        have s5 : Stp G.T F1 M1 H1 F3 (fun b => M3 b ∨ b = L) H' := (s2.trans t2.dj s3).more fun b hb => Or.elim hb Or.inl fun z => Or.inr (Or.inl (z ▸ hL))
        refine q F3 _ H' s5 (.ref L) ⟨t5.moreM (fun _ h => .inl h) fun b hb n => ?_, .ref L, [], rfl, ⟨L, rfl, .inr rfl, c5⟩, fun b z => ?_, rfl⟩
        · rcases hb with hb | hb
          · exact absurd hb n
          · subst hb
            exact ⟨nF, c5.ne, nL⟩
        · cases (show V.ref L = V.ref b from z)
          refine ⟨fun j x ej hx ez => ?_, fun q hq => absurd hq (by simp)⟩
          obtain ⟨v, ev, r⟩ := t5.slot j x ej
          rw [ez] at ev
          cases ev
          obtain ⟨b', eb, _, hb⟩ := r.root hx
          cases eb
          rcases hb with ⟨_, hb⟩ | ⟨_, hb⟩
          · exact nM hb
          · exact nL hb
      · have hl : i < xs.length := by omega
        obtain ⟨g1, g2⟩ := w2 xs[i] (by simp [hl])
        refine .inr ⟨g1, fun H' => ∃ F' M' ρ' acc accV, Stp G.T F2 M2 H1 F' M' H' ∧ St G Z F' M' ρ' (wipe σ vs) H' ∧ H' L = some (.lst accV) ∧ Reps G F' H' acc accV ∧ ¬ F' L ∧ ¬ M' L ∧ lcS t.bd tt f vs (xs.drop (i + 1)) acc ρ' = .ok ds ρ3, fun H' h => ⟨xs.length - (i + 1), by omega, rfl, h⟩, fun x H'' y => ?_⟩
        obtain ⟨hold, F4, M4, s4, t4, r4⟩ := g2 x H'' y
        have hL4 : H'' L = some (.lst accV) := by rw [hold L (by rw [hL3]; simp)]; exact hL3
        obtain ⟨nF4, nM4⟩ := s4.out nF nM (by rw [hL3]; simp)
        rw [List.drop_eq_getElem_cons hl] at hl3
        unfold lcS at hl3
        split at hl3
        case h_2 => cases hl3
        rename_i ρ5 h5
        obtain ⟨b, ρ6, h6, hl6⟩ := R.bind_ok hl3
        have h6 := R.nox_ok h6
        refine Tgt.use (fun p hp z => np p hp (hix _ z)) t4 r4 h5 fun ws t5 => ?_
        have ew : wipe (sets t.ix ws (wipe σ vs)) vs = wipe σ vs := by rw [wipe_sets hix]; exact wipe_wipe fun _ h => h
        have ew2 : wipe (wipe σ vs) vs = wipe σ vs := wipe_wipe fun _ h => h
        refine ⟨ew, F4, M4, ρ5, t5, ?_⟩
        rw [h6]
        intro F6 M6 H6 s6 t6
        obtain ⟨nF6, nM6⟩ := s6.out nF4 nM4 (by rw [hL4]; simp)
        have hL6 : H6 L = some (.lst accV) := s6.keep L _ hL4 nM4 (fun _ z => nomatch z)
        have s26 : Stp G.T F2 M2 H1 F6 M6 H6 := s3.trans t3.dj (s4.trans t4.dj s6)
        have rs6 : Reps G F6 H6 acc accV := (rs.step t3.dj s4).step t4.dj s6
        cases b with
        | false =>
          refine ⟨F6, M6, wipeE ρ6 vs, acc, accV, s26, ?_, hL6, rs6, nF6, nM6, hl6⟩
          have := t6.wipeS np
          rw [ew] at this
          exact this
        | true =>
          obtain ⟨o, ρ7, h7, hl7⟩ := R.bind_ok (show (f ρ6).nox.bind _ = _ from hl6)
          have h7 := R.nox_ok h7
          refine ⟨F6, M6, ρ6, t6, ?_⟩
          rw [h7]
          intro F7 M7 H7 s7 v a7
          split at hl7
          case h_2 => cases hl7
          rename_i d ρ8 h8
          split at hl7
          case isFalse => cases hl7
          rename_i hz
          obtain ⟨F8, M8, s8, t8, r8⟩ := a7.frz1 h8
          obtain ⟨nF7, nM7⟩ := s7.out nF6 nM6 (by rw [hL6]; simp)
          have hL7 : H7 L = some (.lst accV) := s7.keep L _ hL6 nM6 (fun _ z => nomatch z)
          obtain ⟨nF8, nM8⟩ := s8.out nF7 nM7 (by rw [hL7]; simp)
          have rs8 : Reps G F8 H7 acc accV := (rs6.step t6.dj s7).step a7.st.dj s8
          have s28 : Stp G.T F2 M2 H1 F8 M8 H7 := s26.trans t6.dj (s7.trans a7.st.dj s8)
          refine ⟨accV, hL7, by rw [← rs8.length]; exact hz, F8, M8, wipeE ρ8 vs, acc ++ [d], accV ++ [v], s28.aside hL hL7 True.intro, ?_, upd_same, (rs8.snoc r8).mono (fun _ h => h) (keeps_put nF8), nF8, nM8, hl7⟩
          have := (t8.st.wipeS np).aside (v := .lst (accV ++ [v])) nF8 nM8 nL hL7 True.intro (fun _ z => nomatch z)
          rw [ew] at this
          exact this
    · exact q.elim
  · exact q.elim
theorem je_lc {w : SI} {t : Tgt} {tt : STe} (hK : X.K = G.K) (hc : X.calm = true) (hN : X.N.Nodup) (hi : PI X tg iter (tI G Z E w)) (ok : BlkOk X.N X.env.scope scope own) (np : ∀ p ∈ Z.par, p.1 ∉ own.map (·.2)) (hix : ∀ i ∈ t.ix, i ∈ own.map (·.2))
    (hg : ∀ (s : Shared) (H : Hp) (C : Addr) (cl : List (Str × Addr)) (fp : List Addr), PG (X.blk s H scope (compEnvC scope cl C X.env) fp) tg (t.rd X.K)) (ht : ∀ (s : Shared) (H : Hp) (C : Addr) (cl : List (Str × Addr)) (fp : List Addr), PTs (X.blk s H scope (compEnvC scope cl C X.env) fp) ifs (tT G Z E0 tt))
    (he : ∀ (s : Shared) (H : Hp) (C : Addr) (cl : List (Str × Addr)) (fp : List Addr), PE (X.blk s H scope (compEnvC scope cl C X.env) fp) elt (tE G Z E0 f)) (hs : ∀ x, foldedSetIterable iter X.env x = pure x) :
    PE X (.ListComp elt [⟨tg, iter, ifs, 0⟩] scope pos) (tE G Z E (sLc w t tt f (own.map (·.2)))) :=
  (pe_lc hc hN hi ok hg ht he hs).imp fun σ H Q q => by
    rw [hK]
    exact lc_use np hix q
theorem js_setLc {i : Nat} {y : Str} {py spos : Pos} {w : SI} {t : Tgt} {tt : STe} (hK : X.K = G.K) (hc : X.calm = true) (hN : X.N.Nodup) (hy : X.N[i]? = some y) (hyl : X.env.scope.names.lookup y = some .local) (hsw : swapsWith (.ListComp elt [⟨tg, iter, ifs, 0⟩] scope pos) (some (.Name y py)) spos.line X.env = pure true)
    (hi : PI X tg iter (tI G Z E w)) (ok : BlkOk X.N X.env.scope scope own) (np : ∀ p ∈ Z.par, p.1 ∉ own.map (·.2)) (npi : ∀ p ∈ Z.par, p.1 ≠ i) (hix : ∀ i ∈ t.ix, i ∈ own.map (·.2))
    (hg : ∀ (s : Shared) (H : Hp) (C : Addr) (cl : List (Str × Addr)) (fp : List Addr), PG (X.blk s H scope (compEnvC scope cl C X.env) fp) tg (t.rd X.K)) (ht : ∀ (s : Shared) (H : Hp) (C : Addr) (cl : List (Str × Addr)) (fp : List Addr), PTs (X.blk s H scope (compEnvC scope cl C X.env) fp) ifs (tT G Z E0 tt))
    (he : ∀ (s : Shared) (H : Hp) (C : Addr) (cl : List (Str × Addr)) (fp : List Addr), PE (X.blk s H scope (compEnvC scope cl C X.env) fp) elt (tE G Z E0 f)) (hs : ∀ x, foldedSetIterable iter X.env x = pure x) :
    PS X (.Assign [.Name y py] (.ListComp elt [⟨tg, iter, ifs, 0⟩] scope pos) spos) (tS G Z E (sSet i (sLc w t tt f (own.map (·.2))))) :=
  (ps_setLc hc hN hy hyl hsw hi ok hg ht he hs).imp fun D σ H q => by
    rw [hK]
    exact lc_use np hix (sSet_use npi q)
end
end Ev

namespace Ev
open PySem PySem.Spec PyProof.Rows L2

/-! ## calls -/
inductive Rf where
  | ok (own : Bool) (d : D) (outs : En)
  | exc (c : Nat) (as : List (Str × D))
  | stuck
def Z0 : Zn := ⟨[], fun _ => False⟩
/-- a def's promise -/
def spF (G : Ge) (np : Nat) (φ : List Val → Rf) : Sp := fun vs H Q E => vs.length = np ∧ ∃ F M as, St G Z0 F M (as.map some) (vs.map some) H ∧ match φ as with
  | .ok b d outs => ∀ F' M' H' v, Stp G.T F M H F' M' H' → StA G Z0 F' M' outs (vs.map some) [.v b d] [v] H' → Q v H'
  | .exc c as' => ExcP G E c as' F M H
  | .stuck => False
/-! ### the arguments made ready -/
def isAli (i : Nat) : Opd → Bool
  | .ali j => decide (j = i)
  | _ => false
/-- shared where the def wants it, or where it stands twice -/
def normA (pin : Nat → Bool) : Nat → List Opd → En → Option (List Opd × En)
  | _, [], ρ => some ([], ρ)
  | j, o :: os, ρ => match normA pin (j + 1) os ρ with
    | some (os', ρ1) => match o with
      | .v false d => some (.v false d :: os', ρ1)
      | .v true d => if pin j then some (.v true d :: os', ρ1) else match frz1 (.v true d) ρ1 with
        | some (d', ρ2) => some (.v false d' :: os', ρ2)
        | none => none
      | .ali i => if pin j && !(os'.any (isAli i)) then some (.ali i :: os', ρ1) else match frz1 (.ali i) ρ1 with
        | some (d', ρ2) => some (.v false d' :: os', ρ2)
        | none => none
    | none => none
def argV (o : Opd) (ρ : En) : Option Val := match o with
  | .v b d => some ⟨if b then .own else .frz, d⟩
  | .ali i => match ρ[i]? with
    | some (some ⟨.own, d⟩) => some ⟨.own, d⟩
    | some (some ⟨.frz, d⟩) => some ⟨.frz, d⟩
    | _ => none
def argsV : List Opd → En → Option (List Val)
  | [], _ => some []
  | o :: os, ρ => match argV o ρ with
    | some x => match argsV os ρ with
      | some xs => some (x :: xs)
      | none => none
    | none => none
/-- the slots that come back -/
def outsOf : Nat → List Opd → En → List (Nat × Nat)
  | _, [], _ => []
  | j, .ali i :: os, ρ => match ρ[i]? with
    | some (some ⟨.own, _⟩) => (j, i) :: outsOf (j + 1) os ρ
    | _ => outsOf (j + 1) os ρ
  | j, _ :: os, ρ => outsOf (j + 1) os ρ
def putOuts (outs : En) : List (Nat × Nat) → En → En
  | [], ρ => ρ
  | (k, i) :: r, ρ => (putOuts outs r ρ).set i (match outs[k]? with
    | some y => y
    | none => none)
def sCall (pin : Nat → Bool) (φ : List Val → Rf) (fs : List (En → R Opd)) : En → R Opd := fun ρ => (sArgs fs ρ).bind fun os ρ1 => match normA pin 0 os ρ1 with
  | some (os', ρ2) => match argsV os' ρ2 with
    | some as => if ((outsOf 0 os' ρ2).map (·.2)).Nodup then match φ as with
        | .ok b d outs => .ok (.v b d) (putOuts outs (outsOf 0 os' ρ2) ρ2)
        | .exc c as' => .exc c as'
        | .stuck => .stuck
      else .stuck
    | none => .stuck
  | none => .stuck

section
variable {G : Ge} {Z : Zn} {F M F' M' : AS} {ρ ρ' ρ2 ρ3 : En} {σ : L2.St} {H H' : Hp}
/-- the first operand and the others -/
theorem StA.split {o : Opd} {os : List Opd} {v : V} {vs : List V} (t : StA G Z F M ρ σ (o :: os) (v :: vs) H) : StA G Z F M ρ σ [o] [v] H ∧ StA G Z F (fun a => M a ∧ ¬ Rt o v a) ρ σ os vs H := by
  obtain ⟨t, v', r', e, w, h, ws⟩ := t
  cases e
  have t1 : StA G Z F M ρ σ [o] [v] H := ⟨t, v, [], rfl, w, fun a z => ⟨(h a z).1, fun q hq => absurd hq (by simp)⟩, rfl⟩
  exact ⟨t1, t1.ahead, ws.mono (fun _ h => h) keeps_refl fun q hq a hr _ hm => ⟨⟨hm, fun z => (h a z).2 q hq hr⟩, rfl⟩⟩
theorem StA.reHead {d : D} {os : List Opd} {v : V} {vs : List V} (t : StA G Z F M ρ σ os vs H) (r : Rep G F H d v) : StA G Z F M ρ σ (.v false d :: os) (v :: vs) H := ⟨t.st, v, vs, rfl, r, fun _ z => z.elim, t.wt⟩
theorem normA_ok {pin : Nat → Bool} : ∀ {os os' : List Opd} {j : Nat} {ρ ρ' : En} {F M : AS} {vs : List V}, StA G Z F M ρ σ os vs H → normA pin j os ρ = some (os', ρ') → ∃ F' M', Stp G.T F M H F' M' H ∧ StA G Z F' M' ρ' σ os' vs H
  | [], os', j, ρ, ρ', F, M, vs, t, e => by cases e; exact ⟨F, M, Stp.refl, t⟩
  | o :: os, os', j, ρ, ρ', F, M, vs, t, e => by
    obtain ⟨v, r, rfl, _⟩ := id t.wt
    unfold normA at e
    split at e
    case h_2 => cases e
    rename_i os1 ρ1 e1
    obtain ⟨ta, tb⟩ := t.split
    obtain ⟨F1, M1, s1, t1⟩ := normA_ok tb e1
    obtain ⟨s2, t2⟩ := ta.behind s1 t1
    split at e
    · cases e
      exact ⟨F1, _, s2, t2⟩
    · split at e
      · cases e
        exact ⟨F1, _, s2, t2⟩
      · split at e
        · rename_i d' ρ2 e2
          cases e
          obtain ⟨F3, M3, s3, t3, r3⟩ := t2.frz1 e2
          exact ⟨F3, M3, s2.trans t2.st.dj s3, t3.reHead r3⟩
        · cases e
    · split at e
      · cases e
        exact ⟨F1, _, s2, t2⟩
      · split at e
        · rename_i d' ρ2 e2
          cases e
          obtain ⟨F3, M3, s3, t3, r3⟩ := t2.frz1 e2
          exact ⟨F3, M3, s2.trans t2.st.dj s3, t3.reHead r3⟩
        · cases e
theorem argsV_get : ∀ {os : List Opd} {as : List Val} {k : Nat} {x : Val}, argsV os ρ = some as → as[k]? = some x → ∃ o, os[k]? = some o ∧ argV o ρ = some x
  | [], as, k, x, e, h => by cases e; simp at h
  | o :: os, as, k, x, e, h => by
    unfold argsV at e
    split at e
    · rename_i y hy
      split at e
      · rename_i ys hys
        cases e
        cases k with
        | zero => simp at h; subst h; exact ⟨o, rfl, hy⟩
        | succ k => obtain ⟨o', h1, h2⟩ := argsV_get (k := k) hys (by simpa using h); exact ⟨o', by simpa using h1, h2⟩
      · cases e
    · cases e
theorem argsV_len : ∀ {os : List Opd} {as : List Val}, argsV os ρ = some as → as.length = os.length
  | [], as, e => by cases e; rfl
  | o :: os, as, e => by
    unfold argsV at e
    split at e
    · split at e
      · rename_i ys hys
        cases e
        simp [argsV_len hys]
      · cases e
    · cases e
theorem outsOf_mem : ∀ {os : List Opd} {j k i : Nat}, (k, i) ∈ outsOf j os ρ ↔ ∃ n, k = j + n ∧ os[n]? = some (.ali i) ∧ ∃ d, ρ[i]? = some (some ⟨.own, d⟩)
  | [], j, k, i => by simp [outsOf]
  | .v b d :: os, j, k, i => by
    unfold outsOf
    rw [outsOf_mem]
    constructor
    · rintro ⟨n, rfl, h1, h2⟩
      exact ⟨n + 1, by omega, by simpa using h1, h2⟩
    · rintro ⟨n, rfl, h1, h2⟩
      cases n with
      | zero => simp at h1
      | succ n => exact ⟨n, by omega, by simpa using h1, h2⟩
  | .ali l :: os, j, k, i => by
    unfold outsOf
    split
    · rename_i d hd
      rw [List.mem_cons, outsOf_mem]
      constructor
      · rintro (h | ⟨n, rfl, h1, h2⟩)
        · cases h
          exact ⟨0, rfl, rfl, d, hd⟩
        · exact ⟨n + 1, by omega, by simpa using h1, h2⟩
      · rintro ⟨n, rfl, h1, h2⟩
        cases n with
        | zero =>
          simp at h1
          subst h1
          exact .inl rfl
        | succ n => exact .inr ⟨n, by omega, by simpa using h1, h2⟩
    · rename_i hn
      rw [outsOf_mem]
      constructor
      · rintro ⟨n, rfl, h1, h2⟩
        exact ⟨n + 1, by omega, by simpa using h1, h2⟩
      · rintro ⟨n, rfl, h1, d, h2⟩
        cases n with
        | zero =>
          simp at h1
          subst h1
          exact absurd h2 (hn d)
        | succ n => exact ⟨n, by omega, by simpa using h1, d, h2⟩
theorem putOuts_len {outs : En} : ∀ {l : List (Nat × Nat)} {ρ : En}, (putOuts outs l ρ).length = ρ.length
  | [], _ => rfl
  | (k, i) :: r, ρ => by unfold putOuts; rw [List.length_set, putOuts_len]
theorem putOuts_get {outs : En} {i : Nat} {x : Val} : ∀ {l : List (Nat × Nat)} {ρ : En}, (putOuts outs l ρ)[i]? = some (some x) → (∃ k, (k, i) ∈ l ∧ outs[k]? = some (some x)) ∨ (i ∉ l.map (·.2) ∧ ρ[i]? = some (some x))
  | [], ρ, h => .inr ⟨by simp, h⟩
  | (k, j) :: r, ρ, h => by
    unfold putOuts at h
    by_cases q : i = j
    · subst q
      left
      refine ⟨k, List.mem_cons_self, ?_⟩
      by_cases hl : i < (putOuts outs r ρ).length
      · rw [List.getElem?_set_self hl] at h
        cases h2 : outs[k]? with
        | none => rw [h2] at h; cases h
        | some y => rw [h2] at h; cases h; rfl
      · rw [List.getElem?_eq_none (by simpa using hl)] at h; cases h
    · rw [List.getElem?_set_ne (Ne.symm q)] at h
      rcases putOuts_get h with ⟨k', h1, h2⟩ | ⟨h1, h2⟩
      · exact .inl ⟨k', List.mem_cons_of_mem _ h1, h2⟩
      · exact .inr ⟨by simp [q]; simpa using h1, h2⟩
/-- a waiting operand, by its place -/
theorem Wt.get : ∀ {os : List Opd} {vs : List V} {k : Nat} {o : Opd}, Wt G F M ρ σ H os vs → os[k]? = some o → ∃ v, vs[k]? = some v ∧ RepW G F M σ H o v ∧ ∀ a, Rt o v a → Fresh ρ σ a
  | [], vs, k, o, w, h => by simp at h
  | p :: os, vs, k, o, w, h => by
    obtain ⟨v, r, rfl, w1, h1, ws⟩ := w
    cases k with
    | zero => simp at h; subst h; exact ⟨v, rfl, w1, fun a z => (h1 a z).1⟩
    | succ k => obtain ⟨u, h2, h3, h4⟩ := Wt.get (k := k) ws (by simpa using h); exact ⟨u, by simpa using h2, h3, h4⟩
/-- roots of two waiting operands differ -/
theorem Wt.apart : ∀ {os : List Opd} {vs : List V} {k l : Nat} {o p : Opd} {v w : V} {a : Addr}, Wt G F M ρ σ H os vs → k < l → os[k]? = some o → os[l]? = some p → vs[k]? = some v → vs[l]? = some w → Rt o v a → ¬ Rt p w a
  | [], vs, k, l, o, p, v, w, a, t, _, h, _, _, _, _ => by simp at h
  | q :: os, vs, k, l, o, p, v, w, a, t, hl, h1, h2, h3, h4, r => by
    obtain ⟨u, r', rfl, w1, h5, ws⟩ := t
    cases l with
    | zero => omega
    | succ l =>
      cases k with
      | zero =>
        simp at h1 h3
        subst h1 h3
        refine (h5 a r).2 (p, w) ?_
        have e1 : os[l]? = some p := by simpa using h2
        have e2 : r'[l]? = some w := by simpa using h4
        refine List.mem_iff_getElem?.mpr ⟨l, ?_⟩
        rw [List.getElem?_zip_eq_some]
        exact ⟨e1, e2⟩
      | succ k => exact Wt.apart (k := k) (l := l) ws (by omega) (by simpa using h1) (by simpa using h2) (by simpa using h3) (by simpa using h4) r
theorem argV_own {o : Opd} {d : D} (e : argV o ρ = some ⟨.own, d⟩) : o = .v true d ∨ ∃ i, o = .ali i ∧ ρ[i]? = some (some ⟨.own, d⟩) := by
  cases o with
  | v b d' =>
    cases b with
    | false => cases e
    | true => cases e; exact .inl rfl
  | ali i =>
    unfold argV at e
    dsimp only at e
    split at e
    · rename_i d' h; cases e; exact .inr ⟨i, rfl, h⟩
    · cases e
    · cases e
/-- roots that are given to a def -/
def Given (as : List Val) (vs : List V) : AS := fun a => ∃ (k : Nat) (x : Val), as[k]? = some x ∧ x.m = .own ∧ vs[k]? = some (.ref a)
section
variable {os : List Opd} {vs : List V} {as : List Val}
theorem StA.givenM (t : StA G Z F M ρ σ os vs H) (e : argsV os ρ = some as) {a : Addr} (g : Given as vs a) : M a := by
  obtain ⟨k, x, h1, h2, h3⟩ := g
  obtain ⟨o, h4, h5⟩ := argsV_get e h1
  obtain ⟨m, d⟩ := x
  cases (show m = .own from h2)
  obtain ⟨v, h6, h7, _⟩ := t.wt.get h4
  rw [h3] at h6
  cases h6
  rcases argV_own h5 with rfl | ⟨i, rfl, hi⟩
  · obtain ⟨b, eb, hm, _⟩ := h7
    cases eb
    exact hm
  · obtain ⟨w, ew, b, eb, hm, _⟩ := t.st.slot i _ hi
    have h7 : σ[i]? = some (some (.ref a)) := h7
    rw [ew] at h7
    cases h7
    cases eb
    exact hm
/-- .. by a slot, or fresh -/
theorem StA.givenS (t : StA G Z F M ρ σ os vs H) (e : argsV os ρ = some as) {a : Addr} {k : Nat} {x : Val} (h1 : as[k]? = some x) (h2 : x.m = .own) (h3 : vs[k]? = some (.ref a)) :
    (os[k]? = some (.v true x.d) ∧ Fresh ρ σ a) ∨ ∃ i, os[k]? = some (.ali i) ∧ (k, i) ∈ outsOf 0 os ρ ∧ ρ[i]? = some (some x) ∧ σ[i]? = some (some (.ref a)) := by
  obtain ⟨o, h4, h5⟩ := argsV_get e h1
  obtain ⟨m, d⟩ := x
  cases (show m = .own from h2)
  obtain ⟨v, h6, h7, h8⟩ := t.wt.get h4
  rw [h3] at h6
  cases h6
  rcases argV_own h5 with rfl | ⟨i, rfl, hi⟩
  · exact .inl ⟨h4, h8 a rfl⟩
  · exact .inr ⟨i, h4, outsOf_mem.mpr ⟨k, by omega, h4, d, hi⟩, hi, h7⟩
theorem StA.argR (t : StA G Z F M ρ σ os vs H) (e : argsV os ρ = some as) {k : Nat} {x : Val} (h1 : as[k]? = some x) : ∃ v, vs[k]? = some v ∧ ((x.m = .frz ∧ Rep G F H x.d v) ∨ (x.m = .own ∧ ∃ a, v = .ref a ∧ Con G F H x.d a)) := by
  obtain ⟨o, h4, h5⟩ := argsV_get e h1
  obtain ⟨v, h6, h7, h8⟩ := t.wt.get h4
  refine ⟨v, h6, ?_⟩
  cases o with
  | v b d =>
    cases h5
    cases b with
    | false => exact .inl ⟨rfl, h7⟩
    | true => obtain ⟨a, ea, _, c⟩ := h7; exact .inr ⟨rfl, a, ea, c⟩
  | ali i =>
    have h7 : σ[i]? = some (some v) := h7
    unfold argV at h5
    dsimp only at h5
    split at h5
    · rename_i d hd
      cases h5
      obtain ⟨w, ew, a, ea, _, c⟩ := t.st.slot i _ hd
      rw [h7] at ew
      cases ew
      exact .inr ⟨rfl, a, ea, c⟩
    · rename_i d hd
      cases h5
      obtain ⟨w, ew, r⟩ := t.st.slot i _ hd
      rw [h7] at ew
      cases ew
      exact .inl ⟨rfl, r⟩
    · cases h5
theorem argsV_nolck : ∀ {os : List Opd} {as : List Val} {k : Nat} {x : Val}, argsV os ρ = some as → as[k]? = some x → x.m ≠ .lck := fun {os as k x} e h => by
  obtain ⟨o, _, h5⟩ := argsV_get e h
  cases o with
  | v b d =>
    cases h5
    cases b <;> simp
  | ali i =>
    unfold argV at h5
    dsimp only at h5
    split at h5
    · cases h5; simp
    · cases h5; simp
    · cases h5
/-- what a def starts from -/
theorem StA.callee (t : StA G Z F M ρ σ os vs H) (e : argsV os ρ = some as) (nd : ((outsOf 0 os ρ).map (·.2)).Nodup) : St G Z0 F (Given as vs) (as.map some) (vs.map some) H := by
  have hM : ∀ a, Given as vs a → M a := fun a g => t.givenM e g
  refine ⟨?_, fun k x h => ?_, fun k l x y n h1 h2 m1 m2 => ?_, fun a f m => t.st.dj a f (hM a m), t.st.fd, fun a m => t.st.md a (hM a m), t.st.tab, fun p hp => absurd hp (by simp [Z0]), fun a h => h.elim, t.st.tf⟩
  · rw [List.length_map, List.length_map, argsV_len e, t.wt.len]
  · rw [List.getElem?_map] at h
    obtain ⟨x', h1, h2⟩ := Option.map_eq_some_iff.mp h
    cases h2
    obtain ⟨v, h3, h4⟩ := t.argR e h1
    refine ⟨v, by rw [List.getElem?_map, h3]; rfl, ?_⟩
    obtain ⟨m, d⟩ := x
    rcases h4 with ⟨hm, r⟩ | ⟨hm, a, ea, c⟩
    · cases (show m = .frz from hm)
      exact r
    · cases (show m = .own from hm)
      exact ⟨a, ea, ⟨k, _, h1, rfl, by rw [h3, ea]⟩, c⟩
  · rw [List.getElem?_map] at h1 h2 ⊢
    rw [List.getElem?_map]
    obtain ⟨x', a1, a2⟩ := Option.map_eq_some_iff.mp h1
    obtain ⟨y', b1, b2⟩ := Option.map_eq_some_iff.mp h2
    cases a2
    cases b2
    obtain ⟨v, c1, c2⟩ := t.argR e a1
    obtain ⟨w, d1, d2⟩ := t.argR e b1
    rcases c2 with ⟨z, _⟩ | ⟨hx, a, ea, _⟩
    · exact absurd z m1
    rcases d2 with ⟨z, _⟩ | ⟨hy, b, eb, _⟩
    · exact absurd z m2
    subst ea eb
    rw [c1, d1]
    intro z
    have z : a = b := by simpa using z
    subst z
    rcases t.givenS e a1 hx c1 with ⟨o1, f1⟩ | ⟨i, o1, u1, r1, s1⟩
    · rcases t.givenS e b1 hy d1 with ⟨o2, f2⟩ | ⟨j, o2, u2, r2, s2⟩
      · rcases Nat.lt_or_gt_of_ne n with z | z
        · exact t.wt.apart z o1 o2 c1 d1 (a := a) rfl rfl
        · exact t.wt.apart z o2 o1 d1 c1 (a := a) rfl rfl
      · exact f1 j _ r2 (by rw [hy]; simp) s2
    · rcases t.givenS e b1 hy d1 with ⟨o2, f2⟩ | ⟨j, o2, u2, r2, s2⟩
      · exact f2 i _ r1 (by rw [hx]; simp) s1
      · by_cases q : i = j
        · subst q
          -- one slot twice
          have : ∀ {l : List (Nat × Nat)} {k l' i : Nat}, (l.map (·.2)).Nodup → (k, i) ∈ l → (l', i) ∈ l → k = l' := fun {l} => by
            induction l with
            | nil => intro _ _ _ _ h; simp at h
            | cons p l ih =>
              intro k l' i hn h1 h2
              rw [List.map_cons, List.nodup_cons] at hn
              rcases List.mem_cons.mp h1 with z1 | z1
              · rcases List.mem_cons.mp h2 with z2 | z2
                · exact (Prod.mk.inj (z1.trans z2.symm)).1
                · exact absurd (List.mem_map.mpr ⟨_, z2, by rw [← z1]⟩) hn.1
              · rcases List.mem_cons.mp h2 with z2 | z2
                · exact absurd (List.mem_map.mpr ⟨_, z1, by rw [← z2]⟩) hn.1
                · exact ih hn.2 z1 z2
          exact n (this nd u1 u2)
        · exact t.st.apart i j _ _ q r1 r2 (by rw [hx]; simp) (by rw [hy]; simp) (by rw [s1, s2])
/-- the caller's step -/
theorem StA.stepped (t : StA G Z F M ρ σ os vs H) (e : argsV os ρ = some as) (s : Stp G.T F (Given as vs) H F' M' H') : Stp G.T F M H F' (fun a => M' a ∨ (M a ∧ ¬ Given as vs a)) H' := by
  refine ⟨s.ext, fun a h => ?_, fun a o h n q => s.keep a o h (fun z => n (t.givenM e z)) q, s.dom, s.tab⟩
  have key : F a ∨ Given as vs a ∨ H a = none → F a ∨ M a ∨ H a = none := fun z => z.elim .inl fun z => z.elim (fun z => .inr (.inl (t.givenM e z))) fun z => .inr (.inr z)
  rcases h with h | h | h
  · exact key (s.new a (.inl h))
  · exact key (s.new a (.inr h))
  · exact .inr (.inl h.1)
theorem StA.dj2 (t : StA G Z F M ρ σ os vs H) (e : argsV os ρ = some as) (s : Stp G.T F (Given as vs) H F' M' H') (d' : ∀ a, F' a → ¬ M' a) : ∀ a, F' a → ¬ (M' a ∨ (M a ∧ ¬ Given as vs a)) := fun a f m => by
  rcases m with m | ⟨m, n⟩
  · exact d' a f m
  · exact (s.out (fun z => t.st.dj a z m) n (t.st.md a m)).1 f
/-- the caller goes on -/
theorem StA.after {outs : En} {b : Bool} {d : D} {v : V} (t : StA G Z F M ρ σ os vs H) (e : argsV os ρ = some as) (s : Stp G.T F (Given as vs) H F' M' H') (a' : StA G Z0 F' M' outs (vs.map some) [.v b d] [v] H') :
    StA G Z F' (fun a => M' a ∨ (M a ∧ ¬ Given as vs a)) (putOuts outs (outsOf 0 os ρ) ρ) σ [.v b d] [v] H' := by
  have djc : ∀ a, F a → ¬ Given as vs a := fun a f g => t.st.dj a f (t.givenM e g)
  -- a slot that comes back
  have back : ∀ k i, (k, i) ∈ outsOf 0 os ρ → ∃ w x, vs[k]? = some w ∧ σ[i]? = some (some w) ∧ as[k]? = some x ∧ x.m = .own ∧ ρ[i]? = some (some x) := fun k i h => by
    obtain ⟨n, e1, h1, dd, h2⟩ := outsOf_mem.mp h
    have e1 : k = n := by omega
    subst e1
    obtain ⟨w, h3, h4, _⟩ := t.wt.get h1
    have hl : k < as.length := by
      rw [argsV_len e]
      exact (List.getElem?_eq_some_iff.mp h1).1
    obtain ⟨o, h5, h6⟩ := argsV_get e (k := k) (x := as[k]) (by simp [hl])
    rw [h1] at h5
    cases h5
    unfold argV at h6
    dsimp only at h6
    rw [h2] at h6
    dsimp only at h6
    have h6 := Option.some.inj h6
    exact ⟨w, ⟨.own, dd⟩, h3, h4, by rw [h6]; simp [hl], rfl, h2⟩
  have slotE : ∀ (i : Nat) (x : Val), (putOuts outs (outsOf 0 os ρ) ρ)[i]? = some (some x) → (∃ k w x0, (k, i) ∈ outsOf 0 os ρ ∧ outs[k]? = some (some x) ∧ vs[k]? = some w ∧ σ[i]? = some (some w) ∧ ρ[i]? = some (some x0) ∧ x0.m = .own) ∨ ((∀ k, (k, i) ∉ outsOf 0 os ρ) ∧ ρ[i]? = some (some x)) := fun i x h => by
    rcases putOuts_get h with ⟨k, h1, h2⟩ | ⟨h1, h2⟩
    · obtain ⟨w, x0, h3, h4, h5, h6, h7⟩ := back k i h1
      exact .inl ⟨k, w, x0, h1, h2, h3, h4, h7, h6⟩
    · exact .inr ⟨fun k z => h1 (List.mem_map.mpr ⟨_, z, rfl⟩), h2⟩
  have ungiven : ∀ (i : Nat) (x : Val) (a : Addr), (∀ k, (k, i) ∉ outsOf 0 os ρ) → ρ[i]? = some (some x) → x.m ≠ .frz → σ[i]? = some (some (.ref a)) → ¬ Given as vs a := fun i x a h1 h2 h3 h4 g => by
    obtain ⟨k, y, g1, g2, g3⟩ := g
    rcases t.givenS e g1 g2 g3 with ⟨_, fr⟩ | ⟨j, _, u, r1, s1⟩
    · exact fr i x h2 h3 h4
    · by_cases q : i = j
      · subst q; exact h1 k u
      · exact t.st.apart i j _ _ q h2 r1 h3 (by rw [g2]; simp) (by rw [h4, s1])
  have st' : St G Z F' (fun a => M' a ∨ (M a ∧ ¬ Given as vs a)) (putOuts outs (outsOf 0 os ρ) ρ) σ H' := by
    refine ⟨by rw [putOuts_len]; exact t.st.len, fun i x h => ?_, fun i j x y n h1 h2 m1 m2 => ?_, t.dj2 e s a'.st.dj, a'.st.fd, fun a m => ?_, a'.st.tab, t.st.par, fun a hl => ?_, a'.st.tf⟩
    · rcases slotE i x h with ⟨k, w, x0, h1, h2, h3, h4, _⟩ | ⟨h1, h2⟩
      · obtain ⟨w', e1, r⟩ := a'.st.slot k x h2
        rw [List.getElem?_map, h3] at e1
        cases e1
        refine ⟨w, h4, r.mono (fun _ h => h) keeps_refl (fun a _ _ hm => ⟨.inl hm, rfl⟩) (fun a _ _ hl => absurd hl (by simp [Z0]))⟩
      · obtain ⟨w, h3, r⟩ := t.st.slot i x h2
        refine ⟨w, h3, r.mono s.ext (s.keeps djc) (fun a hm ea hM => ?_) (fun a hm ea hl => ?_)⟩
        · subst ea
          have ng := ungiven i x a h1 h2 (by rw [hm]; simp) h3
          obtain ⟨b, eb, c, _⟩ := r.root (by rw [hm]; simp)
          cases eb
          exact ⟨.inr ⟨hM, ng⟩, s.kept c ng⟩
        · subst ea
          obtain ⟨b, eb, c, _⟩ := r.root (by rw [hm]; simp)
          cases eb
          exact ⟨hl, s.kept c fun g => (t.st.ld a hl).2.1 (t.givenM e g)⟩
    · have old : ∀ (i : Nat) (x : Val), (putOuts outs (outsOf 0 os ρ) ρ)[i]? = some (some x) → x.m ≠ .frz → ∃ x0 : Val, ρ[i]? = some (some x0) ∧ x0.m ≠ .frz := fun i x h m => by
        rcases slotE i x h with ⟨k, w, x0, _, _, _, _, h5, h6⟩ | ⟨_, h2⟩
        · exact ⟨x0, h5, by rw [h6]; simp⟩
        · exact ⟨x, h2, m⟩
      obtain ⟨x0, e1, q1⟩ := old i x h1 m1
      obtain ⟨y0, e2, q2⟩ := old j y h2 m2
      exact t.st.apart i j x0 y0 n e1 e2 q1 q2
    · rcases m with m | ⟨m, _⟩
      · exact a'.st.md a m
      · exact s.dom a (t.st.md a m)
    · obtain ⟨l1, l2, l3⟩ := t.st.ld a hl
      obtain ⟨n1, n2⟩ := s.out l1 (fun g => l2 (t.givenM e g)) l3
      exact ⟨n1, fun z => z.elim n2 fun z => l2 z.1, s.dom a l3⟩
  obtain ⟨w, r, e0, w0, h0, _⟩ := a'.wt
  cases e0
  refine ⟨st', v, [], rfl, ?_, fun a z => ⟨fun i x h m es => ?_, fun q hq => absurd hq (by simp)⟩, rfl⟩
  · cases b with
    | false => exact w0
    | true => obtain ⟨a, ea, hm, c⟩ := w0; exact ⟨a, ea, .inl hm, c⟩
  · have hM' : M' a ∧ H' a ≠ none := by
      have := a'.wt.root (.v b d, v) (by simp) a z
      exact ⟨this.1, this.2.2⟩
    rcases slotE i x h with ⟨k, w, x0, h1, h2, h3, h4, _⟩ | ⟨h1, h2⟩
    · rw [es] at h4
      cases h4
      exact (h0 a z).1 k x h2 m (by rw [List.getElem?_map, h3]; rfl)
    · obtain ⟨u, eu, r⟩ := t.st.slot i x h2
      rw [es] at eu
      cases eu
      obtain ⟨b', eb, c, hb⟩ := r.root m
      cases eb
      rcases hb with ⟨_, hb⟩ | ⟨_, hb⟩
      · have ng := ungiven i x a h1 h2 m es
        exact (s.out (fun f => t.st.dj a f hb) ng (t.st.md a hb)).2 hM'.1
      · obtain ⟨l1, l2, l3⟩ := t.st.ld a hb
        exact (s.out l1 (fun g => l2 (t.givenM e g)) l3).2 hM'.1
end
end
section
variable {X : Cx} {G : Ge} {Z : Zn} {E : XK} {e : Expr} {es : List Expr} {fs : List (En → R Opd)} {pos p : Pos}
/-- what a call asks of the promise -/
theorem call_use {pin : Nat → Bool} {φ : List Val → Rf} {np : Nat} {σ : L2.St} {H : Hp} {Q : VK} (hnp : ∀ ρ os ρ1, sArgs fs ρ = .ok os ρ1 → os.length = np) (h : tE G Z E (sCall pin φ fs) σ H Q) : tA G Z E (sArgs fs) σ H fun vs H1 => spF G np φ vs H1 Q E := by
  obtain ⟨F, M, ρ, t, p⟩ := h
  have hl : ∃ z, sArgs fs ρ = z := ⟨_, rfl⟩
  obtain ⟨z, hz⟩ := hl
  refine ⟨F, M, ρ, t, ?_⟩
  have p : Post G E ((sArgs fs ρ).bind fun os ρ1 => match normA pin 0 os ρ1 with
    | some (os', ρ2) => match argsV os' ρ2 with
      | some as => if ((outsOf 0 os' ρ2).map (·.2)).Nodup then match φ as with
          | .ok b d outs => R.ok (.v b d) (putOuts outs (outsOf 0 os' ρ2) ρ2)
          | .exc c as' => .exc c as'
          | .stuck => .stuck
        else .stuck
      | none => .stuck
    | none => .stuck) F M H fun o ρ' F' M' H' => ∀ v, StA G Z F' M' ρ' σ [o] [v] H' → Q v H' := p
  have hb := Post.bind p
  rw [hz] at hb ⊢
  cases z with
  | stuck => exact hb
  | exc c as => exact hb
  | ok os ρ1 =>
    intro F1 M1 H1 s1 vs a1
    have q := hb F1 M1 H1 s1 a1.st.dj
    split at q
    case h_2 => exact q.elim
    rename_i os' ρ2 e1
    obtain ⟨F2, M2, s2, t2⟩ := normA_ok a1 e1
    split at q
    case h_2 => exact q.elim
    rename_i as e2
    split at q
    case isFalse => exact q.elim
    rename_i nd
    refine ⟨by rw [← a1.wt.len]; exact hnp _ _ _ hz, F2, Given as vs, as, t2.callee e2 nd, ?_⟩
    revert q
    generalize φ as = r
    intro q
    cases r with
    | ok b d outs =>
      intro F3 M3 H3 v s3 a3
      exact q F3 _ H3 (s2.trans t2.st.dj (t2.stepped e2 s3)) v (t2.after e2 s3 a3)
    | exc c as' =>
      intro F3 M3 H3 ks ds ws vs' dd s3 tt e3 e4 l hx hn fx d1 d2 d3 d4 rr
      refine q F3 (fun a => M3 a ∨ (M2 a ∧ ¬ Given as vs a)) H3 ks ds ws vs' dd (s2.trans t2.st.dj (t2.stepped e2 s3)) tt e3 e4 l hx hn fx (t2.dj2 e2 s3 d1) d2 (fun a m => ?_) d4 rr
      rcases m with m | ⟨m, _⟩
      · exact d3 a m
      · exact s3.dom a (t2.st.md a m)
    | stuck => exact q
theorem sArgs_len : ∀ {fs : List (En → R Opd)} {ρ : En} {os : List Opd} {ρ1 : En}, sArgs fs ρ = .ok os ρ1 → os.length = fs.length
  | [], _, _, _, e => by cases e; rfl
  | f :: fs, ρ, os, ρ1, e => by
    obtain ⟨o, ρ2, _, e2⟩ := R.bind_ok e
    obtain ⟨os', ρ3, e3, e4⟩ := R.bind_ok e2
    cases e4
    simp [sArgs_len e3]
/-- what is handled when a def is called -/
def HotQ (G : Ge) (A : Around) (outer : List Env) (H : Hp) (s : Shared) : Prop := match G.hot with
  | none => A.handled = none
  | some q => ∃ oe, L2H.PinOk outer H s (q.1, oe) ∧ Zc (.ref (G.cls q.2.1)) (some q.2.2) oe ∧ ∃ vs, oe.data = .fields vs
def HotX (G : Ge) (X : Cx) : Prop := match G.hot with
  | none => X.A.handled = none
  | some q => ∃ oe, (q.1, oe) ∈ X.pn ∧ Zc (.ref (G.cls q.2.1)) (some q.2.2) oe ∧ ∃ vs, oe.data = .fields vs
theorem HotX.at {pins : List (Addr × Obj)} {σ : L2.St} {H : Hp} {s : Shared} (h : HotX G X) (I : Inv X pins σ H s) : HotQ G X.A X.stack H s := by
  unfold HotX at h
  unfold HotQ
  split at h
  · exact h
  · rename_i q _
    obtain ⟨oe, hp, hz, hv⟩ := h
    have z := I.pin (q.1, oe) (List.mem_append_left _ hp)
    refine ⟨oe, ⟨z.1, z.2.1, fun hm => ?_, z.2.2.2.2⟩, hz, hv⟩
    rcases List.mem_cons.mp (I.stkSub q.1 hm) with y | y
    · exact z.2.2.1 y
    · exact z.2.2.2.1 y
theorem HotX.get {a : Addr} {c : Nat} {dd : Addr} (h : HotX G X) (e : G.hot = some (a, c, dd)) : ∃ oe, (a, oe) ∈ X.pn ∧ Zc (.ref (G.cls c)) (some dd) oe ∧ ∃ vs, oe.data = .fields vs := by
  unfold HotX at h
  rw [e] at h
  exact h
/-- a def's promise, where no repr is under way if it wants that -/
structure FnQ (G : Ge) (g : Bool) (P : Program) (w : World) (K : PySem.W.Frag) (mg : Str → Option Value) (base : Heap) (CX : CXT) (k : Nat) (f : Addr) (fd : FuncData) (ps : List Str) (sp : Sp) : Prop where
  len : ∀ vs H Q E, sp vs H Q E → vs.length = ps.length
  go : ∀ (A : Around) (outer : List Env) (s : Shared) (H : Hp) (us : List Value) (vs : List V) (Q : VK) (E : XK), L2H.RoomH k A → (g = true → A.guards = some []) → HotQ G A outer H s → Env0 P w K mg base A outer s H → BindsTo s fd ⟨us, []⟩ (ps.zip us) → Vals vs us → sp vs H Q E →
    codeAny (model P w) A (.call (.ref f) ⟨us, []⟩) (CR CX outer P w H s Q E) s
theorem FnQ.runs {g : Bool} {CX : CXT} {k : Nat} {f : Addr} {fd : FuncData} {ps : List Str} {sp : Sp} {pins : List (Addr × Obj)} {σ : L2.St} {H : Hp} {s : Shared} {Q : VK} {us : List Value} {vs : List V} (F : FnQ G g X.prog X.w X.K X.mg X.base CX k f fd ps sp) (hr : L2H.RoomH k X.A) (hgd : g = true → X.A.guards = some [])
    (hot : HotX G X) (hb : Binds X.K fd ps []) (hx : Passes CX X E) (I : Inv X pins σ H s) (rv : Vals vs us) (h : sp vs H Q E) : wpAny (model X.prog X.w) X.A (call (.ref f) us) (EP X pins σ Q) X.xe s := by
  have hn : us.length = ps.length := rv.length.symm.trans (F.len _ _ _ _ h)
  have bt : BindsTo s fd ⟨us, []⟩ (ps.zip us) := by
    have z := hb s us I.kIn (by rw [List.append_nil]; exact hn)
    rwa [List.append_nil] at z
  refine wpAny_call (codeAny_mono (F.go X.A X.stack s H us vs Q E hr hgd (hot.at I) I.env0 bt rv h) fun res s' hq => ?_)
  match res, hq with
  | .ok (.ret u), hq => exact I.after hq
  | .ok .next, hq => exact hq.elim
  | .ok .brk, hq => exact hq.elim
  | .ok .cont, hq => exact hq.elim
  | .error e, hq => exact hx pins σ H s e s' I hq
theorem je_call {x : Str} {f : Addr} {fd : FuncData} {ps : List Str} {n : Nat} {g : Bool} {pin : Nat → Bool} {φ : List Val → Rf} (Fn : FnQ G g X.prog X.w X.K X.mg X.base (L2.CX X.prog X.w) n f fd ps (spF G ps.length φ)) (hr : L2H.RoomH n X.A) (hgd : g = true → X.A.guards = some []) (hot : HotX G X) (hg : Gl X x) (hm : X.mg x = some (.ref f)) (hk : PySem.W.keepIn X.K (.ref f) = true)
    (hb : Binds X.K fd ps []) (hx : Passes (L2.CX X.prog X.w) X E) (ha : PA X (e :: es) (tA G Z E (sArgs fs))) (hl : fs.length = ps.length) (hdb : (x == ("__debug__" : Str)) = false) (hpa : (e :: es).all plainArg = true) : PE X (.Call (.Name x p) (e :: es) [] pos) (tE G Z E (sCall pin φ fs)) := by
  have hp2 : plainArg e = true ∧ es.all plainArg = true := by simpa using hpa
  refine ⟨fun pins s σ H Q I q => wpAny_Call_Name_kw (ld_glob I hg hm ?_ hdb)⟩
  have q2 := call_use (np := ps.length) (fun ρ os ρ1 z => (sArgs_len z).trans hl) q
  exact PySem.W.callWith_K (h₀ := X.base) I.ok.mod.kin hk (thn (ha.run pos pins s σ H _ I q2) fun us s1 ⟨vs, H1, I1, rv, z⟩ => ⟨I1.kIn, Fn.runs hr hgd hot hb hx I1 rv z⟩) (plainArg_eq hp2.1) (plainArgs_any hp2.2)
theorem je_call0 {x : Str} {f : Addr} {fd : FuncData} {n : Nat} {g : Bool} {pin : Nat → Bool} {φ : List Val → Rf} (Fn : FnQ G g X.prog X.w X.K X.mg X.base (L2.CX X.prog X.w) n f fd [] (spF G 0 φ)) (hr : L2H.RoomH n X.A) (hgd : g = true → X.A.guards = some []) (hot : HotX G X) (hg : Gl X x) (hm : X.mg x = some (.ref f)) (hk : PySem.W.keepIn X.K (.ref f) = true)
    (hb : Binds X.K fd [] []) (hx : Passes (L2.CX X.prog X.w) X E) (hdb : (x == ("__debug__" : Str)) = false) : PE X (.Call (.Name x p) [] [] pos) (tE G Z E (sCall pin φ [])) := by
  refine ⟨fun pins s σ H Q I q => wpAny_Call_Name_kw (ld_glob I hg hm ?_ hdb)⟩
  have q2 := call_use (fs := []) (np := 0) (fun ρ os ρ1 z => sArgs_len z) q
  have q3 := tA_nil q2
  exact PySem.W.callWith_K0 I.kIn hk (Fn.runs (us := []) hr hgd hot hb hx I .nil q3)
end
end Ev

namespace Ev
open PySem PySem.Spec PyProof.Rows L2

/-! ## several names at once -/
def normB : List Opd → En → Option (List Opd × En)
  | [], ρ => some ([], ρ)
  | o :: os, ρ => match normB os ρ with
    | some (os', ρ1) => match o with
      | .v b d => some (.v b d :: os', ρ1)
      | .ali i => match frz1 (.ali i) ρ1 with
        | some (d', ρ2) => some (.v false d' :: os', ρ2)
        | none => none
    | none => none
def bindVs : List Nat → List Opd → En → Option En
  | [], [], ρ => some ρ
  | i :: is, .v b d :: os, ρ => bindVs is os (ρ.set i (some ⟨if b then .own else .frz, d⟩))
  | _, _, _ => none
def sPar (is : List Nat) (fs : List (En → R Opd)) : SS := fun ρ => (sArgs fs ρ).toS fun os ρ1 => match normB os ρ1 with
  | some (os', ρ2) => match bindVs is os' ρ2 with
    | some ρ3 => .nx ρ3
    | none => .stuck
  | none => .stuck
section
variable {G : Ge} {Z : Zn} {F M F' M' : AS} {ρ ρ' ρ2 ρ3 : En} {σ : L2.St} {H H' : Hp}
theorem normB_ok : ∀ {os os' : List Opd} {ρ ρ' : En} {F M : AS} {vs : List V}, StA G Z F M ρ σ os vs H → normB os ρ = some (os', ρ') → ∃ F' M', Stp G.T F M H F' M' H ∧ StA G Z F' M' ρ' σ os' vs H
  | [], os', ρ, ρ', F, M, vs, t, e => by cases e; exact ⟨F, M, Stp.refl, t⟩
  | o :: os, os', ρ, ρ', F, M, vs, t, e => by
    obtain ⟨v, r, rfl, _⟩ := id t.wt
    unfold normB at e
    split at e
    case h_2 => cases e
    rename_i os1 ρ1 e1
    obtain ⟨ta, tb⟩ := t.split
    obtain ⟨F1, M1, s1, t1⟩ := normB_ok tb e1
    obtain ⟨s2, t2⟩ := ta.behind s1 t1
    split at e
    · cases e
      exact ⟨F1, _, s2, t2⟩
    · split at e
      · rename_i d' ρ2 e2
        cases e
        obtain ⟨F3, M3, s3, t3, r3⟩ := t2.frz1 e2
        exact ⟨F3, M3, s2.trans t2.st.dj s3, t3.reHead r3⟩
      · cases e
theorem Wt.moved {i : Nat} {x : Val} {v : V} : ∀ {is : List Nat} {os : List Opd} {vs : List V} {ρ1 : En}, Wt G F M ρ σ H os vs → bindVs is os ρ1 = some ρ3 → (x.m ≠ .frz → ∀ q ∈ os.zip vs, ∀ a, Rt q.1 q.2 a → v ≠ .ref a) → i < ρ.length → Wt G F M (ρ.set i (some x)) (σ.set i (some v)) H os vs
  | is, [], vs, ρ1, w, e, h, hl => w
  | [], .v b d :: os, vs, ρ1, w, e, h, hl => by cases e
  | [], .ali j :: os, vs, ρ1, w, e, h, hl => by cases e
  | k :: is, .ali j :: os, vs, ρ1, w, e, h, hl => by cases e
  | k :: is, .v b d :: os, vs, ρ1, w, e, h, hl => by
    obtain ⟨u, r, rfl, w1, h1, ws⟩ := w
    refine ⟨u, r, rfl, ?_, fun a z => ⟨fun j y ej hy es => ?_, (h1 a z).2⟩, Wt.moved (is := is) ws e (fun n q hq => h n q (by rw [List.zip_cons_cons]; exact List.mem_cons_of_mem _ hq)) hl⟩
    · cases b with
      | false => exact w1
      | true => exact w1
    · by_cases q : j = i
      · subst q
        rw [List.getElem?_set_self hl] at ej
        cases ej
        by_cases hs : j < σ.length
        · rw [List.getElem?_set_self hs] at es
          have es := Option.some.inj (Option.some.inj es)
          exact h hy (.v b d, u) (by rw [List.zip_cons_cons]; exact List.mem_cons_self) a z es
        · rw [List.getElem?_eq_none (by simpa using hs)] at es
          cases es
      · rw [List.getElem?_set_ne (Ne.symm q)] at ej es
        exact (h1 a z).1 j y ej hy es
theorem bindVs_ok : ∀ {is : List Nat} {os : List Opd} {vs : List V} {ρ ρ3 : En} {σ : L2.St}, (∀ p ∈ Z.par, p.1 ∉ is) → StA G Z F M ρ σ os vs H → bindVs is os ρ = some ρ3 → (∀ i ∈ is, i < ρ.length) → vs.length = is.length ∧ St G Z F M ρ3 (sets is vs σ) H
  | [], [], vs, ρ, ρ3, σ, np, t, e, hl => by
    have hv : vs = [] := t.wt
    subst hv
    cases e
    exact ⟨rfl, t.st⟩
  | [], o :: os, vs, ρ, ρ3, σ, np, t, e, hl => by cases o <;> cases e
  | i :: is, [], vs, ρ, ρ3, σ, np, t, e, hl => by cases e
  | i :: is, .ali j :: os, vs, ρ, ρ3, σ, np, t, e, hl => by cases e
  | i :: is, .v b d :: os, vs, ρ, ρ3, σ, np, t, e, hl => by
    obtain ⟨v, r, rfl, w, h, ws⟩ := id t.wt
    have hi : i < ρ.length := hl i List.mem_cons_self
    have np' : ∀ p ∈ Z.par, p.1 ≠ i := fun p hp z => np p hp (z ▸ List.mem_cons_self)
    have e' : bindVs is os (ρ.set i (some ⟨if b then .own else .frz, d⟩)) = some ρ3 := e
    have st : St G Z F M (ρ.set i (some ⟨if b then .own else .frz, d⟩)) (σ.set i (some v)) H := by
      cases b with
      | false => exact t.st.setFrz np' w
      | true =>
        obtain ⟨a, ea, hm, c⟩ := w
        subst ea
        exact t.st.setOwn np' hm (h a rfl).1 c
    have wt : Wt G F M (ρ.set i (some ⟨if b then .own else .frz, d⟩)) (σ.set i (some v)) H os r := ws.moved e' (fun n q hq a z ev => by
      cases b with
      | false => exact n rfl
      | true => exact (h a ev).2 q hq z) hi
    obtain ⟨l1, s1⟩ := bindVs_ok (is := is) (fun p hp z => np p hp (List.mem_cons_of_mem _ z)) ⟨st, wt⟩ e' (fun j hj => by rw [List.length_set]; exact hl j (List.mem_cons_of_mem _ hj))
    exact ⟨by simp [l1], s1⟩
end
section
variable {X : Cx} {G : Ge} {Z : Zn} {E : XK} {e a b c tg : Expr} {es : List Expr} {f : En → R Opd} {fs : List (En → R Opd)} {pos px py pz pt pt2 : Pos} {kt k2 : Nat}
theorem sPar_use {is : List Nat} {σ : L2.St} {H : Hp} {D : Ends} (np : ∀ p ∈ Z.par, p.1 ∉ is) (hl : ∀ i ∈ is, i < σ.length) (h : tS G Z E (sPar is fs) D σ H) : tA G Z E (sArgs fs) σ H fun vs H1 => vs.length = is.length ∧ D.nx (sets is vs σ) H1 := by
  obtain ⟨F, M, ρ, t, p⟩ := h
  refine tA_useS t p fun os ρ1 F1 M1 H1 vs s a q => ?_
  split at q
  case h_2 => exact q.elim
  rename_i os' ρ2 e1
  obtain ⟨F2, M2, s2, t2⟩ := normB_ok a e1
  split at q
  · rename_i ρ3 e3
    obtain ⟨l1, s1⟩ := bindVs_ok np t2 e3 (fun i hi => by rw [t2.st.len]; exact hl i hi)
    exact ⟨l1, q F2 M2 H1 _ s2 s1⟩
  · exact q.elim
theorem js_par {i j : Nat} {x y : Str} (hc : X.calm = true) (hN : X.N.Nodup) (hi : X.N[i]? = some x) (hj : X.N[j]? = some y) (hij : i ≠ j) (np : ∀ p ∈ Z.par, p.1 ∉ [i, j])
    (hx : X.env.scope.names.lookup x = some .local) (hy : X.env.scope.names.lookup y = some .local) (ha : PA X [a, b] (tA G Z E (sArgs fs)))
    (hw : swappedStores [.Tuple [.Name x px, .Name y py] kt pt] (.Tuple [a, b] k2 pt2) X.env = pure (some [x, y]))
    (hs : swapsWithSole [.Tuple [.Name x px, .Name y py] kt pt] (.Tuple [a, b] k2 pt2) pos.line X.env = pure false) (hlen : ∀ pins σ H s, Inv X pins σ H s → i < σ.length ∧ j < σ.length) :
    PS X (.Assign [.Tuple [.Name x px, .Name y py] kt pt] (.Tuple [a, b] k2 pt2) pos) (tS G Z E (sPar [i, j] fs)) :=
  ⟨fun pins s σ H D I h => (ps_par hc hN hi hj hij hx hy ha hw hs).run pins s σ H D I (by
    obtain ⟨l1, l2⟩ := hlen pins σ H s I
    refine tA_mono (sPar_use np (fun k hk => ?_) h) fun vs H1 ⟨hl, q⟩ => ?_
    · rcases List.mem_cons.mp hk with rfl | hk
      · exact l1
      · rw [List.mem_singleton.mp hk]; exact l2
    · match vs, hl with
      | [v, w], _ => exact ⟨v, w, rfl, q⟩)⟩
theorem js_par3 {i j l : Nat} {x y z : Str} (hc : X.calm = true) (hN : X.N.Nodup) (hi : X.N[i]? = some x) (hj : X.N[j]? = some y) (hk : X.N[l]? = some z) (hij : i ≠ j) (hil : i ≠ l) (hjl : j ≠ l) (np : ∀ p ∈ Z.par, p.1 ∉ [i, j, l])
    (hx : X.env.scope.names.lookup x = some .local) (hy : X.env.scope.names.lookup y = some .local) (hz : X.env.scope.names.lookup z = some .local) (ha : PA X [a, b, c] (tA G Z E (sArgs fs)))
    (hw : swappedStores [.Tuple [.Name x px, .Name y py, .Name z pz] kt pt] (.Tuple [a, b, c] k2 pt2) X.env = pure (some [x, y, z]))
    (hs : swapsWithSole [.Tuple [.Name x px, .Name y py, .Name z pz] kt pt] (.Tuple [a, b, c] k2 pt2) pos.line X.env = pure false) (hlen : ∀ pins σ H s, Inv X pins σ H s → i < σ.length ∧ j < σ.length ∧ l < σ.length) :
    PS X (.Assign [.Tuple [.Name x px, .Name y py, .Name z pz] kt pt] (.Tuple [a, b, c] k2 pt2) pos) (tS G Z E (sPar [i, j, l] fs)) :=
  ⟨fun pins s σ H D I h => (ps_par3 hc hN hi hj hk hij hil hjl hx hy hz ha hw hs).run pins s σ H D I (by
    obtain ⟨l1, l2, l3⟩ := hlen pins σ H s I
    refine tA_mono (sPar_use np (fun k hk => ?_) h) fun vs H1 ⟨hl, q⟩ => ?_
    · rcases List.mem_cons.mp hk with rfl | hk
      · exact l1
      · rcases List.mem_cons.mp hk with rfl | hk
        · exact l2
        · rw [List.mem_singleton.mp hk]; exact l3
    · match vs, hl with
      | [u, v, w], _ => exact ⟨u, v, w, rfl, q⟩)⟩
/-- a target of names, a value -/
def sSetT (t : Tgt) (f : En → R Opd) : SS := fun ρ => (f ρ).toS fun o ρ1 => match frz1 o ρ1 with
  | some (d, ρ2) => match t.bd d ρ2 with
    | some ρ3 => .nx ρ3
    | none => .stuck
  | none => .stuck
theorem js_setT {t : Tgt} (hK : X.K = G.K) (np : ∀ p ∈ Z.par, p.1 ∉ t.ix) (he : PE X e (tE G Z E f)) (hg : PG X tg (t.rd X.K)) (hs : swapsWithSole [tg] e pos.line X.env = pure false) (hw : swappedStores [tg] e X.env = pure none) (h1 : (assignEach [tg] X.env).map (·.2) = [assign tg X.env]) :
    PS X (.Assign [tg] e pos) (tS G Z E (sSetT t f)) :=
  (ps_asg he hg hs hw h1).imp fun D σ H ⟨F, M, ρ, t0, p⟩ => by
    refine tE_useS t0 p fun o ρ1 F1 M1 H1 v s a q => ?_
    rw [hK]
    split at q
    case h_2 => exact q.elim
    rename_i d ρ2 e2
    obtain ⟨F2, M2, s2, t2, r2⟩ := a.frz1 e2
    split at q
    · rename_i ρ3 e3
      exact Tgt.use np t2.st r2 e3 fun ws t3 => q F2 M2 H1 _ s2 t3
    · exact q.elim
end
end Ev

namespace Ev
open PySem PySem.Spec PyProof.Rows L2

/-! ## an own exception's __init__ -/
def spInit (C : Addr) (nms : List Str) : Sp := fun vs H Q E => vs.length = nms.length + 1 ∧ nms ≠ [] ∧ ∃ a ws, vs = .ref a :: ws ∧ H a = some (exo a C none) ∧ ∀ dx, H dx = none → dx ≠ a → Q .non (upd (upd H dx (exd dx ((nms.zip ws).reverse))) a (exo a C (some dx)))
/-- self.f = x, .. , by the slots of the x -/
inductive InitB (N : List Str) (sc : Scope) : List Stmt → List (Str × Nat) → Prop where
  | nil : InitB N sc [] []
  | cons {s f x : Str} {i : Nat} {p1 p2 p3 p4 : Pos} {r : List Stmt} {l : List (Str × Nat)} (h0 : N[0]? = some s) (hs : Vis sc s) (hd : (s == ("__debug__" : Str)) = false) (hcd : (s == ("__classdict__" : Str)) = false)
      (hi : N[i]? = some x) (hx : Vis sc x) (hd2 : (x == ("__debug__" : Str)) = false) (hcd2 : (x == ("__classdict__" : Str)) = false) (t : InitB N sc r l) :
      InitB N sc (.Assign [.Attribute (.Name s p1) f p2] (.Name x p3) p4 :: r) ((f, i) :: l)
def slotsV (σ : L2.St) (l : List (Str × Nat)) (ws : List V) : Prop := Paired (fun q w => σ[q.2]? = some (some w)) l ws
theorem upd_self {H : Hp} {a : Addr} {o : HO} (h : H a = some o) : upd H a o = H := by
  funext b
  by_cases q : b = a
  · subst q; rw [upd_same, h]
  · rw [upd_ne q]
section
variable {X : Cx}
def tIB (K : PySem.W.Frag) (l : List (Str × Nat)) : TS := fun D σ H => ∃ a C dx fs ws, σ[0]? = some (some (.ref a)) ∧ OexC K C ∧ (∀ q ∈ l, PySem.W.findIn K (.ref C) q.1 = some none) ∧ H a = some (exo a C (some dx)) ∧ H dx = some (exd dx fs) ∧ fs.length + l.length ≤ 900 ∧ dx ≠ a ∧ slotsV σ l ws ∧
  D.nx σ (upd H dx (exd dx (((l.map (·.1)).zip ws).reverse ++ fs)))
theorem init_rest {b : List Stmt} {l : List (Str × Nat)} (hN : InitB X.N X.env.scope b l) : PSs X b (tIB X.K l) := by
  induction hN with
  | nil =>
    exact pss_nil.imp fun D σ H ⟨a, C, dx, fs, ws, _, _, _, ha, hdx, _, _, hw, q⟩ => by
      have q : D.nx σ (upd H dx (exd dx fs)) := q
      rw [upd_self hdx] at q
      exact q
  | @cons s f x i p1 p2 p3 p4 r l h0 hs hd hcd hi hx hd2 hcd2 t ih =>
    refine (pss_cons (ps_ost (pe_var h0 hs hd hcd) (pe_var hi hx hd2 hcd2) rfl) ih).imp fun D σ H ⟨a, C, dx, fs, ws, h1, hC, hf, ha, hdx, hl, hne, hw, q⟩ => ?_
    cases hw with
    | @cons _ w _ ws hw1 hw =>
      refine ⟨w, hw1, _, h1, a, C, rfl, hC, hf _ List.mem_cons_self, .inr ⟨dx, fs, ha, hdx, by rw [List.length_cons] at hl; omega, ?_⟩⟩
      refine ⟨a, C, dx, (f, w) :: fs, ws, h1, hC, fun q hq => hf q (List.mem_cons_of_mem _ hq), by rw [upd_ne (Ne.symm hne)]; exact ha, upd_same, by simp only [List.length_cons] at hl ⊢; omega, hne, hw, ?_⟩
      rw [upd_upd]
      have e : (((l.map (·.1)).zip ws).reverse ++ (f, w) :: fs) = ((((f, i) :: l).map (·.1)).zip (w :: ws)).reverse ++ fs := by simp
      rw [e]
      exact q
def tIA (K : PySem.W.Frag) (l : List (Str × Nat)) : TS := fun D σ H => l ≠ [] ∧ ∃ a C ws, σ[0]? = some (some (.ref a)) ∧ OexC K C ∧ (∀ q ∈ l, PySem.W.findIn K (.ref C) q.1 = some none) ∧ H a = some (exo a C none) ∧ l.length ≤ 800 ∧ slotsV σ l ws ∧
  ∀ dx, H dx = none → dx ≠ a → D.nx σ (upd (upd H dx (exd dx (((l.map (·.1)).zip ws).reverse))) a (exo a C (some dx)))
theorem init_all {b : List Stmt} {l : List (Str × Nat)} (hN : InitB X.N X.env.scope b l) : PSs X b (tIA X.K l) := by
  cases hN with
  | nil => exact pss_nil.imp fun D σ H ⟨h, _⟩ => absurd rfl h
  | @cons s f x i p1 p2 p3 p4 r l h0 hs hd hcd hi hx hd2 hcd2 t =>
    refine (pss_cons (ps_ost (pe_var h0 hs hd hcd) (pe_var hi hx hd2 hcd2) rfl) (init_rest t)).imp fun D σ H ⟨_, a, C, ws, h1, hC, hf, ha, hl, hw, q⟩ => ?_
    cases hw with
    | @cons _ w _ ws hw1 hw =>
      refine ⟨w, hw1, _, h1, a, C, rfl, hC, hf _ List.mem_cons_self, .inl ⟨ha, fun dx hx hne => ?_⟩⟩
      refine ⟨a, C, dx, [(f, w)], ws, h1, hC, fun q hq => hf q (List.mem_cons_of_mem _ hq), upd_same, by rw [upd_ne hne, upd_same], by simp only [List.length_cons, List.length_nil] at hl ⊢; omega, hne, hw, ?_⟩
      have e : (((l.map (·.1)).zip ws).reverse ++ [(f, w)]) = ((((f, i) :: l).map (·.1)).zip (w :: ws)).reverse := by simp
      rw [e]
      have q := q dx hx hne
      have e2 : upd (upd (upd H dx (exd dx [(f, w)])) a (exo a C (some dx))) dx (exd dx ((((f, i) :: l).map (·.1)).zip (w :: ws)).reverse) = upd (upd H dx (exd dx ((((f, i) :: l).map (·.1)).zip (w :: ws)).reverse)) a (exo a C (some dx)) := by
        funext b
        by_cases q1 : b = dx
        · subst q1; rw [upd_same, upd_ne hne, upd_same]
        · rw [upd_ne q1]
          by_cases q2 : b = a
          · subst q2; rw [upd_same, upd_same]
          · rw [upd_ne q2, upd_ne q2, upd_ne q1, upd_ne q1]
      rw [e2]
      exact q
end
theorem slotsV_start {N : List Str} {a : V} {ws' : List V} : ∀ {l : List (Str × Nat)} {ws : List V} {k : Nat}, (∀ (j : Nat) (q : Str × Nat), l[j]? = some q → q.2 = k + j) → (∀ j w, ws[j]? = some w → (L2.start N (a :: ws'))[k + j]? = some (some w)) → l.length = ws.length → slotsV (L2.start N (a :: ws')) l ws
  | [], [], k, _, _, _ => .nil
  | [], _ :: _, k, _, _, h => by simp at h
  | _ :: _, [], k, _, _, h => by simp at h
  | q :: l, w :: ws, k, h1, h2, h3 => by
    refine .cons ?_ (slotsV_start (k := k + 1) (fun j q hj => by rw [h1 (j + 1) q hj]; omega) (fun j w hj => by have := h2 (j + 1) w hj; rw [show k + 1 + j = k + (j + 1) by omega]; exact this) (by simpa using h3))
    have := h2 0 w rfl
    rw [h1 0 q rfl]
    exact this
/-- an __init__ keeps its promise -/
theorem init_ok {P : Program} {w : World} {K : PySem.W.Frag} {mg : Str → Option Value} {base : Heap} {x qual : Str} {params : Arguments} {body : List Stmt} {scope : Scope} {f C : Addr} {fd : FuncData} {CX : CXT} {N ps : List Str} {k : Nat} {l : List (Str × Nat)} {dvs : List V} {kws : List (Str × V)}
    (Fd : FunD K x qual params body scope dvs kws f fd) (S : FnScope N ps scope) (hl : ps.length = l.length + 1) (hb : InitB N scope body l) (h0 : l ≠ []) (h8 : l.length ≤ 800) (hi : ∀ (j : Nat) (q : Str × Nat), l[j]? = some q → q.2 = 1 + j)
    (T : OexC K C) (hf : ∀ q ∈ l, PySem.W.findIn K (.ref C) q.1 = some none) : FnOk P w K mg base CX (k + 1) f fd ps (spInit C (l.map (·.1))) := by
  refine Fd.ok S (fun vs H Q E h => ?_) fun cdv A outer s H vs Q E hr h => ⟨tIA K l, init_all hb, ?_⟩
  · rw [h.1, hl, List.length_map]
  · obtain ⟨h1, h2, a, ws, rfl, h4, h5⟩ := h
    have hw : ws.length = l.length := by simpa using h1
    refine ⟨h0, a, C, ws, rfl, T, hf, h4, h8, slotsV_start (k := 1) hi (fun j w hj => ?_) hw.symm, fun dx hx hne => h5 dx hx hne⟩
    unfold L2.start
    rw [List.getElem?_append_left (by have := (List.getElem?_eq_some_iff.mp hj).1; simp; omega), List.getElem?_map, show 1 + j = j + 1 by omega, List.getElem?_cons_succ, hj]
    rfl

/-! ## raise -/
def sRaise (c : Nat) (nms : List Str) (fs : List (En → R Opd)) : SS := fun ρ => (sArgs fs ρ).toS fun os ρ1 => match frzs os ρ1 with
  | some (ds, _) => if ds.length = nms.length ∧ nms ≠ [] ∧ nms.length ≤ 1000 then .exc c (nms.zip ds).reverse else .stuck
  | none => .stuck
section
variable {X : Cx} {G : Ge} {Z : Zn} {E : XK} {e : Expr} {es : List Expr} {fs : List (En → R Opd)} {pos pos' p : Pos}
theorem zip_rev {α β : Type} : ∀ {ks : List α} {ds : List β}, ks.length = ds.length → (ks.zip ds).reverse = ks.reverse.zip ds.reverse := fun {ks} => by
  induction ks with
  | nil => intro ds h; cases ds <;> rfl
  | cons k ks ih =>
    intro ds h
    cases ds with
    | nil => simp at h
    | cons d ds =>
      have h' : ks.length = ds.length := by simpa using h
      rw [List.zip_cons_cons, List.reverse_cons, List.reverse_cons, List.reverse_cons, ih h', List.zip_append (by simp [h'])]
      rfl
theorem js_raise {x : Str} {c : Nat} {fI : Addr} {k : Nat} {fd : FuncData} {ps : List Str} {nms : List Str} (hc : X.calm = true) (tk : L2.Takes X fun cls d _ H => E cls d H) (T : OexC X.K (G.cls c)) (iC : PySem.W.findIn X.K (.ref (G.cls c)) "__init__" = some (some (.ref fI))) (tI : PySem.W.typeIn X.K (.ref fI) = some (.type "function"))
    (F1 : FnOk X.prog X.w X.K X.mg X.base (L2.CX X.prog X.w) k fI fd ps (spInit (G.cls c) nms)) (hr : Room (k + 1) X.A) (hb : Binds X.K fd ps []) (hg : Gl X x) (hm : X.mg x = some (.ref (G.cls c))) (ha : PA X (e :: es) (tA G Z E (sArgs fs)))
    (hdb : (x == ("__debug__" : Str)) = false) (hpa : (e :: es).all plainArg = true) : PS X (.Raise (some (.Call (.Name x p) (e :: es) [] pos)) none pos') (tS G Z E (sRaise c nms fs)) := by
  refine (L2.ps_raise hc tk (pmk_oex T iC tI F1 hr hb .nil passL hg hm ha hdb (plainArg_eq (by simp only [List.all_cons, Bool.and_eq_true] at hpa; exact hpa.1)) (plainArgs_any (by simp only [List.all_cons, Bool.and_eq_true] at hpa; exact hpa.2)))).imp fun D σ H ⟨F, M, ρ, t, p⟩ => ?_
  show tA G Z E (sArgs fs) σ H _
  refine tA_useS t p fun os ρ1 F1 M1 H1 vs s a q => ?_
  split at q
  case h_2 => exact q.elim
  rename_i ds ρ2 e2
  obtain ⟨F2, M2, s2, t2, rs⟩ := a.frzs e2
  split at q
  case isFalse => exact q.elim
  rename_i hl
  obtain ⟨hl, h0, h1⟩ := hl
  have hv : vs.length = nms.length := by rw [← rs.length]; exact hl
  refine ⟨by rw [hv]; exact h1, fun ax hax => ⟨by simp [hv], h0, ax, vs, by simp, upd_same, fun dx hdx hne => ⟨rfl, dx, (nms.zip vs).reverse, upd_same, by rw [upd_ne hne, upd_same], by rw [upd_ne hne] at hdx; exact hdx, ?_⟩⟩⟩
  have hdx : H1 dx = none := by rw [upd_ne hne] at hdx; exact hdx
  have eH : upd (del (upd (upd (upd H1 ax (exo ax (G.cls c) none)) dx (exd dx (nms.zip vs).reverse)) ax (exo ax (G.cls c) (some dx))) ax) dx (.xd (nms.zip vs).reverse) = upd H1 dx (.xd (nms.zip vs).reverse) := by
    funext b
    by_cases q1 : b = dx
    · subst q1; rw [upd_same, upd_same]
    · rw [upd_ne q1, upd_ne q1]
      unfold del
      by_cases q2 : b = ax
      · subst q2; rw [if_pos rfl, hax]
      · rw [if_neg q2, upd_ne q2, upd_ne q1, upd_ne q2]
  have q : ExcP G E c ((nms.zip ds).reverse) F1 M1 H1 := q
  show E (.ref (G.cls c)) (some dx) _
  rw [eH]
  have hdxF : ¬ F2 dx := fun z => t2.fd dx z hdx
  have hdxM : ¬ M2 dx := fun z => t2.md dx z hdx
  refine q (Fz F2 dx) M2 _ nms.reverse ds.reverse ((nms.zip vs).reverse) vs.reverse dx ?_ (tab_upd hdx t2.tab) (zip_rev hl.symm) (zip_rev hv.symm) (by simp [hl]) upd_same hdx (.inr rfl) ?_ ?_ ?_ (fun b w h => .inl (tf_upd (o := .xd (nms.zip vs).reverse) t2.tf (fun _ z => nomatch z) b w h)) ?_
  · refine s2.trans t2.dj ⟨fun b h => .inl h, fun b h => ?_, fun b o h _ _ => by rw [upd_ne (ne_of_none h hdx)]; exact h, fun b h => dom_upd h, tab_upd hdx⟩
    rcases h with (h | h) | h
    · exact .inl h
    · subst h; exact .inr (.inr hdx)
    · exact .inr (.inl h)
  · rintro b (f | f) m
    · exact t2.dj b f m
    · subst f; exact hdxM m
  · rintro b (f | f)
    · exact dom_upd (t2.fd b f)
    · subst f; rw [upd_same]; simp
  · exact fun b m => dom_upd (t2.md b m)
  · exact ((rs.upd_ hdx).mono (fun _ h => .inl h) keeps_refl).reverse
end
end Ev

namespace Ev
open PySem PySem.Spec PyProof.Rows L2

/-! ## chains of comparisons, tests of comparisons -/
def sChain (p q : Int → Int → Bool) (f g h : En → R Opd) : En → R Opd := fun ρ => (sArgs [f, g] ρ).bind fun os ρ1 => match ders os ρ1 with
  | some [.int i, .int j] => if p i j then (h ρ1).bind fun o ρ2 => match der o ρ2 with
      | some (.int k) => .ok (.v false (.bl (q j k))) ρ2
      | _ => .stuck
    else .ok (.v false (.bl false)) ρ1
  | _ => .stuck
section
variable {X : Cx} {G : Ge} {Z : Zn} {E : XK} {e a b c tg : Expr} {es : List Expr} {f g h : En → R Opd} {fs : List (En → R Opd)} {pos p2 : Pos}
theorem chain_use {p q : Int → Int → Bool} {σ : L2.St} {H : Hp} {Q : VK} (hq : tE G Z E (sChain p q f g h) σ H Q) : tChain (rI0 fun i j => .bl (p i j)) (rI0 fun i j => .bl (q i j)) (tE G Z E f) (tE G Z E g) (tE G Z E h) σ H Q := by
  obtain ⟨F, M, ρ, t, pp⟩ := hq
  have h2 : tA G Z E (sArgs [f, g]) σ H fun vs H2 => ∃ i j : Int, vs = [.int i, .int j] ∧ (if p i j = true then tE G Z E h σ H2 fun w H3 => ∃ k, w = .int k ∧ Q (.bl (q j k)) H3 else Q (.bl false) H2) := by
    refine tA_use t pp fun os ρ1 F1 M1 H1 vs s a qq => ?_
    split at qq
    case h_2 => exact qq.elim
    rename_i i j e1
    obtain ⟨v, w, rfl, r1, r2⟩ := Ras.int1 (a.read e1)
    refine ⟨i, j, by rw [r1.int, r2.int], ?_⟩
    split at qq
    · rename_i hp
      rw [if_pos hp]
      refine tE_use a.st qq fun o ρ2 F2 M2 H2 u s2 a2 q2 => ?_
      split at q2
      · rename_i k hk
        exact ⟨k, (a2.read1 hk).int, q2 F2 M2 H2 Stp.refl _ (a2.st.res (.bl _))⟩
      · exact q2.elim
    · rename_i hp
      rw [if_neg hp]
      exact qq F1 M1 H1 Stp.refl _ (a.st.res (.bl _))
  refine tE_mono (tA2 h2) fun x H1 h3 => tE_mono h3 fun y H2 ⟨i, j, e1, q1⟩ => ?_
  cases e1
  refine ⟨i, j, rfl, rfl, p i j, rfl, ?_⟩
  split at q1
  · rename_i hp
    rw [if_pos hp]
    exact tE_mono q1 fun w H3 ⟨k, e2, q2⟩ => ⟨j, k, rfl, e2, q2⟩
  · rename_i hp
    rw [if_neg hp]
    exact q1
theorem je_chain {o o' : CmpOp} {p q : Int → Int → Bool} (ho : OpR X (compareOp o) (rI0 fun i j => .bl (p i j))) (ho' : OpR X (compareOp o') (rI0 fun i j => .bl (q i j))) (ha : PE X a (tE G Z E f)) (hb : PE X b (tE G Z E g)) (hc : PE X c (tE G Z E h)) (hm : lastMarks [o, o'] [b, c] = false) :
    PE X (.Compare a [o, o'] [b, c] pos) (tE G Z E (sChain p q f g h)) := (pe_chain ho ho' ha hb hc hm).imp fun σ H Q hq => chain_use hq
theorem bl_test {F : En → R Opd} (hb : ∀ ρ o ρ1, F ρ = .ok o ρ1 → ∃ b c, o = .v b (.bl c)) {σ : L2.St} {H : Hp} {Q : Bool → Hp → Prop} (h : tT G Z E (sTruth F) σ H Q) : tE G Z E F σ H fun x H' => ∃ k, x = .bl k ∧ Q k H' := by
  obtain ⟨Fs, M, ρ, t, p⟩ := h
  refine ⟨Fs, M, ρ, t, ?_⟩
  have p := Post.bind (r := F ρ) p
  have hb := hb ρ
  revert p hb
  generalize F ρ = r
  intro p hb
  cases r with
  | ok o ρ1 =>
    intro F1 M1 H1 s v a
    obtain ⟨b, c, rfl⟩ := hb o ρ1 rfl
    have q := p F1 M1 H1 s a.st.dj
    have ra := a.read1 (o := .v b (.bl c)) rfl
    exact ⟨c, ra.bl, q F1 M1 H1 Stp.refl a.st⟩
  | exc c as => exact p
  | stuck => exact p
theorem sChain_bl {p q : Int → Int → Bool} : ∀ ρ o ρ1, sChain p q f g h ρ = .ok o ρ1 → ∃ b c, o = .v b (.bl c) := fun ρ o ρ1 e => by
  obtain ⟨os, ρ2, _, e2⟩ := R.bind_ok e
  split at e2
  · split at e2
    · obtain ⟨o2, ρ3, _, e3⟩ := R.bind_ok e2
      split at e3
      · cases e3; exact ⟨_, _, rfl⟩
      · cases e3
    · cases e2; exact ⟨_, _, rfl⟩
  · cases e2
theorem jt_chain {o o' : CmpOp} {p q : Int → Int → Bool} (ho : OpR X (compareOp o) (rI0 fun i j => .bl (p i j))) (ho' : OpR X (compareOp o') (rI0 fun i j => .bl (q i j))) (ha : PE X a (tE G Z E f)) (hb : PE X b (tE G Z E g)) (hc : PE X c (tE G Z E h)) (hm : lastMarks [o, o'] [b, c] = false) :
    PT X (.Compare a [o, o'] [b, c] pos) (tT G Z E (sTruth (sChain p q f g h))) := (pt_chain ho ho' ha hb hc hm).imp fun σ H Q hq => chain_use (bl_test sChain_bl hq)
end

/-! ### comparisons, by their sign -/
/-- what a comparison asks of a context, what it does -/
structure CmpE where
  op : List D → Option (Bool × D)
def cmpOp : CmpOp → List D → Option (Bool × D)
  | .Eq => op2 dEq
  | .NotEq => op2 dNe
  | .Lt => op2 dLt
  | .LtE => op2 dLe
  | .Gt => op2 dGt
  | .GtE => op2 dGe
  | .Is => op2 dIs
  | .IsNot => op2 dIsNot
  | .In => op2 dInV
  | .NotIn => op2 dNotInV
theorem op2_bl {f : D → D → Option (Bool × D)} (h : ∀ x y b d, f x y = some (b, d) → ∃ c, d = .bl c) : ∀ ds b d, op2 f ds = some (b, d) → ∃ c, d = .bl c := fun ds b d e => by
  unfold op2 at e
  split at e
  · exact h _ _ _ _ e
  · cases e
theorem cmpOp_bl (o : CmpOp) : ∀ ds b d, cmpOp o ds = some (b, d) → ∃ c, d = .bl c := by
  have hI : ∀ (f : Int → Int → Bool) x y b d, dIntB f x y = some (b, d) → ∃ c, d = .bl c := fun f x y b d e => by
    unfold dIntB at e
    split at e
    · cases e; exact ⟨_, rfl⟩
    · cases e
  cases o with
  | Eq => exact op2_bl fun x y b d e => by unfold dEq at e; split at e <;> cases e; exact ⟨_, rfl⟩
  | NotEq => exact op2_bl fun x y b d e => by unfold dNe at e; split at e <;> cases e; exact ⟨_, rfl⟩
  | Lt => exact op2_bl (hI _)
  | LtE => exact op2_bl (hI _)
  | Gt => exact op2_bl (hI _)
  | GtE => exact op2_bl (hI _)
  | Is => exact op2_bl fun x y b d e => by unfold dIs at e; split at e <;> cases e <;> exact ⟨_, rfl⟩
  | IsNot => exact op2_bl fun x y b d e => by unfold dIsNot at e; split at e <;> cases e <;> exact ⟨_, rfl⟩
  | In => exact op2_bl fun x y b d e => by unfold dInV at e; split at e <;> cases e; exact ⟨_, rfl⟩
  | NotIn => exact op2_bl fun x y b d e => by unfold dNotInV at e; split at e <;> cases e; exact ⟨_, rfl⟩
theorem cmp_rule {X : Cx} {G : Ge} (hK : X.K = G.K) (hu : X.A.units + 65 < cLine) (o : CmpOp) : ∃ r : R2, OpR X (compareOp o) r ∧ OpOk G (cmpOp o) (r2 r) := by
  cases o with
  | Eq => exact ⟨_, op_eqD (by omega), by rw [hK]; exact ok_eq⟩
  | NotEq => exact ⟨_, op_neD (by omega), by rw [hK]; exact ok_ne⟩
  | Lt => exact ⟨_, op_lt, ok_intB⟩
  | LtE => exact ⟨_, op_le, ok_intB⟩
  | Gt => exact ⟨_, op_gt, ok_intB⟩
  | GtE => exact ⟨_, op_ge, ok_intB⟩
  | Is => exact ⟨_, op_isAll, ok_is⟩
  | IsNot => exact ⟨_, op_isNotAll, ok_isNot⟩
  | In => exact ⟨_, op_inAll hu, by rw [hK]; exact ok_in⟩
  | NotIn => exact ⟨_, op_notInAll hu, by rw [hK]; exact ok_notIn⟩
def intOp : CmpOp → Option (Int → Int → Bool)
  | .Lt => some fun i j => decide (i < j)
  | .LtE => some fun i j => decide (i ≤ j)
  | .Gt => some fun i j => decide (j < i)
  | .GtE => some fun i j => decide (j ≤ i)
  | _ => none
theorem int_rule {X : Cx} {o : CmpOp} {p : Int → Int → Bool} (h : intOp o = some p) : OpR X (compareOp o) (rI0 fun i j => .bl (p i j)) := by
  cases o <;> cases h
  · exact op_lt
  · exact op_le
  · exact op_gt
  · exact op_ge
def binOp : Operator → Option (List D → Option (Bool × D))
  | .Add => some (op2 dAdd)
  | .Sub => some (op2 dSub)
  | .Mult => some (op2 dMul)
  | .FloorDiv => some (op2 dDiv)
  | .Mod => some (op2 dMod)
  | .Pow => some (op2 dPow)
  | _ => none
theorem bin_rule {X : Cx} {G : Ge} {o : Operator} {op : List D → Option (Bool × D)} (hK : X.K = G.K) (h : binOp o = some op) : ∃ r : R2, OpR X (binaryOp o) r ∧ OpOk G op (r2 r) := by
  cases o <;> cases h
  · exact ⟨_, op_addAll, by rw [hK]; exact ok_add⟩
  · exact ⟨_, op_sub, ok_sub⟩
  · exact ⟨_, op_mulAll, by rw [hK]; exact ok_mul⟩
  · exact ⟨_, op_modN, ok_mod⟩
  · exact ⟨_, op_pow, ok_pow⟩
  · exact ⟨_, op_divAll, ok_div⟩
end Ev

namespace Ev
open PySem PySem.Spec PyProof.Rows L2

/-! ## dicts that are written -/
def flat2 : List ((En → R Opd) × (En → R Opd)) → List (En → R Opd)
  | [] => []
  | (f, g) :: r => f :: g :: flat2 r
def pairsD : List D → Option (List (Key × D))
  | [] => some []
  | k :: v :: r => match keyOf k with
    | some k => match pairsD r with
      | some l => some ((k, v) :: l)
      | none => none
    | none => none
  | _ => none
def mergeD (kvs more : List (Key × D)) : List (Key × D) := more.foldl (fun acc kv => pk acc kv.1 kv.2) kvs
def sDisp (fs : List ((En → R Opd) × (En → R Opd))) : En → R Opd := fun ρ => (sArgs (flat2 fs) ρ).bind fun os ρ1 => match frzs os ρ1 with
  | some (ds, ρ2) => match pairsD ds with
    | some l => if l.length ≤ 15 then .ok (.v true (.dK (mergeD [] l))) ρ2 else .stuck
    | none => .stuck
  | none => .stuck
section
variable {X : Cx} {G : Ge} {Z : Zn} {E : XK} {F M : AS} {ρ : En} {σ : L2.St} {H : Hp}
def zipUp : List V → List (V × V)
  | x :: y :: r => (x, y) :: zipUp r
  | _ => []
theorem tPairs_of : ∀ {fs : List ((En → R Opd) × (En → R Opd))} {H : Hp} {Q : List (V × V) → Hp → Prop}, tA G Z E (sArgs (flat2 fs)) σ H (fun vs H' => Q (zipUp vs) H') → tPairs (fs.map fun p => (tE G Z E p.1, tE G Z E p.2)) σ H Q
  | [], H, Q, h => tA_nil h
  | (f, g) :: r, H, Q, h => tE_mono (tA_cons h) fun x H1 h1 => tE_mono (tA_cons h1) fun y H2 h2 => tPairs_of (fs := r) (Q := fun ps H3 => Q ((x, y) :: ps) H3) h2
theorem pairsD_use : ∀ {ds : List D} {vs : List V} {l : List (Key × D)}, Reps G F H ds vs → pairsD ds = some l → ∃ ws : List (Key × V), zipUp vs = ws.map (fun kv => (kV kv.1, kv.2)) ∧ Prs G F H l ws
  | [], _, l, .nil, e => by cases e; exact ⟨[], rfl, .nil⟩
  | [d], _, l, .cons h .nil, e => by cases e
  | k :: v :: r, _, l, .cons h1 (.cons h2 t), e => by
    unfold pairsD at e
    split at e
    case h_2 => cases e
    rename_i kk hk
    split at e
    case h_2 => cases e
    rename_i l' hl
    cases e
    obtain ⟨ws, e1, p1⟩ := pairsD_use t hl
    have ek := Ra.key (.inl h1) hk
    subst ek
    exact ⟨(kk, _) :: ws, by simp [zipUp, e1], .cons ⟨rfl, h2⟩ p1⟩
theorem Prs.merge {l : List (Key × D)} {ws : List (Key × V)} (h : Prs G F H l ws) : ∀ {kvs : List (Key × D)} {us : List (Key × V)}, Prs G F H kvs us → Prs G F H (mergeD kvs l) (mergeK us ws) := by
  unfold Prs at h
  induction h with
  | nil => exact fun b => b
  | @cons p q l ws h t ih =>
    intro kvs us b
    obtain ⟨k, d⟩ := p
    obtain ⟨k', v⟩ := q
    obtain ⟨e, h⟩ := h
    cases (show k = k' from e)
    exact ih (b.put k h)
theorem je_disp {keys : List (Option Expr)} {values : List Expr} {pos : Pos} {fs : List ((En → R Opd) × (En → R Opd))} (h : PPs X pos keys values (fs.map fun p => (tE G Z E p.1, tE G Z E p.2))) (hall : keys.all (·.isSome) = true) (hl : keys.length = values.length) (h0 : keys ≠ []) (h15 : keys.length ≤ 15) :
    PE X (.Dict keys values pos) (tE G Z E (sDisp fs)) :=
  (pe_disp h hall hl h0 h15).imp fun σ H Q ⟨F, M, ρ, t, p⟩ a ha => by
    refine tPairs_of ?_
    have p : Post G E ((sArgs (flat2 fs) ρ).bind fun os ρ1 => match frzs os ρ1 with
      | some (ds, ρ2) => match pairsD ds with
        | some l => if l.length ≤ 15 then R.ok (.v true (.dK (mergeD [] l))) ρ2 else .stuck
        | none => .stuck
      | none => .stuck) F M H fun o ρ' F' M' H' => ∀ v, StA G Z F' M' ρ' σ [o] [v] H' → Q v H' := p
    have sA : Stp G.T F M H F M (upd H a (.dK [])) := Stp.laid ha
    have nF : ¬ F a := t.notF ha
    have nM : ¬ M a := t.notM ha
    have nL : ¬ Z.L a := t.notL ha
    have hne : upd H a (.dK []) a ≠ none := by rw [upd_same]; simp
    refine ⟨F, M, ρ, t.laid ha (fun _ z => nomatch z), ?_⟩
    revert p
    generalize sArgs (flat2 fs) ρ = r
    intro p
    cases r with
    | stuck => exact p
    | exc c as => exact ExcP.step sA t.dj p
    | ok os ρ1 =>
      intro F1 M1 H1 s1 vs a1
      have h1 : H1 a = some (.dK []) := s1.keep a _ upd_same nM (fun _ z => nomatch z)
      obtain ⟨nF1, nM1⟩ := s1.out nF nM hne
      have q : Post G E (match frzs os ρ1 with
        | some (ds, ρ2) => match pairsD ds with
          | some l => if l.length ≤ 15 then R.ok (Opd.v true (.dK (mergeD [] l))) ρ2 else .stuck
          | none => .stuck
        | none => .stuck) F M H fun o ρ' F' M' H' => ∀ v, StA G Z F' M' ρ' σ [o] [v] H' → Q v H' := p
      split at q
      case h_2 => exact q.elim
      rename_i ds ρ2 e1
      obtain ⟨F2, M2, s2, t2, r2⟩ := a1.frzs e1
      split at q
      case h_2 => exact q.elim
      rename_i l e2
      split at q
      case isFalse => exact q.elim
      rename_i hz
      obtain ⟨ws, ew, pr⟩ := pairsD_use r2 e2
      refine ⟨h1, ws, ew, by rw [← pr.length]; exact hz, ?_⟩
      obtain ⟨nF2, nM2⟩ := s2.out nF1 nM1 (by rw [h1]; simp)
      have t3 : St G Z F2 M2 ρ2 σ (upd H1 a (.dK (mergeK [] ws))) := t2.aside nF2 nM2 nL h1 True.intro (fun _ z => nomatch z)
      have pr' : Prs G F2 (upd H1 a (.dK (mergeK [] ws))) l ws := by
        obtain ⟨ks, ds', vs', rfl, rfl, l1, rr⟩ := pr.to_zip
        exact Prs.of_zip l1 (rr.mono (fun _ h => h) (keeps_put nF2))
      have c : Con G F2 (upd H1 a (.dK (mergeK [] ws))) (.dK (mergeD [] l)) a := Con.mkK upd_same (Prs.merge pr' .nil)
      have s3 : Stp G.T F M H F2 (fun b => M2 b ∨ b = a) (upd H1 a (.dK (mergeK [] ws))) := ((sA.trans t.dj (s1.trans a1.st.dj s2)).aside ha h1 True.intro).more fun b hb => Or.elim hb Or.inl fun z => Or.inr (Or.inl (z ▸ ha))
      refine q F2 _ _ s3 (.ref a) ⟨t3.moreM (fun _ h => .inl h) fun b hb n => ?_, .ref a, [], rfl, ⟨a, rfl, .inr rfl, c⟩, fun b z => ?_, rfl⟩
      · rcases hb with hb | hb
        · exact absurd hb n
        · subst hb
          exact ⟨nF2, c.ne, nL⟩
      · cases (show V.ref a = V.ref b from z)
        refine ⟨fun j x ej hx ez => ?_, fun q hq => absurd hq (by simp)⟩
        obtain ⟨v, ev, r⟩ := t3.slot j x ej
        rw [ez] at ev
        cases ev
        obtain ⟨b', eb, _, hb⟩ := r.root hx
        cases eb
        rcases hb with ⟨_, hb⟩ | ⟨_, hb⟩
        · exact nM2 hb
        · exact nL hb
end
end Ev

namespace Ev
open PySem PySem.Spec PyProof.Rows L2

/-! ## sorted -/
def rSortD (K : PySem.W.Frag) : List V → Hp → VK → Prop := fun vs H Q => ∃ (a : Addr) (bs : List (V × PyData)), vs = [.ref a] ∧ SqL K H a (bs.map (·.1)) ∧ (∀ b ∈ bs, Dp K H b.1 b.2) ∧ PySem.W.AllAlike (bs.map (·.2)) ∧ PySem.W.Sortable (bs.map (·.2)) ∧
  (∀ b ∈ bs, b.2.depth ≤ 8) ∧ ∀ p, H p = none → Q (.ref p) (upd H p (.lst ((bs.mergeSort (PySem.W.dataLe false (·.2))).map (·.1))))
theorem cr_sortD {X : Cx} (hu : X.A.units + 65 < cLine) : CallR X (.builtin "sorted") (rSortD X.K) := by
  intro pins s σ H vs us Q I r h
  obtain ⟨a, bs, rfl, hs, hd, hal, hk, h8, q⟩ := h
  obtain ⟨its, rv, hl, hz⟩ := I.list hs
  rw [Vals.ref1 r]
  have key : ∀ {bs : List (V × PyData)} {its : List Value}, Vals (bs.map (·.1)) its → (∀ b ∈ bs, Dp X.K H b.1 b.2) → PySem.W.EachIs (fun v (b : V × PyData) => RelV b.1 v) its bs ∧ PySem.W.EachIs (fun v (b : V × PyData) => ∃ as, Reads s.heap v b.2 as) its bs := fun {bs} => by
    induction bs with
    | nil => intro its rv _; cases rv; exact ⟨.nil, .nil⟩
    | cons b bs ih =>
      intro its rv hd
      cases rv with
      | cons r1 rt =>
        obtain ⟨e1, e2⟩ := ih rt fun b hb => hd b (List.mem_cons_of_mem _ hb)
        exact ⟨.cons r1 e1, .cons (Dp.reads I _ _ _ (hd b List.mem_cons_self) r1) e2⟩
  obtain ⟨e1, e2⟩ := key rv hd
  refine PySem.W.sorted_data (β := V × PyData) (enc := (·.2)) hl.isList e1 e2 hal hk (by rw [List.length_map] at hz; exact hz) (fun b hb => by have := h8 b hb; omega) fun out ho eo => ?_
  obtain ⟨ep, he'⟩ := PyProof.Rows.sortedAll_at s.heap its (List.toArray out)
  have back : ∀ {out : List Value} {cs : List (V × PyData)}, PySem.W.EachIs (fun v (b : V × PyData) => RelV b.1 v) out cs → Vals (cs.map (·.1)) out := fun {out cs} h => by
    induction h with
    | nil => exact .nil
    | cons r1 _ ih => exact .cons r1 ih
  have hlen : ((bs.mergeSort (PySem.W.dataLe false (·.2))).map (·.1)).length ≤ sizeLine := by
    rw [List.length_map, List.length_mergeSort]
    rw [List.length_map] at hz
    exact hz
  exact ⟨.ref _, upd H (s.heap.objs.size + 1) (.lst ((bs.mergeSort (PySem.W.dataLe false (·.2))).map (·.1))), I.laid (t' := s.toks) (fun _ _ => PyProof.Rows.sortedAll_old) (Nat.le_succ _) ⟨hlen, out, ep, back eo, he'⟩, rfl, q _ (I.hok.fresh (Nat.le_succ _))⟩
/-- put in its place, behind those that are not greater -/
def insD (x : D × PyData) : List (D × PyData) → List (D × PyData)
  | [] => [x]
  | y :: r => if PySem.W.dataLe false (fun p : D × PyData => p.2) y x then y :: insD x r else x :: y :: r
def sortD (l : List (D × PyData)) : List (D × PyData) := l.mergeSort (PySem.W.dataLe false (fun p : D × PyData => p.2))
def zipPy : List D → Option (List (D × PyData))
  | [] => some []
  | x :: xs => match toPy x with
    | some p => match zipPy xs with
      | some r => some ((x, p) :: r)
      | none => none
    | none => none
def isTupNE : PyData → Bool
  | .tuple (_ :: _) => true
  | _ => false
def isOther : PyData → Bool
  | .none => false
  | .tuple _ => false
  | _ => true
def sortOk (ps : List PyData) : Bool := (ps.all fun p => ps.all fun q => PySem.W.alike p q) && (ps.all isTupNE || ps.all isOther) && ps.all fun p => decide (p.depth ≤ 8)
def fSorted (x : D) : Option (Bool × D) := match x with
  | .lst xs => match zipPy xs with
    | some l => if sortOk (l.map (·.2)) then some (true, .lst ((sortD l).map (·.1))) else none
    | none => none
  | _ => none
section
variable {G : Ge} {F : AS} {H : Hp}
theorem zipPy_use : ∀ {xs : List D} {l : List (D × PyData)} {vs : List V}, zipPy xs = some l → Reps G F H xs vs → ∃ cs : List ((D × PyData) × V), cs.map (·.1) = l ∧ cs.map (·.2) = vs ∧ ∀ c ∈ cs, Rep G F H c.1.1 c.2 ∧ Dp G.K H c.2 c.1.2
  | [], l, _, e, .nil => by cases e; exact ⟨[], rfl, rfl, by simp⟩
  | x :: xs, l, _, e, .cons h t => by
    unfold zipPy at e
    split at e
    case h_2 => cases e
    rename_i p hp
    split at e
    case h_2 => cases e
    rename_i r hr
    cases e
    obtain ⟨cs, e1, e2, e3⟩ := zipPy_use hr t
    refine ⟨((x, p), _) :: cs, by simp [e1], by simp [e2]; rfl, fun c hc => ?_⟩
    rcases List.mem_cons.mp hc with rfl | hc
    · exact ⟨h, Ra.dp (.inl h) hp⟩
    · exact e3 c hc
theorem ok_sorted : OpOk G (op1 fSorted) (rSortD G.K) := opOk1r fun {Z F M ρ σ H x v b d Q} t r e k => by
  unfold fSorted at e
  split at e
  case h_2 => cases e
  split at e
  case h_2 => cases e
  rename_i xs l hl
  split at e
  case isFalse => cases e
  rename_i hok
  cases e
  obtain ⟨a, vs, rfl, sq, rs⟩ := r.lst
  obtain ⟨cs, e1, e2, e3⟩ := zipPy_use hl rs
  unfold sortOk at hok
  simp only [Bool.and_eq_true, Bool.or_eq_true] at hok
  obtain ⟨⟨h1, h2⟩, h3⟩ := hok
  have eb : (cs.map fun c => (c.2, c.1.2)).map (·.1) = vs := by rw [List.map_map]; exact e2
  have ep : (cs.map fun c => (c.2, c.1.2)).map (·.2) = l.map (·.2) := by rw [← e1, List.map_map, List.map_map]; rfl
  have sm : ∀ (f : (D × PyData) × V → PyData) , True := fun _ => trivial
  refine ⟨a, cs.map fun c => (c.2, c.1.2), rfl, by rw [eb]; exact sq, fun q hq => ?_, ?_, ?_, fun q hq => ?_, fun p hp => ?_⟩
  · obtain ⟨c, hc, rfl⟩ := List.mem_map.mp hq
    exact (e3 c hc).2
  · rw [ep]
    intro d hd d' hd'
    exact List.all_eq_true.mp (List.all_eq_true.mp h1 d hd) d' hd'
  · rw [ep]
    rcases h2 with h2 | h2
    · refine .inl fun d hd => ?_
      have := List.all_eq_true.mp h2 d hd
      unfold isTupNE at this
      split at this
      · exact ⟨_, _, rfl⟩
      · cases this
    · refine .inr fun d hd => ?_
      have := List.all_eq_true.mp h2 d hd
      unfold isOther at this
      split at this
      · cases this
      · cases this
      · rename_i n1 n2
        exact ⟨n1, n2⟩
  · have hq2 : q.2 ∈ l.map (·.2) := by rw [← ep]; exact List.mem_map.mpr ⟨q, hq, rfl⟩
    simpa using List.all_eq_true.mp h3 _ hq2
  · have s1 : ((cs.map fun c => (c.2, c.1.2)).mergeSort (PySem.W.dataLe false (·.2))).map (·.1) = (cs.mergeSort (PySem.W.dataLe false fun c : (D × PyData) × V => c.1.2)).map (·.2) := by
      rw [← PySem.W.sort_maps (r := PySem.W.dataLe false fun c : (D × PyData) × V => c.1.2) (s := PySem.W.dataLe false fun q : V × PyData => q.2) (fun c : (D × PyData) × V => (c.2, c.1.2)) fun _ _ _ _ => rfl, List.map_map]
      rfl
    have s2 : (sortD l).map (·.1) = (cs.mergeSort (PySem.W.dataLe false fun c : (D × PyData) × V => c.1.2)).map (·.1.1) := by
      unfold sortD
      rw [← e1, ← PySem.W.sort_maps (r := PySem.W.dataLe false fun c : (D × PyData) × V => c.1.2) (s := PySem.W.dataLe false fun q : D × PyData => q.2) (fun c : (D × PyData) × V => c.1) fun _ _ _ _ => rfl, List.map_map]
      rfl
    rw [s1]
    rw [s2] at k
    refine k.newL t hp ?_
    have all : ∀ c ∈ cs.mergeSort (PySem.W.dataLe false fun c : (D × PyData) × V => c.1.2), Rep G F H c.1.1 c.2 := fun c hc => (e3 c (List.mem_mergeSort.mp hc)).1
    revert all
    generalize cs.mergeSort (PySem.W.dataLe false fun c : (D × PyData) × V => c.1.2) = ms
    intro all
    induction ms with
    | nil => exact .nil
    | cons c ms ih => exact .cons (all c List.mem_cons_self) (ih fun c hc => all c (List.mem_cons_of_mem _ hc))
end
end Ev

namespace Ev
open PySem PySem.Spec PyProof.Rows L2

/-! ## sorted, of what is collected -/
theorem eachV {X : Cx} {pins : List (Addr × Obj)} {σ : L2.St} {H : Hp} {s : Shared} (I : Inv X pins σ H s) : ∀ {bs : List (V × PyData)} {its : List Value}, Vals (bs.map (·.1)) its → (∀ b ∈ bs, Dp X.K H b.1 b.2) → PySem.W.EachIs (fun v (b : V × PyData) => RelV b.1 v) its bs ∧ PySem.W.EachIs (fun v (b : V × PyData) => ∃ as, Reads s.heap v b.2 as) its bs
  | [], its, rv, _ => by cases rv; exact ⟨.nil, .nil⟩
  | b :: bs, its, rv, hd => by
    cases rv with
    | cons r1 rt =>
      obtain ⟨e1, e2⟩ := eachV I rt fun b hb => hd b (List.mem_cons_of_mem _ hb)
      exact ⟨.cons r1 e1, .cons (Dp.reads I _ _ _ (hd b List.mem_cons_self) r1) e2⟩
theorem eachBack {out : List Value} {cs : List (V × PyData)} (h : PySem.W.EachIs (fun v (b : V × PyData) => RelV b.1 v) out cs) : Vals (cs.map (·.1)) out := by
  induction h with
  | nil => exact .nil
  | cons r1 _ ih => exact .cons r1 ih
theorem sort_core {X : Cx} {pins : List (Addr × Obj)} {σ : L2.St} {H : Hp} {s : Shared} {E : Value → Shared → Prop} {a : Addr} {bs : List (V × PyData)} {Q : VK} (I : Inv X pins σ H s) (hu : X.A.units + 65 < cLine)
    (C : ∀ R : List Value → Shared → Prop, (∀ (h' : Heap) (tk : Nat) (us : List Value), (∀ b o, s.heap.get? b = some o → h'.get? b = some o) → Vals (bs.map (·.1)) us → R us { s with heap := h', toks := tk }) → wpAny (model X.prog X.w) X.A.in1 (collect (.ref a)) R E s)
    (hd : ∀ b ∈ bs, Dp X.K H b.1 b.2) (hal : PySem.W.AllAlike (bs.map (·.2))) (hk : PySem.W.Sortable (bs.map (·.2))) (h8 : ∀ b ∈ bs, b.2.depth ≤ 8) (hl : bs.length ≤ sizeLine)
    (q : ∀ p, H p = none → Q (.ref p) (upd H p (.lst ((bs.mergeSort (PySem.W.dataLe false (·.2))).map (·.1))))) :
    wpAny (model X.prog X.w) X.A (call (.builtin "sorted") [.ref a]) (fun u s' => ∃ v H', Inv X pins σ H' s' ∧ RelV v u ∧ Q v H') E s := by
  refine Calls.call_function_entry PyProof.Rows.kind_sorted PyProof.Rows.plain_sorted PyProof.Rows.entry_sorted (PyProof.Rows.args_sorted1 _) ?_
  unfold Builtin.«sorted»
  refine wpAny_bind (m := checkCount "sorted" 1 1 _) (wpAny_pure ?_)
  refine wpAny_bind (C _ fun h' tk us kp rv => ?_)
  have I1 : Inv X pins σ H { s with heap := h', toks := tk } := I.kept kp
  obtain ⟨e1, e2⟩ := eachV I1 rv hd
  have hul : us.length = bs.length := by rw [← rv.length, List.length_map]
  refine wpAny_bind (wpAny_newList ?_ (by rw [hul]; exact hl))
  have hoL : (h'.push (seqObj "list" us.toArray 0)).get? h'.objs.size = some (seqObj "list" us.toArray 0) := Heap.get?_push_size _ rfl
  have old : ∀ b o, h'.get? b = some o → (PySem.W.sortingHeap (h'.push (seqObj "list" us.toArray 0)) h'.objs.size us).get? b = some o := fun b o e => PySem.W.sortingHeap_old (Nat.ne_of_lt (Heap.lt_size e)) (Heap.get?_push_of_some _ e)
  have e3 : PySem.W.EachIs (fun v (b : V × PyData) => ∃ as, Reads (PySem.W.sortingHeap (h'.push (seqObj "list" us.toArray 0)) h'.objs.size us) v b.2 as) us bs := e2.mono fun _ _ ⟨as, r⟩ => ⟨as, PyProof.Rows.Reads.keeps old r⟩
  show wpAny _ _ _ _ _ { s with heap := h'.push (seqObj "list" us.toArray 0), toks := tk }
  refine wpAny_bind (wpAny_holding (wpAny_call_entry PyProof.Rows.slot_list_sort ⟨_, hoL, rfl⟩ PyProof.Rows.entry_list_sort
    (PySem.W.list_sort_vals (κ := PySem.W.dataKind (PySem.W.sortingHeap (h'.push (seqObj "list" us.toArray 0)) h'.objs.size us) (bs.map (·.2))) (s := { s with heap := h'.push (seqObj "list" us.toArray 0), toks := tk }) hoL
      (PySem.W.SortsAt.data (s := { s with heap := PySem.W.sortingHeap (h'.push (seqObj "list" us.toArray 0)) h'.objs.size us, toks := tk }) (PySem.W.each_map (R := fun v d => ∃ as, Reads (PySem.W.sortingHeap (h'.push (seqObj "list" us.toArray 0)) h'.objs.size us) v d as) (fun b : V × PyData => b.2) e3) hal hk ?hu) (by rw [hul]; exact hl) ⟨_, rfl, ?_⟩)
    (PyProof.Rows.args_list_sort _)))
  case hu =>
    intro d hd
    obtain ⟨b, hb, rfl⟩ := List.mem_map.mp hd
    have := h8 b hb
    show X.A.units + 1 + 1 + _ < _
    omega
  have ho := PySem.W.sortVals_data (rev := false) e1 e3 hal
  have hlo := PySem.W.sortVals_length (κ := PySem.W.dataKind (PySem.W.sortingHeap (h'.push (seqObj "list" us.toArray 0)) h'.objs.size us) (bs.map (·.2))) false (rfl : us.length = us.length)
  revert ho hlo
  generalize PySem.W.sortVals (PySem.W.dataKind (PySem.W.sortingHeap (h'.push (seqObj "list" us.toArray 0)) h'.objs.size us) (bs.map (·.2))) false us us = out
  intro ho hlo
  obtain ⟨ep, he'⟩ := PyProof.Rows.sortedHeap_at (vs := us) (out := out.toArray) hoL
  have hlen : ((bs.mergeSort (PySem.W.dataLe false (·.2))).map (·.1)).length ≤ sizeLine := by
    rw [List.length_map, List.length_mergeSort]
    exact hl
  refine wpAny_pure ⟨_, rfl, .ref h'.objs.size, upd H h'.objs.size (.lst ((bs.mergeSort (PySem.W.dataLe false (·.2))).map (·.1))), I1.laid (t' := tk) (fun b u e => ?_) (Nat.le_refl _) ⟨hlen, out, ep, eachBack ho, he'⟩, rfl, q _ (I1.hok.fresh (Nat.le_refl _))⟩
  have hb : b < h'.objs.size := Heap.lt_size e
  rw [PyProof.Rows.sortedHeap_old (Nat.ne_of_lt hb) (by rw [size_push']; exact Nat.lt_succ_of_lt hb)]
  exact Heap.get?_push_of_some _ e

section
variable {X : Cx} {pins : List (Addr × Obj)} {σ : L2.St} {H : Hp} {s : Shared} {E : Value → Shared → Prop} {d : Addr}
theorem valsRefs : ∀ cs : List Addr, Vals (cs.map V.ref) (cs.map Value.ref)
  | [] => .nil
  | _ :: r => .cons rfl (valsRefs r)
theorem items_eq {α : Type} {acc : List Value} {ks : List α} {g : α → Value} (hl : acc.length = ks.length) (h : ∀ (j : Nat) (v : Value), acc[j]? = some v → ∃ k : α, ks[j]? = some k ∧ v = g k) : acc = ks.map g := by
  refine List.ext_getElem? fun j => ?_
  rw [List.getElem?_map]
  cases q : acc[j]? with
  | none =>
    have : ks.length ≤ j := by rw [← hl]; exact List.getElem?_eq_none_iff.mp q
    rw [List.getElem?_eq_none this]
    rfl
  | some v =>
    obtain ⟨k, e1, e2⟩ := h j v q
    rw [e1, e2]
    rfl
theorem collect_dT {kvs : List (List Key × V)} (I : Inv X pins σ H s) (hc : X.calm = true) (hd : Rd H d (.dT kvs)) : ∃ cs, IsKeys H kvs cs ∧ kvs.length ≤ sizeLine ∧ kvs.length = cs.length ∧
    ∀ R : List Value → Shared → Prop, (∀ (h' : Heap) (tk : Nat) (us : List Value), (∀ b o, s.heap.get? b = some o → h'.get? b = some o) → Vals (cs.map V.ref) us → R us { s with heap := h', toks := tk }) → wpAny (model X.prog X.w) X.A.in1 (collect (.ref d)) R E s := by
  obtain ⟨hz, lo, rows, prd, ob, ents, epo, hob, hex, hdat, hent, hnod⟩ := (show ObjOk X.prog X.w H s.heap d (.dT kvs) from hd.ok I.hok)
  have n1 : ents.size = rows.length := size_of_entries hent
  have n2 : kvs.length = rows.length := Paired.length prd
  refine ⟨rows.map fun x => x.2.1, isKeys_of prd, hz, by rw [List.length_map, n2], fun R hR => ?_⟩
  refine PySem.W.kdu_collect (kdl_raw lo hex hdat) (I.ok.hd hc) hob (by rw [n1, ← n2]; exact hz) fun h' tk acc kp it => hR h' tk _ kp ?_
  have : acc.toList = (rows.map fun x => x.2.1).map Value.ref := by
    rw [List.map_map]
    refine items_eq (by rw [Array.length_toList, it.1, n1]) fun j v hj => ?_
    obtain ⟨en, he, hv⟩ := it.2 j v (by rw [← Array.getElem?_toList]; exact hj)
    rw [entry_at hent j] at he
    obtain ⟨x, e1, e2⟩ := Option.map_eq_some_iff.mp he
    exact ⟨x, e1, by rw [hv, ← e2]; rfl⟩
  rw [this]
  exact valsRefs _
theorem collect_dK {kvs : List (Key × V)} (I : Inv X pins σ H s) (hc : X.calm = true) (hd : Rd H d (.dK kvs)) : kvs.length ≤ sizeLine ∧
    ∀ R : List Value → Shared → Prop, (∀ (h' : Heap) (tk : Nat) (us : List Value), (∀ b o, s.heap.get? b = some o → h'.get? b = some o) → Vals (kvs.map fun kv => kV kv.1) us → R us { s with heap := h', toks := tk }) → wpAny (model X.prog X.w) X.A.in1 (collect (.ref d)) R E s := by
  obtain ⟨hz, lo, vs, rel, dd⟩ := dk_rd I.hok hd
  obtain ⟨ep, hat⟩ := dd.dictAt
  have ek : (kvs.map fun kv => kV kv.1) = vs.map fun p => kV p.1 := by
    have := congrArg (List.map kV) rel.keys
    rw [List.map_map, List.map_map] at this
    exact this
  refine ⟨hz, fun R hR => ?_⟩
  refine PySem.W.kdu_collect (PySem.W.kdl_dict (knd := mixKind X.prog X.w) (kvs := vs) (ep := ep) lo) (I.ok.hd hc) hat (by rw [← rel.length]; exact hz) fun h' tk acc kp it => hR h' tk _ kp ?_
  rw [ek]
  exact keys_at (by rw [Array.length_toList]; exact it.1) fun j v e => it.2 j v (by rw [← Array.getElem?_toList]; exact e)
theorem collect_tup {xs : List V} (I : Inv X pins σ H s) (hs : SqT X.K H d xs) : xs.length ≤ sizeLine ∧
    ∀ R : List Value → Shared → Prop, (∀ (h' : Heap) (tk : Nat) (us : List Value), (∀ b o, s.heap.get? b = some o → h'.get? b = some o) → Vals xs us → R us { s with heap := h', toks := tk }) → wpAny (model X.prog X.w) X.A.in1 (collect (.ref d)) R E s := by
  obtain ⟨its, rv, ⟨ob, hob, hcl, m, hdat⟩, hz⟩ := I.tuple hs
  refine ⟨hz, fun R hR => wpAny_collect_seq d (.inr rfl) hob hcl hdat (fun h' kp => ?_) (by rw [List.size_toArray, ← rv.length]; exact hz)⟩
  exact hR h' s.toks _ kp (by simpa using rv)
end
/-- what is sorted, what becomes of it -/
def SrtK (K : PySem.W.Frag) (H : Hp) (Q : VK) (xs : List V) : Prop := ∃ bs : List (V × PyData), bs.map (·.1) = xs ∧ (∀ b ∈ bs, Dp K H b.1 b.2) ∧ PySem.W.AllAlike (bs.map (·.2)) ∧ PySem.W.Sortable (bs.map (·.2)) ∧ (∀ b ∈ bs, b.2.depth ≤ 8) ∧
  ∀ p, H p = none → Q (.ref p) (upd H p (.lst ((bs.mergeSort (PySem.W.dataLe false (·.2))).map (·.1))))
def rSortX (K : PySem.W.Frag) : List V → Hp → VK → Prop := fun vs H Q => ∃ a, vs = [.ref a] ∧ ((∃ xs, SqL K H a xs ∧ SrtK K H Q xs) ∨ (∃ xs, SqT K H a xs ∧ SrtK K H Q xs) ∨ (∃ kvs, Rd H a (.dK kvs) ∧ SrtK K H Q (kvs.map fun kv => kV kv.1)) ∨ ∃ kvs, Rd H a (.dT kvs) ∧ ∀ cs, IsKeys H kvs cs → SrtK K H Q (cs.map V.ref))
theorem cr_sortX {X : Cx} (hc : X.calm = true) (hu : X.A.units + 65 < cLine) : CallR X (.builtin "sorted") (rSortX X.K) := by
  intro pins s σ H vs us Q I r h
  obtain ⟨a, rfl, h⟩ := h
  rcases h with ⟨xs, hs, bs, rfl, k⟩ | h
  · exact cr_sortD hu pins s σ H _ us Q I r ⟨a, bs, rfl, hs, k⟩
  rw [Vals.ref1 r]
  rcases h with ⟨xs, hs, bs, rfl, k⟩ | ⟨kvs, hd, bs, e, k⟩ | ⟨kvs, hd, k⟩
  · obtain ⟨hz, C⟩ := collect_tup (E := X.xe) I hs
    exact sort_core I hu C k.1 k.2.1 k.2.2.1 k.2.2.2.1 (by rw [List.length_map] at hz; exact hz) k.2.2.2.2
  · obtain ⟨hz, C⟩ := collect_dK (E := X.xe) I hc hd
    rw [← e] at C
    exact sort_core I hu C k.1 k.2.1 k.2.2.1 k.2.2.2.1 (by have := congrArg List.length e; simp at this; omega) k.2.2.2.2
  · obtain ⟨cs, hcs, hz, hl, C⟩ := collect_dT (E := X.xe) I hc hd
    obtain ⟨bs, e, k⟩ := k cs hcs
    rw [← e] at C
    exact sort_core I hu C k.1 k.2.1 k.2.2.1 k.2.2.2.1 (by have := congrArg List.length e; simp at this; omega) k.2.2.2.2

section
variable {G : Ge} {Z : Zn} {F M : AS} {ρ : En} {σ : L2.St} {H : Hp} {Q : VK}
theorem srt_use {xs : List D} {l : List (D × PyData)} {vs : List V} (t : St G Z F M ρ σ H) (hl : zipPy xs = some l) (hok : sortOk (l.map (·.2)) = true) (rs : Reps G F H xs vs) (k : Kont G Z F M ρ σ H true (.lst ((sortD l).map (·.1))) Q) : SrtK G.K H Q vs := by
  obtain ⟨cs, e1, e2, e3⟩ := zipPy_use hl rs
  unfold sortOk at hok
  simp only [Bool.and_eq_true, Bool.or_eq_true] at hok
  obtain ⟨⟨h1, h2⟩, h3⟩ := hok
  have ep : (cs.map fun c => (c.2, c.1.2)).map (·.2) = l.map (·.2) := by rw [← e1, List.map_map, List.map_map]; rfl
  refine ⟨cs.map fun c => (c.2, c.1.2), by rw [List.map_map]; exact e2, fun q hq => ?_, ?_, ?_, fun q hq => ?_, fun p hp => ?_⟩
  · obtain ⟨c, hc, rfl⟩ := List.mem_map.mp hq
    exact (e3 c hc).2
  · rw [ep]
    exact fun d hd d' hd' => List.all_eq_true.mp (List.all_eq_true.mp h1 d hd) d' hd'
  · rw [ep]
    refine h2.imp (fun h2 d hd => ?_) fun h2 d hd => ?_
    · have q := List.all_eq_true.mp h2 d hd
      unfold isTupNE at q
      split at q
      · exact ⟨_, _, rfl⟩
      · cases q
    · have q := List.all_eq_true.mp h2 d hd
      unfold isOther at q
      split at q
      · cases q
      · cases q
      · rename_i n1 n2
        exact ⟨n1, n2⟩
  · have hq2 : q.2 ∈ l.map (·.2) := by rw [← ep]; exact List.mem_map.mpr ⟨q, hq, rfl⟩
    simpa using List.all_eq_true.mp h3 _ hq2
  · have s1 : ((cs.map fun c => (c.2, c.1.2)).mergeSort (PySem.W.dataLe false (·.2))).map (·.1) = (cs.mergeSort (PySem.W.dataLe false fun c : (D × PyData) × V => c.1.2)).map (·.2) := by
      rw [← PySem.W.sort_maps (r := PySem.W.dataLe false fun c : (D × PyData) × V => c.1.2) (s := PySem.W.dataLe false fun q : V × PyData => q.2) (fun c : (D × PyData) × V => (c.2, c.1.2)) fun _ _ _ _ => rfl, List.map_map]
      rfl
    have s2 : (sortD l).map (·.1) = (cs.mergeSort (PySem.W.dataLe false fun c : (D × PyData) × V => c.1.2)).map (·.1.1) := by
      unfold sortD
      rw [← e1, ← PySem.W.sort_maps (r := PySem.W.dataLe false fun c : (D × PyData) × V => c.1.2) (s := PySem.W.dataLe false fun q : D × PyData => q.2) (fun c : (D × PyData) × V => c.1) fun _ _ _ _ => rfl, List.map_map]
      rfl
    rw [s1]
    rw [s2] at k
    refine k.newL t hp ?_
    have all : ∀ c ∈ cs.mergeSort (PySem.W.dataLe false fun c : (D × PyData) × V => c.1.2), Rep G F H c.1.1 c.2 := fun c hc => (e3 c (List.mem_mergeSort.mp hc)).1
    revert all
    generalize cs.mergeSort (PySem.W.dataLe false fun c : (D × PyData) × V => c.1.2) = ms
    intro all
    induction ms with
    | nil => exact .nil
    | cons c ms ih => exact .cons (all c List.mem_cons_self) (ih fun c hc => all c (List.mem_cons_of_mem _ hc))
end
def keyD : Key → D
  | .inl i => .int i
  | .inr s => .str s
def itemsS : D → Option (List D)
  | .lst xs => some xs
  | .tup xs => some xs
  | .ktp xs => some xs
  | .dK kvs => some (kvs.map fun kv => keyD kv.1)
  | .dT kvs => some (kvs.map fun kv => .tup (kv.1.map keyD))
  | _ => none
def srtL (xs : List D) : Option (List D) := match zipPy xs with
  | some l => if sortOk (l.map (·.2)) then some ((sortD l).map (·.1)) else none
  | none => none
def fSortX (x : D) : Option (Bool × D) := match itemsS x with
  | some xs => match srtL xs with
    | some ys => some (true, .lst ys)
    | none => none
  | none => none
section
variable {G : Ge} {F : AS} {H : Hp}
theorem keyD_rep (k : Key) : Rep G F H (keyD k) (kV k) := by
  cases k with
  | inl i => exact .int i
  | inr s => exact .str s
theorem keyD_reps : ∀ ks : List Key, Reps G F H (ks.map keyD) (ks.map kV)
  | [] => .nil
  | k :: ks => .cons (keyD_rep k) (keyD_reps ks)
theorem prs_keys : ∀ {kvs : List (Key × D)} {ws : List (Key × V)}, Prs G F H kvs ws → Reps G F H (kvs.map fun kv => keyD kv.1) (ws.map fun kv => kV kv.1)
  | [], [], _ => .nil
  | _ :: _, _ :: _, .cons h t => .cons (by have q := h.1; dsimp only; rw [q]; exact keyD_rep _) (prs_keys t)
theorem prsT_keys (tf : ∀ a vs, H a = some (.tup vs) → F a) : ∀ {kvs : List (List Key × D)} {ws : List (List Key × V)} {cs : List Addr}, Prs G F H kvs ws → IsKeys H ws cs → Reps G F H (kvs.map fun kv => .tup (kv.1.map keyD)) (cs.map V.ref)
  | [], [], [], _, _ => .nil
  | _ :: _, _ :: _, _ :: _, .cons h t, .cons h2 t2 => .cons (by have q := h.1; dsimp only; rw [q]; exact .tup (tf _ _ h2) h2 (keyD_reps _)) (prsT_keys tf t t2)
theorem ok_sortX : OpOk G (op1 fSortX) (rSortX G.K) := opOk1r fun {Z F M ρ σ H x v b d Q} t r e k => by
  unfold fSortX at e
  split at e
  case h_2 => cases e
  rename_i xs hx
  split at e
  case h_2 => cases e
  rename_i ys hy
  cases e
  unfold srtL at hy
  split at hy
  case h_2 => cases hy
  rename_i l hl
  split at hy
  case isFalse => cases hy
  rename_i hok
  cases hy
  unfold itemsS at hx
  split at hx
  · cases hx
    obtain ⟨a, vs, rfl, sq, rs⟩ := r.lst
    exact ⟨a, rfl, .inl ⟨vs, sq, srt_use t hl hok rs k⟩⟩
  · cases hx
    cases r.tup with
    | tup f h rs => exact ⟨_, rfl, .inr (.inl ⟨_, .inl (.inl h), srt_use t hl hok rs k⟩)⟩
  · cases hx
    cases r.ktp with
    | ktp h rs => exact ⟨_, rfl, .inr (.inl ⟨_, h H, srt_use t hl hok rs k⟩)⟩
  · cases hx
    obtain ⟨a, ws, rfl, h, p⟩ := r.atK
    exact ⟨_, rfl, .inr (.inr (.inl ⟨ws, .inl h, srt_use t hl hok (prs_keys p) k⟩))⟩
  · cases hx
    obtain ⟨a, ws, rfl, h, p⟩ := r.atT
    exact ⟨_, rfl, .inr (.inr (.inr ⟨ws, .inl h, fun cs hcs => srt_use t hl hok (prsT_keys t.tf p hcs) k⟩))⟩
  · cases hx
end
end Ev

namespace Ev
open PySem PySem.Spec PyProof.Rows L2

/-! ## set(xs), xs a list of ints -/
/-- the object that a new set is -/
abbrev set0 (w : World) : Obj := { cls := .type "set", dict := none, data := .set #[] 0 (.fresh 0 0 (!w.params.followText "set-order")) }
section
variable {P : Program} {w : World} {A : Around} {E : Value → Shared → Prop} {s : Shared}
theorem set_lst {l : Addr} {items : Array Value} {ns : List Int} {Q : Value → Shared → Prop} (calm : A.handled = none) (il : s.heap.IsList l items) (ia : IntsAre items.toList ns) (fits : ns.length + 1 < scanBound)
    (k : ∀ (h2 : Heap) (tk n : Nat), SetR w h2 s.heap.objs.size (fun j => decide (j ∈ ns)) n → n ≤ ns.length → (∀ b o, s.heap.get? b = some o → h2.get? b = some o) → Q (.ref s.heap.objs.size) { s with heap := h2, toks := tk }) :
    wpAny (model P w) A (call (.type "set") [.ref l]) Q E s := by
  have sz : items.size = ns.length := by rw [← Array.length_toList]; exact ia.length
  obtain ⟨c0, c1, c2⟩ := PySem.F.called_set.mro
  have a1 := PySem.F.called_set.made
  have a2 := PySem.F.called_set.sub
  refine wpAny_call (codeAny_of_tree ?_)
  show wpAny _ _ (callAny (.type "set") ⟨[.ref l], []⟩) _ _ _
  refine wpAny_pure ⟨Code.quiet_builtin _ (by decide +kernel), codeAny_builtin PySem.F.entry_type_call ?_⟩
  rw [Around.under_plain (PySem.weight_type_call_type "set" [.ref l] []) rfl]
  have a3 := PySem.F.called_set.notType
  have a4 := PySem.F.called_set.canCreate
  have a5 := PySem.F.typeCall_set_1 (.ref l)
  repeat (any_goals (first | (assumption) | wp_step))
  refine codeAny_mono (code_set_led1 (.ref l) (E := E) (Q₁ := fun u s1 => u = .ref s.heap.objs.size ∧ s1 = { s with heap := s.heap.push (set0 w) }) ⟨rfl, rfl⟩) fun r s1 hr => ?_
  match r, hr with
  | .error e, hr => exact hr
  | .ok .next, hr => exact hr.elim
  | .ok .brk, hr => exact hr.elim
  | .ok .cont, hr => exact hr.elim
  | .ok (.ret u), hr =>
    obtain ⟨rfl, rfl⟩ := hr
    have at0 : (s.heap.push (set0 w)).get? s.heap.objs.size = some (set0 w) := Heap.get?_push_size _ rfl
    have ty0 : Shared.TypeIs { s with heap := s.heap.push (set0 w) } (.ref s.heap.objs.size) "set" := ⟨_, at0, rfl⟩
    have a6 := PySem.F.called_set.init.lookup
    have a7 := PySem.F.called_set.init.bind (.ref s.heap.objs.size)
    repeat (any_goals (first | (assumption) | wp_step))
    refine codeAny_mono (codeAny_call_builtin (R := wants (fun u s2 => u = .none ∧ ∃ h2 tk n, s2 = { s with heap := h2, toks := tk } ∧ SetR w h2 s.heap.objs.size (fun j => decide (j ∈ ns)) n ∧ n ≤ ns.length ∧ ∀ b o, s.heap.get? b = some o → h2.get? b = some o) E) PySem.F.called_set.init.plain PySem.F.entry_set_init (check_set_init_1 ty0 ?_)) fun r2 s2 hr2 => ?_
    · obtain ⟨⟨qc, qd, qt, qs⟩, hol, hcl, nl, hdl⟩ := il
      simp only at hcl hdl
      subst hcl hdl
      have olp : (s.heap.push (set0 w)).get? l = some ⟨.type "list", qd, .seq items nl, qs⟩ := Heap.get?_push_of_some _ hol
      have b1 := PySem.F.sub_list_set
      have b2 := PySem.F.sub_list_frozenset
      have b3 : (Value.type "list" == Value.type "dict") = false := by decide
      have il2 : (s.heap.push (set0 w)).IsList l items := ⟨_, olp, rfl, nl, rfl⟩
      unfold Builtin.«set.__init__» noKeywords Builtin.Frozenset.updateFrom
      generalize hg : pyIter = pit
      wp_walk
      subst hg
      refine wpAny_pyIter_list il2 ?_
      refine wpAny_bind (wpAny_runValue ?_)
      have lt : l < s.heap.objs.size := Heap.lt_size hol
      have sp : (s.heap.push (set0 w)).objs.size = s.heap.objs.size + 1 := Heap.size_push ..
      have calm3 : A.in1.in1.in1.handled = none := by simp [calm]
      have ne : l ≠ (s.heap.push (set0 w)).objs.size := by rw [sp]; exact Nat.ne_of_lt (Nat.lt_succ_of_lt lt)
      have out : s.heap.objs.size ∉ [(s.heap.push (set0 w)).objs.size, l] := by
        rw [sp]
        simp only [List.mem_cons, List.not_mem_nil, or_false, not_or]
        exact ⟨Nat.ne_of_lt (Nat.lt_succ_self _), Nat.ne_of_gt lt⟩
      refine set_update_ints ((Walks.list calm3 _ l ne items).toS) s.heap.objs.size out ns sz fits (fun i v hv => ?_) (items.size - 0) 0 _ (by omega) (Nat.zero_le _) ⟨⟨_, Heap.get?_push_size _ rfl, rfl, rfl⟩, il2.push _⟩ ⟨0, Nat.le_refl 0, setR_new_at (Heap.get?_push_of_some _ at0)⟩ ?_
      · have hi : i < ns.length := by rw [← sz]; exact (Array.getElem?_eq_some_iff.mp hv).1
        obtain ⟨t, e⟩ := PyProof.Rows.IntsAre.int_at ia i v (by rw [Array.getElem?_toList]; exact hv)
        exact ⟨ns[i], t, List.getElem?_eq_getElem hi, by rw [e, List.getD_eq_getElem?_getD, List.getElem?_eq_getElem hi]; rfl⟩
      · intro s' n moved hn hS
        obtain ⟨h2, g2, d2, t2, o2⟩ := s'
        obtain rfl : g2 = s.gens := moved.gens
        obtain rfl : d2 = s.drawn := moved.drawn
        obtain rfl : o2 = s.os := moved.os
        show wpAny _ _ _ _ _ _
        refine wpAny_pure ?_
        show wpAny _ _ (ret Value.none) _ _ _
        rw [sz] at hn
        refine wpAny_pure ⟨rfl, h2, t2, n, rfl, hS, hn, fun b o e => ?_⟩
        have hb : b < s.heap.objs.size := Heap.lt_size e
        refine moved.heap b o ?_ (Heap.get?_push_of_some _ (Heap.get?_push_of_some _ e))
        simp only [List.mem_cons, List.not_mem_nil, or_false, not_or]
        exact ⟨Nat.ne_of_lt hb, by rw [sp]; exact Nat.ne_of_lt (Nat.lt_succ_of_lt hb)⟩
    · match r2, hr2 with
      | .error e, hr2 => exact hr2
      | .ok .next, hr2 => exact hr2.elim
      | .ok .brk, hr2 => exact hr2.elim
      | .ok .cont, hr2 => exact hr2.elim
      | .ok (.ret u), hr2 =>
        obtain ⟨rfl, h2, tk, n, rfl, hS, hn, kp⟩ := hr2
        repeat (any_goals (first | (assumption) | wp_step))
        exact k _ _ _ hS hn kp
end

/-! ## sorted(set(xs)) -/
section
variable {X : Cx}
def rSetL (K : PySem.W.Frag) (w : World) : List V → Hp → VK → Prop := fun vs H Q => ∃ (l : Addr) (ns : List Int), vs = [.ref l] ∧ SqL K H l (ns.map V.int) ∧ ns.length + 1 < scanBound ∧ ∀ a n, n ≤ ns.length → H a = none → Q (.ref a) (upd H a (SetO w a (fun j => decide (j ∈ ns)) n))
theorem cr_setL (hc : X.calm = true) : CallR X (.type "set") (rSetL X.K X.w) := by
  intro pins s σ H vs us Q I r h
  obtain ⟨l, ns, rfl, hl, hf, q⟩ := h
  obtain ⟨its, rv, pl, hz⟩ := I.list hl
  rw [Vals.ref1 r]
  have free : H s.heap.objs.size = none := I.hok.fresh (Nat.le_refl _)
  refine set_lst (I.ok.hd hc) pl.isList (by simpa using rv.ints) hf fun h2 tk n hS hn kp => ?_
  exact ⟨.ref s.heap.objs.size, _, I.laid (t' := tk) kp (Nat.le_refl _) (setO_new hS), rfl, q _ n hn free⟩
/-- put in its place, once -/
def insI (x : Int) : List Int → List Int
  | [] => [x]
  | y :: r => if x < y then x :: y :: r else if x = y then y :: r else y :: insI x r
def srtI (ns : List Int) : List Int := ns.foldr insI []
theorem mem_insI {x z : Int} : ∀ {l : List Int}, z ∈ insI x l ↔ z = x ∨ z ∈ l
  | [] => by simp [insI]
  | y :: r => by
    unfold insI
    split
    · simp
    · split
      · rename_i h; subst h; simp
      · simp only [List.mem_cons, mem_insI (l := r)]
        constructor
        · rintro (h | h | h) <;> simp [h]
        · rintro (h | h | h) <;> simp [h]
theorem srt_insI {x : Int} : ∀ {l : List Int}, l.Pairwise (· < ·) → (insI x l).Pairwise (· < ·)
  | [], _ => by simp [insI]
  | y :: r, h => by
    obtain ⟨h1, h2⟩ := List.pairwise_cons.mp h
    unfold insI
    split
    · rename_i q
      exact List.pairwise_cons.mpr ⟨fun z hz => by
        rcases List.mem_cons.mp hz with rfl | hz
        · exact q
        · have := h1 z hz; omega, h⟩
    · split
      · exact h
      · rename_i q1 q2
        refine List.pairwise_cons.mpr ⟨fun z hz => ?_, srt_insI h2⟩
        rcases mem_insI.mp hz with rfl | hz
        · omega
        · exact h1 z hz
theorem mem_srtI {z : Int} : ∀ {ns : List Int}, z ∈ srtI ns ↔ z ∈ ns
  | [] => by simp [srtI]
  | x :: r => by
    show z ∈ insI x (srtI r) ↔ _
    rw [mem_insI, mem_srtI, List.mem_cons]
theorem srt_srtI : ∀ ns : List Int, (srtI ns).Pairwise (· < ·)
  | [] => .nil
  | x :: r => srt_insI (srt_srtI r)
/-- two such lists of the same numbers are one -/
theorem srt_one : ∀ {xs ys : List Int}, xs.Pairwise (· < ·) → ys.Pairwise (· < ·) → (∀ z, z ∈ xs ↔ z ∈ ys) → xs = ys
  | [], [], _, _, _ => rfl
  | [], y :: r, _, _, h => by have := (h y).mpr List.mem_cons_self; simp at this
  | x :: r, [], _, _, h => by have := (h x).mp List.mem_cons_self; simp at this
  | x :: xs, y :: ys, hx, hy, h => by
    obtain ⟨a1, a2⟩ := List.pairwise_cons.mp hx
    obtain ⟨b1, b2⟩ := List.pairwise_cons.mp hy
    have e : x = y := by
      rcases List.mem_cons.mp ((h x).mp List.mem_cons_self) with e | e
      · exact e
      · rcases List.mem_cons.mp ((h y).mpr List.mem_cons_self) with e2 | e2
        · exact e2.symm
        · have := a1 y e2; have := b1 x e; omega
    subst e
    rw [srt_one a2 b2 fun z => ?_]
    constructor
    · intro hz
      rcases List.mem_cons.mp ((h z).mp (List.mem_cons_of_mem _ hz)) with e | e
      · subst e; have := a1 z hz; omega
      · exact e
    · intro hz
      rcases List.mem_cons.mp ((h z).mpr (List.mem_cons_of_mem _ hz)) with e | e
      · subst e; have := b1 z hz; omega
      · exact e
def fSortSet (x : D) : Option (Bool × D) := match x with
  | .lst xs => match intsOf xs with
    | some ns => if ns.length < 64 then some (true, .lst ((srtI ns).map .int)) else none
    | none => none
  | _ => none
theorem reps_ints {G : Ge} {F : AS} {H : Hp} : ∀ ns : List Int, Reps G F H (ns.map .int) (ns.map .int)
  | [] => .nil
  | n :: ns => .cons (.int n) (reps_ints ns)
def rSortSet (K : PySem.W.Frag) (w : World) : List V → Hp → VK → Prop := fun vs H Q => rSetL K w vs H fun v H1 => rSortedSet w [v] H1 Q
theorem Kont.laid {G : Ge} {Z : Zn} {F M : AS} {ρ : En} {σ : L2.St} {H : Hp} {b : Bool} {d : D} {Q : VK} {a : Addr} {o : HO} (k : Kont G Z F M ρ σ H b d Q) (t : Ev.St G Z F M ρ σ H) (ha : H a = none) : Kont G Z F M ρ σ (upd H a o) b d Q :=
  fun F' M' H' v s q => k F' M' H' v ((Stp.laid ha).trans t.dj s) q
theorem ints_of_reps {G : Ge} {F : AS} {H : Hp} : ∀ {xs : List D} {ns : List Int} {vs : List V}, intsOf xs = some ns → Reps G F H xs vs → vs = ns.map V.int
  | [], ns, _, e, .nil => by cases e; rfl
  | x :: xs, ns, _, e, .cons h t => by
    cases h with
    | int i =>
      unfold intsOf at e
      split at e
      · rename_i ms hm
        cases e
        rw [ints_of_reps hm t]
        rfl
      · cases e
    | _ => cases e
theorem ok_sortSet {G : Ge} {w : World} : OpOk G (op1 fSortSet) (rSortSet G.K w) := opOk1r fun {Z F M ρ σ H x v b d Q} t r e k => by
  unfold fSortSet at e
  split at e
  case h_2 => cases e
  split at e
  case h_2 => cases e
  rename_i xs ns hns
  split at e
  case isFalse => cases e
  rename_i h64
  cases e
  obtain ⟨a, vs, rfl, sq, rs⟩ := r.lst
  rw [ints_of_reps hns rs] at sq
  refine ⟨a, ns, rfl, sq, by unfold scanBound; omega, fun b n hn hb => ⟨b, _, n, rfl, upd_same, by omega, fun ms p h1 h2 h3 hp => ?_⟩⟩
  have e1 : ms = srtI ns := srt_one h1 (srt_srtI ns) fun z => by rw [h2, mem_srtI, decide_eq_true_eq]
  subst e1
  exact (k.laid t hb).newL (t.laid hb fun _ z => nomatch z) hp (reps_ints _)
theorem je_sortSet {G : Ge} {Z : Zn} {E : XK} {e : Expr} {f : En → R Opd} {p p2 q pos : Pos} (hK : X.K = G.K) (hc : X.calm = true) (g1 : Gl X "sorted") (m1 : X.mg "sorted" = none) (g2 : Gl X "set") (m2 : X.mg "set" = none) (ha : PE X e (tE G Z E f)) (hp : plainArg e = true) :
    PE X (.Call (.Name "sorted" p) [.Call (.Name "set" p2) [e] [] q] [] pos) (tE G Z E (sOp (op1 fSortSet) [f])) := by
  have pa1 : PA X [e] (tCons (tE G Z E f) tNil) := pa_cons ha pa_nil (plainArg_eq hp)
  have pe1 := pe_callTy (p := p2) (pos := q) (cr_setL hc) g2 m2 PyProof.Rows.boot_set pa1 (by decide) (by decide) (plainArg_eq hp) (plainArgs_any (by rfl))
  refine (pe_callB (p := p) (pos := pos) (cr_sortedSet hc) g1 m1 (by decide +kernel) (pa_cons pe1 pa_nil (plainArg_eq (by rfl))) (by decide) (by decide) (plainArg_eq (by rfl)) (plainArgs_any (by rfl))).imp fun σ H Q h => ?_
  have ok : OpOk G (op1 fSortSet) (rSortSet X.K X.w) := by rw [hK]; exact ok_sortSet
  exact tE_mono (tA1 (sOp_use ok h)) fun x H1 h1 => h1
end
end Ev

namespace Ev
open PySem PySem.Spec PyProof.Rows L2

/-! ## the exception that is handled -/
structure XOk (K : PySem.W.Frag) (G : Ge) (sub : Nat → Nat → Option Bool) (fl : Nat → List Str) (c : Nat) : Prop where
  xf : XfC K (G.cls c)
  cl : (PySem.W.clsIn K (G.cls c)).isSome = true
  ha : PySem.W.findIn K (.ref (G.cls c)) "__class__" = some (some (.builtin "object.__class__"))
  hn : PySem.W.specialIn K (.builtin "object.__class__") "__get__" = some (some (.builtin "getset_descriptor.__get__"))
  ht : PySem.W.takesIn K (.builtin "object.__class__") = some true
  hm : PySem.W.mroIn K (G.cls c) (.type "object") = some true
  no : ∀ f ∈ fl c, PySem.W.findIn K (.ref (G.cls c)) f = some none
  kit : ∀ c' b, sub c c' = some b → PySem.W.kitOne K (.ref (G.cls c)) (.ref (G.cls c')) = some b
  kitv : PySem.W.kitOne K (.ref (G.cls c)) (.type "ValueError") = some true
def sAttr (fl : Nat → List Str) (f : Str) (g : En → R Opd) : En → R Opd := fun ρ => (g ρ).bind fun o ρ1 => match der o ρ1 with
  | some (.exn c fs) => if (fl c).contains f then match fs.lookup f with
      | some d => .ok (.v false d) ρ1
      | none => .stuck
    else .stuck
  | _ => .stuck
section
variable {X : Cx} {G : Ge} {Z : Zn} {E : XK} {e : Expr} {g : En → R Opd} {sub : Nat → Nat → Option Bool} {fl : Nat → List Str} {pos : Pos}
theorem Ra.exn {F : AS} {H : Hp} {c : Nat} {fs : List (Str × D)} {v : V} (r : Ra G F H (.exn c fs) v) : ∃ (a dd : Addr) (ks : List Str) (ds : List D) (ws : List (Str × V)) (vs : List V), v = .ref a ∧ G.hot = some (a, c, dd) ∧ H dd = some (.xd ws) ∧ fs = ks.zip ds ∧ ws = ks.zip vs ∧ ks.length = ds.length ∧ Reps G F H ds vs := by
  rcases r with r | ⟨a, _, c⟩
  · cases r with
    | exn g f h e1 e2 l r => exact ⟨_, _, _, _, _, _, rfl, g, h, e1, e2, l, r⟩
  · cases c
theorem lookup_zip {F : AS} {H : Hp} {f : Str} {d : D} : ∀ {ks : List Str} {ds : List D} {vs : List V}, ks.length = ds.length → Reps G F H ds vs → (ks.zip ds).lookup f = some d → ∃ v, (ks.zip vs).lookup f = some v ∧ Rep G F H d v
  | [], _, _, _, _, e => by simp at e
  | k :: ks, [], _, l, _, _ => by simp at l
  | k :: ks, x :: ds, _, l, .cons h t, e => by
    rw [List.zip_cons_cons, List.lookup_cons] at e
    rw [List.zip_cons_cons, List.lookup_cons]
    cases q : f == k with
    | true =>
      simp only [q] at e ⊢
      cases e
      exact ⟨_, rfl, h⟩
    | false =>
      simp only [q] at e ⊢
      exact lookup_zip (by simpa using l) t e
theorem je_attr {f : Str} (hX : HotX G X) (ok : ∀ a c dd, G.hot = some (a, c, dd) → XOk X.K G sub fl c) (he : PE X e (tE G Z E g)) (hb : attributeBase e f X.env (eval e X.env) = eval e X.env) : PE X (.Attribute e f pos) (tE G Z E (sAttr fl f g)) := by
  refine ⟨fun pins s σ H Q I q => ?_⟩
  have q2 : tE G Z E g σ H fun v H1 => ∃ (a : Addr) (c : Nat) (dd : Addr) (ws : List (Str × V)) (w : V), v = .ref a ∧ G.hot = some (a, c, dd) ∧ f ∈ fl c ∧ H1 dd = some (.xd ws) ∧ ws.lookup f = some w ∧ Q w H1 := by
    obtain ⟨F, M, ρ, t, p⟩ := q
    refine tE_use t p fun o ρ1 F1 M1 H1 v s1 a1 r => ?_
    split at r
    case h_2 => exact r.elim
    rename_i c fs hd
    split at r
    case isFalse => exact r.elim
    rename_i hf
    split at r
    case h_2 => exact r.elim
    rename_i d hl
    obtain ⟨a, dd, ks, ds, ws, vs, e1, e2, e3, rfl, e5, e6, e7⟩ := (a1.read1 hd).exn
    obtain ⟨w, h1, h2⟩ := lookup_zip e6 e7 hl
    exact ⟨a, c, dd, ws, w, e1, e2, by simpa using hf, e3, by rw [e5]; exact h1, r F1 M1 H1 Stp.refl w (a1.st.res h2)⟩
  refine attr_of hb (thn (he.run pins s σ H _ I q2) fun u s1 hh => ?_)
  obtain ⟨x, H1, I1, rx, a, c, dd, ws, w, rfl, hG, hf, hdd, hl, qq⟩ := hh
  cases (show u = Value.ref a from rx)
  have ok := ok a c dd hG
  obtain ⟨oe, hp, zc, vs, hvs⟩ := hX.get hG
  have z := (I1.pin (a, oe) (List.mem_append_left _ hp)).1
  obtain ⟨mA, n1, n2⟩ := (show ObjOk X.prog X.w H1 s1.heap dd (.xd ws) from I1.hok dd _ hdd)
  obtain ⟨od, o1, o2⟩ := lookIn_ns n1
  obtain ⟨y, y1, y2⟩ := RelO.some_of (v := w) (o := mA f) (by rw [← hl]; exact n2 f)
  have J : PySem.W.InstAt s1.heap a oe (G.cls c) (some od) := ⟨z, zc.1, by unfold PySem.W.notCls; rw [hvs], by rw [zc.2]; exact o1⟩
  exact HandSPX.exc_get I1.kIn J ok.xf.ga ok.xf.gg ok.xf.exC (PySem.W.findObj_own ok.xf.hdC (ok.no f hf) rfl (by rw [o2, y1])) (handed_of y2) ⟨w, H1, I1.tok _, y2, qq⟩
def isx (sub : Nat → Nat → Option Bool) : D → D → Option Bool
  | .exn c _, .cl c' => sub c c'
  | .exn _ _, .ty .value => some true
  | _, _ => none
def opIsx (sub : Nat → Nat → Option Bool) : List D → Option (Bool × D)
  | [x, y] => match isx sub x y with
    | some b => some (false, .bl b)
    | none => opIsi [x, y]
  | _ => none
def rIsx (K : PySem.W.Frag) (G : Ge) : List V → Hp → VK → Prop := fun xs H Q => (∃ (a : Addr) (c : Nat) (dd : Addr) (cv : V) (u : Value) (b : Bool), G.hot = some (a, c, dd) ∧ xs = [.ref a, cv] ∧ (∃ ws, H dd = some (.xd ws)) ∧ ClsV cv u ∧ PySem.W.kitOne K (.ref (G.cls c)) u = some b ∧ Q (.bl b) H) ∨ rIsiAll K xs H Q
theorem cr_isx (hX : HotX G X) (ok : ∀ a c dd, G.hot = some (a, c, dd) → XOk X.K G sub fl c) : CallR X (.builtin "isinstance") (rIsx X.K G) := by
  intro pins s σ H xs us Q I r h
  rcases h with ⟨a, c, dd, cv, u, b, hG, rfl, ⟨ws, hdd⟩, hc, hk, q⟩ | h
  · obtain ⟨u1, u2, rfl, ru1, ru2⟩ := Vals.two r
    cases (show u1 = Value.ref a from ru1)
    have e2 : u2 = u := by
      cases hc with
      | ty n => exact ru2
      | own C => exact ru2
    subst e2
    have ok := ok a c dd hG
    obtain ⟨oe, hp, zc, vs, hvs⟩ := hX.get hG
    have z := (I.pin (a, oe) (List.mem_append_left _ hp)).1
    obtain ⟨mA, n1, n2⟩ := (show ObjOk X.prog X.w H s.heap dd (.xd ws) from I.hok dd _ hdd)
    obtain ⟨od, o1, o2⟩ := lookIn_ns n1
    have J : PySem.W.InstAt s.heap a oe (G.cls c) (some od) := ⟨z, zc.1, by unfold PySem.W.notCls; rw [hvs], by rw [zc.2]; exact o1⟩
    exact PySem.W.kia_one (PySem.W.kitx_exc ok.cl ok.xf.ga ok.xf.gg ok.xf.exC ok.ha ok.hn ok.ht ok.hm) I.kIn J hk (fun z => nomatch z) fun tk => ⟨.bl b, H, I.kept (t' := tk) fun _ _ z => z, rfl, q⟩
  · exact cr_isi pins s σ H xs us Q I r h
theorem ok_isx (ok : ∀ a c dd, G.hot = some (a, c, dd) → XOk G.K G sub fl c) : OpOk G (opIsx sub) (rIsx G.K G) := fun {Z F M ρ σ H ds vs b d Q} t ra e k => by
  unfold opIsx at e
  split at e
  case h_2 => cases e
  rename_i x y
  split at e
  · rename_i b' hxy
    cases e
    obtain ⟨v, w, rfl, h1, h2⟩ := Ras.int1 ra
    cases x with
    | exn c fs =>
      obtain ⟨a, dd, ks, ds, ws, vs, rfl, e2, e3, _⟩ := h1.exn
      cases y with
      | cl c' =>
        rw [h2.cl]
        exact .inl ⟨a, c, dd, _, _, b', e2, rfl, ⟨ws, e3⟩, .own _, (ok a c dd e2).kit c' b' hxy, k.rep t (.bl _)⟩
      | ty T =>
        cases T with
        | value =>
          cases hxy
          rw [h2.ty]
          exact .inl ⟨a, c, dd, _, _, true, e2, rfl, ⟨ws, e3⟩, .ty _, (ok a c dd e2).kitv, k.rep t (.bl _)⟩
        | _ => cases hxy
      | _ => cases hxy
    | _ => cases hxy
  · exact .inr (ok_isi t ra e k)
end
end Ev

namespace Ev
open PySem PySem.Spec PyProof.Rows L2

/-! ## a lambda handed to a def; no object of the sight goes -/
section
variable {X : Cx} {pins : List (Addr × Obj)} {σ : L2.St} {H : Hp} {s : Shared}
def Stay (H H1 : Hp) : Prop := LamX.ExtN H H1 ∧ (∀ b, H b ≠ none → H1 b ≠ none) ∧ ∀ b vs, H1 b = some (.tup vs) → H b = some (.tup vs)
theorem lam_new {T : List (Addr × Str)} {cc tt : Addr} {ar : Arguments} {bd : Expr} {sc : Scope} {at_ : Pos} {E Q : Value → Shared → Prop} (J : Inv X pins σ H s) (B : LamX.TabB X.base X.mg cc tt) (hcc : X.env.code = .ref cc) (m : (tt, X.env.qual ++ "<lambda>") ∈ T)
    (one : ∀ y ∈ T, y.1 = tt → y.2 = X.env.qual ++ "<lambda>") (hT : LamX.Tabs T H) (nod : defaultsOf ar X.env = ([], [])) (cap : ∀ y ∈ sc.names, y.2 = .free → ∃ c, X.env.cells.lookup y.1 = some c)
    (k : ∀ (f c1 : Addr) (u1 u2 : Value) (H1 : Hp) (s1 : Shared), Inv X pins σ H1 s1 → Stay H H1 → LamX.Tabs T H1 → s1.heap.get? f = some (PySem.W.kla_obj "<lambda>" (X.env.qual ++ "<lambda>") ar bd sc (cloFrom X.env.cells sc.names []) u1 c1 u2) → H1 f = none → f ∉ frs X.stack →
      H1 c1 = some (LamX.CodeO c1 (X.env.qual ++ "<lambda>")) → Q (.ref f) s1) : wpAny (model X.prog X.w) X.A (eval (.Lambda ar bd sc at_) X.env) Q E s := by
  obtain ⟨row, atT, tri, nms⟩ := hT _ m
  have inHeap : s.heap.get? tt = some { cls := .none, data := .fields row } := J.hok tt _ atT
  have bt : s.heap.BuiltinsAt X.mg tt := B.bm.keeps J.bk
  have off : ∀ f, s.heap.objs.size ≤ f → f ∉ frs X.stack := fun f hf z => by
    rcases List.mem_cons.mp (J.stkSub _ z) with q | q
    · have h1 := J.lt
      rw [← q] at h1
      exact absurd (Nat.lt_of_lt_of_le h1 hf) (Nat.lt_irrefl _)
    · exact J.nofs hf q
  refine PySem.W.kla_eval nod ?_
  cases hit : codeAmong at_ row.toList with
  | some cv =>
    obtain ⟨c1, rfl, hco⟩ := nms at_ cv hit
    refine PySem.W.kla_makeFunctionHit (mg := X.mg) (c := cc) (P := tt) (ps := row) (closure_ok cap) J.ok.glob (J.mod.glob.keeps J.bk) hcc (B.code.keeps J.bk) inHeap tri hit bt fun u2 h1 tk hx hsz => ?_
    exact k h1.objs.size c1 ((X.mg "__name__").getD .none) u2 H _ (J.kept fun b o e => Heap.get?_push_of_some _ (hx b o e)) ⟨LamX.ExtN.refl H, fun _ z => z, fun _ _ z => z⟩ hT (Heap.get?_push_size _ rfl) (J.hok.fresh hsz) (off _ hsz) hco
  | none =>
    refine PySem.W.kla_makeFunction (mg := X.mg) (c := cc) (P := tt) (ps := row) (closure_ok cap) J.ok.glob (J.mod.glob.keeps J.bk) hcc (B.code.keeps J.bk) inHeap tri hit B.gP bt fun c1 u2 h1 tk hx old new rec there => ?_
    obtain ⟨_, oc, vs, t, ec, hoc, hd, hv⟩ := rec
    cases ec
    have size : s.heap.objs.size ≤ h1.objs.size := Nat.le_trans old (Nat.le_of_lt new)
    have gone : H c1 = none := J.hok.fresh old
    have J1 := LamX.inv_table (t' := tk) (more := #[rawInt at_.line, rawInt at_.col, .ref c1]) (h' := h1.push (PySem.W.kla_obj "<lambda>" (X.env.qual ++ "<lambda>") ar bd sc (cloFrom X.env.cells sc.names []) ((X.mg "__name__").getD .none) c1 u2)) J atT
      (fun b o hb e => Heap.get?_push_of_some _ (hx b o hb e)) (Heap.get?_push_of_some _ there) old ⟨oc, vs, t, Heap.get?_push_of_some _ hoc, hd, hv⟩
    have more : Stay H (upd (upd H tt (.tbl (row ++ #[rawInt at_.line, rawInt at_.col, .ref c1]))) c1 (LamX.CodeO c1 (X.env.qual ++ "<lambda>"))) := by
      refine ⟨fun b o e n => ?_, fun b e => dom_upd (dom_upd e), fun b ws e => ?_⟩
      rotate_left
      · by_cases q : b = c1
        · subst q; rw [upd_same] at e; exact nomatch (Option.some.inj e : LamX.CodeO b (X.env.qual ++ "<lambda>") = .tup ws)
        · rw [upd_ne q] at e
          by_cases q2 : b = tt
          · subst q2; rw [upd_same] at e; exact nomatch (Option.some.inj e)
          · rw [upd_ne q2] at e; exact e
      rw [upd_ne (ne_of_none e gone), upd_ne fun z => n row (Option.some.inj (e.symm.trans (by rw [z]; exact atT)))]
      exact e
    have tolist : (row ++ #[rawInt at_.line, rawInt at_.col, .ref c1]).toList = row.toList ++ [rawInt at_.line, rawInt at_.col, .ref c1] := by simp
    refine k h1.objs.size c1 ((X.mg "__name__").getD .none) u2 _ _ J1 more (fun y hy => ?_) (Heap.get?_push_size _ rfl) ?_ (off _ size) upd_same
    · by_cases q : y.1 = tt
      · rw [one y hy q, q]
        refine ⟨_, by rw [upd_ne (ne_of_none atT gone), upd_same], by rw [tolist]; exact PySem.TriplesOk_snoc _ _ _ _ tri, fun p1 cv z => ?_⟩
        rw [tolist] at z
        rcases LamX.among_app _ tri z with z | z
        · obtain ⟨c0, e1, e2⟩ := nms p1 cv z
          exact ⟨c0, e1, more.1 _ _ e2 LamX.codeO_ne⟩
        · exact ⟨c1, z, upd_same⟩
      · obtain ⟨row1, a1, a2, a3⟩ := hT y hy
        refine ⟨row1, by rw [upd_ne (ne_of_none a1 gone), upd_ne q]; exact a1, a2, fun p1 cv z => ?_⟩
        obtain ⟨c0, e1, e2⟩ := a3 p1 cv z
        exact ⟨c0, e1, more.1 _ _ e2 LamX.codeO_ne⟩
    · have := Heap.lt_size inHeap
      rw [upd_ne (Nat.ne_of_gt new), upd_ne (Nat.ne_of_gt (Nat.lt_of_lt_of_le this size))]
      exact J.hok.fresh size
end
def tLamS (T : List (Addr × Str)) (TT : (XK → Hp → VK → Prop) → Hp → VK → Prop) (t : XK → TE) : TE := fun σ H Q => LamX.Tabs T H ∧ ∀ H1, Stay H H1 → LamX.Tabs T H1 → TT (fun E H' Q' => t E σ H' Q') H1 Q
/-- x(lambda: body), x a def of one parameter -/
theorem pe_lamS {X : Cx} {T : List (Addr × Str)} {TT : (XK → Hp → VK → Prop) → Hp → VK → Prop} {x a : Str} {g cc tt : Addr} {k : Nat} {pg : Arguments} {bg : List Stmt} {sg : Scope} {dV kV doc pm cdv ct oc : Value} {an od : Option Addr} {osl : Array (Option Value)} {Ng : List Str}
    {ar : Arguments} {bd : Expr} {sc : Scope} {t : XK → TE} {p lpos pos : Pos} (hg : Gl X x) (hm : X.mg x = some (.ref g)) (hk : PySem.W.keepIn X.K (.ref g) = true) (lk : X.K.lookup g = some ⟨oc, od, .func (PySem.W.fnOf x x pg bg sg dV kV doc pm an cdv ct), osl⟩)
    (hcg : PySem.W.codeIn X.K cdv x = true) (hb : L2.Binds X.K (PySem.W.fnOf x x pg bg sg dV kV doc pm an cdv ct) [a] []) (Sg : FnScope Ng [a] sg) (hNg : Ng[0]? = some a) (hva : Vis sg a) (hG : LamX.GivesTo X Ng x sg g cdv bg a (X.env.qual ++ "<lambda>") TT)
    (B : LamX.TabB X.base X.mg cc tt) (hcc : X.env.code = .ref cc) (m : (tt, X.env.qual ++ "<lambda>") ∈ T) (one : ∀ y ∈ T, y.1 = tt → y.2 = X.env.qual ++ "<lambda>") (hr : Room (k + 2) X.A) (L : LamX.LamS X.env.scope sc) (nod : defaultsOf ar X.env = ([], []))
    (hbind : ∀ (q : Str) (cl : List (Str × Addr)) (u cv u2 : Value), bindArgs (PySem.W.kla_fn "<lambda>" q ar bd sc cl u cv u2) ⟨[], []⟩ = pure [])
    (hbody : ∀ (A : Around) (outer : List Env) (s : Shared) (H : Hp) (E : XK) (f c1 : Addr), Room k (A.deeper (LamX.lamEnv X sc s.heap.objs.size f c1)) → PE (LamX.lamCx X A outer s H E sc f c1) bd (t E))
    (d1 : (x == ("__debug__" : Str)) = false) (d2 : (a == ("__debug__" : Str)) = false) (d3 : (a == ("__classdict__" : Str)) = false) : PE X (.Call (.Name x p) [.Lambda ar bd sc lpos] [] pos) (tLamS T TT t) := by
  refine ⟨fun pins s σ H Q J ⟨hT, q⟩ => wpAny_Call_Name_kw (ld_glob J hg hm (PySem.W.callWith_K (h₀ := X.base) J.ok.mod.kin hk ?_ (by rfl) (by rfl)) d1)⟩
  show wpAny _ _ (spliced ((false, eval (.Lambda ar bd sc lpos) X.env) :: backTo pos (starEach [] X.env))) _ _ s
  refine Calls.spliced_cons (lam_new J B hcc m one hT nod (L.has J.ok) fun f c1 u1 u2 H1 s1 J1 st T1 hf hfn hfr hco => Calls.spliced_nil ⟨J1.kIn, ?_⟩)
  have run : codeAny (model X.prog X.w) X.A (.call (.ref g) ⟨[.ref f], []⟩) (CR C8.CX0 X.stack X.prog X.w H1 s1 Q C8.E0) s1 := by
    refine LamX.run_ofS (N := Ng) (ps := [a]) (us := [.ref f]) (vs := [.ref f]) lk hcg Sg hr J1.env0 (hb s1 [.ref f] J1.kIn rfl) (.cons rfl .nil) rfl fun hr1 => ?_
    obtain ⟨t1, h1, h2⟩ := hG f c1 s1 H1 Q (fun E H' Q' => t E σ H' Q')
      (fun W pn xe E p1 p2 tk hW => LamX.pe_act (i := 0) J1 L hf hfn hfr (hbind _ _ _ _ _) tk hW hr1 (fun A outer s H hr2 => hbody A outer s H E f c1 hr2) hNg hva d2 d3) hco (q H1 st T1)
    exact ⟨t1, h1.nox, h2⟩
  refine wpAny_call (codeAny_mono run fun r s2 z => ?_)
  match r, z with
  | .ok (.ret u), z => exact J1.after z
end Ev

namespace Ev
open PySem PySem.Spec PyProof.Rows L2

/-! ## found = None / try: call() / except C as e: suite / return found -/
def hotG (G : Ge) (h : Option (Addr × Nat × Addr)) : Ge := { G with hot := h }
section
variable {G : Ge} {F : AS} {H : Hp}
theorem Rep.heat {h : Option (Addr × Nat × Addr)} (hG : G.hot = none) : (∀ {d : D} {v : V}, Rep G F H d v → Rep (hotG G h) F H d v) ∧ ∀ {xs : List D} {vs : List V}, Reps G F H xs vs → Reps (hotG G h) F H xs vs := by
  refine ⟨fun {d v} r => ?_, fun {xs vs} r => ?_⟩
  · refine Rep.rec (G := G) (F := F) (H := H) (motive_1 := fun d v _ => Rep (hotG G h) F H d v) (motive_2 := fun xs vs _ => Reps (hotG G h) F H xs vs) .non .bl .int .str ?_ ?_ ?_ ?_ ?_ ?_ ?_ ?_ .fn .ty .cl .nil ?_ r
    · exact fun f h _ r => .tup f h r
    · exact fun h _ r => .ktp h r
    · exact fun f h _ r => .lst f h r
    · exact fun h => .scr h
    · exact fun f h e1 e2 l _ r => .dK f h e1 e2 l r
    · exact fun f h e1 e2 l _ r => .dT f h e1 e2 l r
    · exact fun f h e1 e2 l _ r => .ins f h e1 e2 l r
    · exact fun g _ _ _ _ _ _ _ => by rw [hG] at g; cases g
    · exact fun _ _ h t => .cons h t
  · refine Reps.rec (G := G) (F := F) (H := H) (motive_1 := fun d v _ => Rep (hotG G h) F H d v) (motive_2 := fun xs vs _ => Reps (hotG G h) F H xs vs) .non .bl .int .str ?_ ?_ ?_ ?_ ?_ ?_ ?_ ?_ .fn .ty .cl .nil ?_ r
    · exact fun f h _ r => .tup f h r
    · exact fun h _ r => .ktp h r
    · exact fun f h _ r => .lst f h r
    · exact fun h => .scr h
    · exact fun f h e1 e2 l _ r => .dK f h e1 e2 l r
    · exact fun f h e1 e2 l _ r => .dT f h e1 e2 l r
    · exact fun f h e1 e2 l _ r => .ins f h e1 e2 l r
    · exact fun g _ _ _ _ _ _ _ => by rw [hG] at g; cases g
    · exact fun _ _ h t => .cons h t
end
mutual
/-- no exception within -/
def cool : D → Bool
  | .exn _ _ => false
  | .tup xs => cools xs
  | .ktp xs => cools xs
  | .lst xs => cools xs
  | .dK _ => false
  | .dT _ => false
  | .ins _ _ => false
  | _ => true
def cools : List D → Bool
  | [] => true
  | x :: xs => cool x && cools xs
end
section
variable {G : Ge} {F : AS} {H : Hp}
theorem Rep.cool {h : Option (Addr × Nat × Addr)} {d : D} {v : V} (r : Rep (hotG G h) F H d v) : Ev.cool d = true → Rep G F H d v := by
  refine Rep.rec (G := hotG G h) (F := F) (H := H) (motive_1 := fun d v _ => Ev.cool d = true → Rep G F H d v) (motive_2 := fun xs vs _ => cools xs = true → Reps G F H xs vs) (fun _ => .non) (fun b _ => .bl b) (fun b _ => .int b) (fun b _ => .str b) ?_ ?_ ?_ ?_ ?_ ?_ ?_ ?_ (fun b _ => .fn b) (fun b _ => .ty b) (fun b _ => .cl b) (fun _ => .nil) ?_ r
  · exact fun f h _ r c => .tup f h (r (by simpa [Ev.cool] using c))
  · exact fun h _ r c => .ktp h (r (by simpa [Ev.cool] using c))
  · exact fun f h _ r c => .lst f h (r (by simpa [Ev.cool] using c))
  · exact fun h _ => .scr h
  · exact fun _ _ _ _ _ _ _ c => by simp [Ev.cool] at c
  · exact fun _ _ _ _ _ _ _ c => by simp [Ev.cool] at c
  · exact fun _ _ _ _ _ _ _ c => by simp [Ev.cool] at c
  · exact fun _ _ _ _ _ _ _ _ c => by simp [Ev.cool] at c
  · exact fun _ _ h t c => by
      simp only [cools, Bool.and_eq_true] at c
      exact .cons (h c.1) (t c.2)
end

def TTf (K : PySem.W.Frag) (CS : Addr) (ts : Addr → Value → Option Addr → TS) : (XK → Hp → VK → Prop) → Hp → VK → Prop := fun tl H Q =>
  tl (fun cls d H' => ∃ b, PySem.W.exmOne K cls (.ref CS) = some b ∧ (b = true → ∀ a, H' a = none → ∀ σ' : L2.St, ts a cls d { nx := fun σ2 H2 => ∃ v, σ2[1]? = some (some v) ∧ Q v H2, rt := Q } (σ'.set 2 (some (.ref a))) H') ∧ (b = false → False)) H fun _ H' => ∃ v, (some (some V.non) : Option (Option V)) = some (some v) ∧ Q v H'
section
variable {X : Cx}
def idxOk (Ng : List Str) (a fo e : Str) : Prop := Ng = [a, fo, e] ∧ Ng.Nodup
theorem fault_gives {Ng : List Str} {x a fo e cn q : Str} {sg : Scope} {g CS : Addr} {cdg : Value} {ts : Addr → Value → Option Addr → TS} {b₀ : Stmt} {suite : List Stmt} {j : Nat} {p0 p00 p1 p2 p3 p4 p5 p6 p7 p8 p9 : Pos} (hN : Ng = [a, fo, e]) (nd : Ng.Nodup) (hcn : sg.names.lookup cn = some .globalImplicit) (hmc : X.mg cn = some (.ref CS)) (hdc : (cn == ("__debug__" : Str)) = false)
    (hlf : sg.names.lookup fo = some .local) (hle : sg.names.lookup e = some .local) (hdf : (fo == ("__debug__" : Str)) = false) (hcf : (fo == ("__classdict__" : Str)) = false)
    (hsu : ∀ (s : Shared) (H : Hp) (b : Addr) (oe : Obj) (cls : Value) (d : Option Addr) (pn : List (Addr × Obj)), Zc cls d oe → (∃ vs, oe.data = .fields vs) → PSs ((cxOf C8.CX0 X.prog X.w X.K X.mg X.base Ng x sg g cdg X.A X.stack s H C8.E0).nox.suite b ((b, oe) :: pn)) (b₀ :: suite) (ts b cls d))
    (tsm : ∀ b cls d D D' σ H, (∀ σ H, D.nx σ H → D'.nx σ H) → (∀ v H, D.rt v H → D'.rt v H) → (∀ σ H, D.bk σ H → D'.bk σ H) → (∀ σ H, D.ct σ H → D'.ct σ H) → ts b cls d D σ H → ts b cls d D' σ H) :
    LamX.GivesTo X Ng x sg g cdg [.Assign [.Name fo p0] (.Constant .none j p00) p1, .Try [.Expr (.Call (.Name a p2) [] [] p3) p4] [.ExceptHandler (some (.Name cn p5)) (some e) (b₀ :: suite) p6] [] [] p7, .Return (some (.Name fo p8)) p9] a q (TTf X.K CS ts) := by
  intro f c' s H Q tl act hc h
  subst hN
  have hgl : Gl (cxOf C8.CX0 X.prog X.w X.K X.mg X.base [a, fo, e] x sg g cdg X.A X.stack s H C8.E0).nox cn := hcn
  refine ⟨_, pss_cons (ps_set (i := 1) nd rfl (.inl hlf) pe_non rfl) (pss_cons (ps_try_as (X := (cxOf C8.CX0 X.prog X.w X.K X.mg X.base [a, fo, e] x sg g cdg X.A X.stack s H C8.E0).nox) (c := .ref CS) (i := 2)
      (tb := fun W D σ H => ∃ Ech : XK, (∀ cls d σ' H', Ech cls d H' → W cls d σ' H') ∧ σ[0]? = some (some (.ref f)) ∧ H c' = some (LamX.CodeO c' q) ∧ tl Ech H (fun _ H1 => D.nx σ H1))
      rfl rfl nd rfl hle ⟨hgl, hdc, .inl hmc⟩ LamX.takes0 (fun W pn xe tk _ => ?_) (fun b oe cls d pn hz hd => hsu s H b oe cls d pn hz hd)) (pss_one (ps_ret (pe_var (i := 1) rfl (.inl hlf) hdf hcf)))), ?_⟩
  · refine ⟨fun pins s' σ H' D I h' => ?_⟩
    obtain ⟨Ech, hW, h1, h2, h3⟩ := h'
    exact (pss_one (ps_expr (pos := p4) (act W pn xe Ech p2 p3 tk hW) rfl)).run pins s' σ H' D I ⟨h1, h2, h3⟩
  · refine ⟨fun cls d H' => ∃ b, PySem.W.exmOne X.K cls (.ref CS) = some b ∧ (b = true → ∀ a, H' a = none → ∀ σ' : L2.St, ts a cls d { nx := fun σ2 H2 => ∃ v, σ2[1]? = some (some v) ∧ Q v H2, rt := Q } (σ'.set 2 (some (.ref a))) H') ∧ (b = false → False), ?_, rfl, hc, ?_⟩
    · rintro cls d σ' H' ⟨b, e1, e2, e3⟩
      refine ⟨b, e1, fun hb a' ha => ?_, fun hb => e3 hb⟩
      refine tsm a' cls d { nx := fun σ2 H2 => ∃ v, σ2[1]? = some (some v) ∧ Q v H2, rt := Q } _ _ _ ?_ (fun _ _ q => q) (fun _ _ q => q) (fun _ _ q => q) (e2 hb a' ha σ')
      rintro σ2 H2 ⟨v, ev, q⟩
      refine ⟨v, ?_, q⟩
      rw [List.getElem?_set_ne (by omega)]
      exact ev
    · exact h
end

section
variable {G : Ge} {Z : Zn} {F M F2 M2 : AS} {ρ : En} {σ : L2.St} {H H1 H2 : Hp} {E : XK}
def hideV : Option Val → Option Val
  | some ⟨.frz, d⟩ => some ⟨.frz, d⟩
  | _ => none
def frzCap : List Nat → En → En
  | [], ρ => ρ
  | i :: is, ρ => match ρ[i]? with
    | some (some ⟨.own, d⟩) => frzCap is (ρ.set i (some ⟨.frz, d⟩))
    | _ => frzCap is ρ
theorem St.frzCap (cap : List Nat) : ∀ {F M : AS} {ρ : En}, St G Z F M ρ σ H → ∃ F1 M1, Stp G.T F M H F1 M1 H ∧ St G Z F1 M1 (Ev.frzCap cap ρ) σ H := by
  induction cap with
  | nil => exact fun {F M ρ} t => ⟨F, M, Stp.refl, t⟩
  | cons i is ih =>
    intro F M ρ t
    unfold Ev.frzCap
    split
    · rename_i d e
      obtain ⟨a, _, _, s1, t1, _⟩ := t.freezeAt (T := G.T) e
      obtain ⟨F2, M2, s2, t2⟩ := ih t1
      exact ⟨F2, M2, s1.trans t1.dj s2, t2⟩
    · exact ih t
theorem St.hide (t : St G Z F M ρ σ H) : St G Z0 F (fun _ => False) (ρ.map hideV) σ H := by
  have key : ∀ (i : Nat) (x : Val), (ρ.map hideV)[i]? = some (some x) → ρ[i]? = some (some x) ∧ x.m = .frz := fun i x h => by
    rw [List.getElem?_map] at h
    obtain ⟨y, h1, h2⟩ := Option.map_eq_some_iff.mp h
    unfold hideV at h2
    split at h2
    · cases h2; exact ⟨h1, rfl⟩
    · cases h2
  refine ⟨by simpa using t.len, fun i x h => ?_, fun i j x y _ h1 _ m _ => absurd (key i x h1).2 m, fun _ _ z => z, t.fd, fun _ z => z.elim, t.tab, fun p hp => absurd hp (by simp [Z0]), fun a h => absurd h (by simp [Z0]), t.tf⟩
  obtain ⟨h1, h2⟩ := key i x h
  obtain ⟨v, e, r⟩ := t.slot i x h1
  exact ⟨v, e, r.mono (fun _ z => z) keeps_refl (fun a m => by rw [h2] at m; cases m) (fun a m => by rw [h2] at m; cases m)⟩
theorem St.back (t : St G Z F M ρ σ H) (s : Stp G.T F (fun _ => False) H F2 M2 H2) (fd : ∀ a, F2 a → H2 a ≠ none) (T2 : LamX.Tabs G.T H2) (tf : ∀ a vs, H2 a = some (.tup vs) → F2 a) : Stp G.T F M H F2 M H2 ∧ St G Z F2 M ρ σ H2 := by
  refine ⟨⟨s.ext, fun a h => ?_, fun a o h _ q => s.keep a o h (fun z => z) q, s.dom, s.tab⟩, t.len, fun i x h => ?_, t.apart, fun a f m => ?_, fd, fun a m => s.dom a (t.md a m), T2, t.par, fun a h => ?_, tf⟩
  · rcases h with h | h
    · exact (s.new a (.inl h)).imp (fun z => z) fun z => z.elim (fun z => z.elim) .inr
    · exact .inr (.inl h)
  · obtain ⟨v, e, r⟩ := t.slot i x h
    refine ⟨v, e, r.mono s.ext (s.keeps fun _ _ z => z) (fun a m ea hm => ⟨hm, ?_⟩) (fun a m ea hl => ⟨hl, ?_⟩)⟩
    · subst ea
      obtain ⟨b, eb, c, _⟩ := r.root (by rw [m]; simp)
      cases eb
      exact s.kept c fun z => z
    · subst ea
      obtain ⟨b, eb, c, _⟩ := r.root (by rw [m]; simp)
      cases eb
      exact s.kept c fun z => z
  · exact (s.out (fun z => t.dj a z m) (fun z => z) (t.md a m)).1 f
  · obtain ⟨l1, l2, l3⟩ := t.ld a h
    exact ⟨(s.out l1 (fun z => z) l3).1, l2, s.dom a l3⟩
theorem Stay.stp {T : List (Addr × Str)} (s : Stay H H1) (T1 : LamX.Tabs T H1) : Stp T F (fun _ => False) H F (fun _ => False) H1 :=
  ⟨fun _ z => z, fun a z => .inl (z.elim (fun z => z) fun z => z.elim), fun a o h _ q => s.1 a o h q, s.2.1, fun _ => T1⟩

/-- what is found -/
def foundOf : Rs → Option D
  | .nx ρ => match ρ[(1 : Nat)]? with
    | some (some ⟨.frz, d⟩) => if cool d then some d else none
    | _ => none
  | _ => none
def sFault (cap : List Nat) (sf : Nat → Bool) (f : En → R Opd) (su : SS) : En → R Opd := fun ρ => match f ((frzCap cap ρ).map hideV) with
  | .ok _ _ => .ok (.v false .non) (frzCap cap ρ)
  | .exc c as => if sf c then match foundOf (su [none, none, some ⟨.frz, .exn c as⟩]) with
      | some d => .ok (.v false d) (frzCap cap ρ)
      | none => .stuck
    else .stuck
  | .stuck => .stuck
def tsF (G : Ge) (sf : Nat → Bool) (su : SS) : Addr → Value → Option Addr → TS := fun a cls d D σ H => ∃ c dd, cls = .ref (G.cls c) ∧ d = some dd ∧ sf c = true ∧ (σ.length = 3 → tS (hotG G (some (a, c, dd))) Z0 E0 su D σ H)
theorem tS_mono {s : SS} {D D' : Ends} (h1 : ∀ σ H, D.nx σ H → D'.nx σ H) (h2 : ∀ v H, D.rt v H → D'.rt v H) (h3 : ∀ σ H, D.bk σ H → D'.bk σ H) (h4 : ∀ σ H, D.ct σ H → D'.ct σ H) (h : tS G Z E s D σ H) : tS G Z E s D' σ H := by
  obtain ⟨F, M, ρ, t, p⟩ := h
  refine ⟨F, M, ρ, t, ?_⟩
  revert p
  generalize s ρ = r
  intro p
  cases r with
  | nx ρ => exact fun F' M' H' σ' s t => h1 _ _ (p F' M' H' σ' s t)
  | rt o ρ => exact fun F' M' H' σ' v s t => h2 _ _ (p F' M' H' σ' v s t)
  | bk ρ => exact fun F' M' H' σ' s t => h3 _ _ (p F' M' H' σ' s t)
  | ct ρ => exact fun F' M' H' σ' s t => h4 _ _ (p F' M' H' σ' s t)
  | exc c as => exact p
  | stuck => exact p
theorem tsF_mono {sf : Nat → Bool} {su : SS} : ∀ b cls d D D' σ H, (∀ σ H, D.nx σ H → D'.nx σ H) → (∀ v H, D.rt v H → D'.rt v H) → (∀ σ H, D.bk σ H → D'.bk σ H) → (∀ σ H, D.ct σ H → D'.ct σ H) → tsF G sf su b cls d D σ H → tsF G sf su b cls d D' σ H :=
  fun b cls d D D' σ H h1 h2 h3 h4 ⟨c, dd, e1, e2, e3, h⟩ => ⟨c, dd, e1, e2, e3, fun l => tS_mono h1 h2 h3 h4 (h l)⟩
theorem fault_use {K : PySem.W.Frag} {CS : Addr} {cap : List Nat} {sf : Nat → Bool} {f : En → R Opd} {su : SS} {Q : VK} (hG : G.hot = none) (hex : ∀ c, sf c = true → PySem.W.exmOne K (.ref (G.cls c)) (.ref CS) = some true) (h : tE G Z E (sFault cap sf f su) σ H Q) :
    tLamS G.T (TTf K CS (tsF G sf su)) (fun E' => tE G Z0 E' f) σ H Q := by
  obtain ⟨F, M, ρ, t, p⟩ := h
  refine ⟨t.tab, fun H1 st T1 => ?_⟩
  obtain ⟨F1, M1, s1, t1⟩ := t.frzCap cap
  obtain ⟨s2, t2⟩ := t1.back (st.stp T1) (fun a z => st.2.1 a (t1.fd a z)) T1 (fun a ws z => t1.tf a ws (st.2.2 a ws z))
  have s12 := s1.trans t1.dj s2
  refine ⟨F1, fun _ => False, _, t2.hide, ?_⟩
  unfold sFault at p
  revert p
  generalize f ((frzCap cap ρ).map hideV) = r
  intro p
  cases r with
  | ok o ρ1 =>
    intro F3 M3 H3 s3 v a3
    obtain ⟨s4, t4⟩ := t2.back s3 a3.st.fd a3.st.tab a3.st.tf
    exact ⟨.non, rfl, p F3 M1 H3 (s12.trans t2.dj s4) .non (t4.res .non)⟩
  | stuck => exact p
  | exc c as =>
    intro F3 M3 H3 ks ds ws vs dd s3 T3 e1 e2 l hx hn fx d1 d2 d3 d4 rr
    obtain ⟨s4, t4⟩ := t2.back s3 d2 T3 d4
    dsimp only at p
    split at p
    case isFalse => exact p.elim
    rename_i hsf
    refine ⟨true, hex c hsf, fun _ a ha σ' => ⟨c, dd, rfl, rfl, hsf, fun hl => ?_⟩, fun z => by cases z⟩
    have hl' : σ'.length = 3 := by simpa using hl
    refine ⟨F3, fun _ => False, [none, none, some ⟨.frz, .exn c as⟩], ⟨by simp [hl'], fun i x h => ?_, fun i j x y _ h1 _ m _ => ?_, fun _ _ z => z, d2, fun _ z => z.elim, T3, fun p hp => absurd hp (by simp [Z0]), fun a h => absurd h (by simp [Z0]), d4⟩, ?_⟩
    · match i, h with
      | 2, h =>
        cases h
        exact ⟨.ref a, List.getElem?_set_self (by omega), Rep.exn rfl fx hx e1 e2 l ((Rep.heat hG).2 rr)⟩
    · match i, h1 with
      | 2, h1 =>
        cases h1
        exact absurd rfl m
    split at p
    case h_2 => exact p.elim
    rename_i d hd
    revert hd
    generalize su [none, none, some ⟨.frz, .exn c as⟩] = r
    intro hd
    unfold foundOf at hd
    split at hd
    case h_2 => cases hd
    rename_i ρs
    split at hd
    case h_2 => cases hd
    rename_i d' hd'
    split at hd
    case isFalse => cases hd
    rename_i hc
    cases hd
    intro F5 M5 H5 σ5 s5 t5
    obtain ⟨v, e, r⟩ := t5.slot 1 _ hd'
    obtain ⟨s6, t6⟩ := t4.back s5 t5.fd t5.tab t5.tf
    exact ⟨v, e, p F5 M1 H5 ((s12.trans t2.dj s4).trans t4.dj s6) v (t6.res (Rep.cool r hc))⟩
end

/-! ### a lambda's body, the def that catches -/
structure Flt where
  sf : Nat → Bool
  lc : List Str → Scope → Expr → Option (En → R Opd)
  su : SS
structure LCxt (X : Cx) (G : Ge) (E : XK) (n : Nat) (N : List Str) (sc : Scope) : Prop where
  K : X.K = G.K
  h0 : G.hot = none
  calm : X.calm = true
  N : X.N = N
  nd : X.N.Nodup
  sc : X.env.scope = sc
  fn : X.fn = fun _ => false
  kd : X.env.scope.kind = .function
  room : Room n X.A
  pass : Passes (L2.CX X.prog X.w) X E
structure Same (X : Cx) (P : Program) (w : World) (K : PySem.W.Frag) (mg : Str → Option Value) (base : Heap) : Prop where
  P : X.prog = P
  w : X.w = w
  K : X.K = K
  mg : X.mg = mg
  base : X.base = base
structure FltOk (P : Program) (w : World) (K : PySem.W.Frag) (mg : Str → Option Value) (base : Heap) (G : Ge) (n : Nat) (x : Str) (y : Flt) : Prop where
  ex : ∃ (g CS : Addr) (a : Str) (pg : Arguments) (bg : List Stmt) (sg : Scope) (dV kV doc pm cdv ct oc : Value) (an od : Option Addr) (osl : Array (Option Value)) (Ng : List Str), mg x = some (.ref g) ∧ PySem.W.keepIn K (.ref g) = true ∧ K.lookup g = some ⟨oc, od, .func (PySem.W.fnOf x x pg bg sg dV kV doc pm an cdv ct), osl⟩ ∧
    PySem.W.codeIn K cdv x = true ∧ L2.Binds K (PySem.W.fnOf x x pg bg sg dV kV doc pm an cdv ct) [a] [] ∧ FnScope Ng [a] sg ∧ Ng[0]? = some a ∧ Vis sg a ∧ (a == ("__debug__" : Str)) = false ∧ (a == ("__classdict__" : Str)) = false ∧ (∀ c, y.sf c = true → PySem.W.exmOne K (.ref (G.cls c)) (.ref CS) = some true) ∧
    ∀ X : Cx, Same X P w K mg base → Room (n + 2) X.A → X.A.guards = some [] → ∀ q, LamX.GivesTo X Ng x sg g cdv bg a q (TTf K CS (tsF G y.sf y.su))
  lam : ∀ (X : Cx) (E : XK) (N : List Str) (sc : Scope), Same X P w K mg base → LCxt X G E n N sc → ∀ e f, y.lc N sc e = some f → PE X e (tE G Z0 E f)
/-- where lambdas are made -/
def LamAt (X : Cx) (G : Ge) : Prop := ∃ cc tt, X.env.code = .ref cc ∧ LamX.TabB X.base X.mg cc tt ∧ (tt, X.env.qual ++ "<lambda>") ∈ G.T ∧ ∀ y ∈ G.T, y.1 = tt → y.2 = X.env.qual ++ "<lambda>"
def noArgs : Arguments := ⟨[], [], none, [], [], none, []⟩
theorem je_fault {X : Cx} {G : Ge} {Z : Zn} {E : XK} {n : Nat} {x : Str} {y : Flt} {cap : List Nat} {bd : Expr} {sc : Scope} {p lpos pos : Pos} {f : En → R Opd} (h : FltOk X.prog X.w X.K X.mg X.base G n x y) (hr : Room (n + 2) X.A) (gd : X.A.guards = some []) (hG : G.hot = none) (hK : X.K = G.K) (nd : X.N.Nodup)
    (hg : Gl X x) (d1 : (x == ("__debug__" : Str)) = false) (la : LamAt X G) (L : LamX.LamS X.env.scope sc) (hf : y.lc X.N sc bd = some f) : PE X (.Call (.Name x p) [.Lambda noArgs bd sc lpos] [] pos) (tE G Z E (sFault cap y.sf f y.su)) := by
  obtain ⟨g, CS, a, pg, bg, sg, dV, kV, doc, pm, cdv, ct, oc, an, od, osl, Ng, hm, hk, lk, hcg, hb, Sg, hNg, hva, d2, d3, hex, hgv⟩ := h.ex
  obtain ⟨cc, tt, hcc, B, m, one⟩ := la
  refine (pe_lamS (t := fun E' => tE G Z0 E' f) hg hm hk lk hcg hb Sg hNg hva (hgv X ⟨rfl, rfl, rfl, rfl, rfl⟩ hr gd _) B hcc m one hr L rfl (fun _ _ _ _ _ => rfl) (fun A outer s H E' f' c1 hr' => ?_) d1 d2 d3).imp fun σ H Q q => fault_use hG hex q
  have tk : L2.Takes (LamX.lamCx X A outer s H E' sc f' c1) fun cls d _ H => E' cls d H := takes_of rfl rfl rfl rfl
  exact h.lam (LamX.lamCx X A outer s H E' sc f' c1) E' X.N sc ⟨rfl, rfl, rfl, rfl, rfl⟩ ⟨hK, hG, rfl, rfl, nd, rfl, rfl, L.kind, hr', L2.passes_call tk (fun _ _ _ _ z => z)⟩ bd f hf

/-! ### a call of what a name holds -/
def sCallV (i : Nat) (has : Nat → Bool) (np : Nat → Nat) (pin : Nat → Nat → Bool) (call : Nat → List Val → Rf) (fs : List (En → R Opd)) : En → R Opd := fun ρ => match ρ[i]? with
  | some (some ⟨.frz, .fn k⟩) => if has k = true ∧ fs.length = np k then sCall (pin k) (call k) fs ρ else .stuck
  | _ => .stuck
theorem je_callV {X : Cx} {G : Ge} {Z : Zn} {E : XK} {e : Expr} {es : List Expr} {fs : List (En → R Opd)} {pos p : Pos} {i n : Nat} {x : Str} {g : Bool} {has : Nat → Bool} {np : Nat → Nat} {pin : Nat → Nat → Bool} {call : Nat → List Val → Rf}
    (Fn : ∀ k, has k = true → PySem.W.keepIn X.K (.ref (G.fn k)) = true ∧ ∃ fd ps, ps.length = np k ∧ Binds X.K fd ps [] ∧ FnQ G g X.prog X.w X.K X.mg X.base (L2.CX X.prog X.w) n (G.fn k) fd ps (spF G (np k) (call k)))
    (hr : L2H.RoomH n X.A) (hgd : g = true → X.A.guards = some []) (hot : HotX G X) (hi : X.N[i]? = some x) (hv : Vis X.env.scope x) (d1 : (x == ("__debug__" : Str)) = false) (d2 : (x == ("__classdict__" : Str)) = false) (hx : Passes (L2.CX X.prog X.w) X E) (ha : PA X (e :: es) (tA G Z E (sArgs fs))) (hpa : (e :: es).all plainArg = true) :
    PE X (.Call (.Name x p) (e :: es) [] pos) (tE G Z E (sCallV i has np pin call fs)) := by
  have hp2 : plainArg e = true ∧ es.all plainArg = true := by simpa using hpa
  refine ⟨fun pins s σ H Q I ⟨F, M, ρ, t, q⟩ => ?_⟩
  unfold sCallV at q
  split at q
  case h_2 => exact q.elim
  rename_i k hk
  split at q
  case isFalse => exact q.elim
  rename_i hc
  obtain ⟨h1, h2⟩ := hc
  obtain ⟨m2, fd, ps, m3, m4, m5⟩ := Fn k h1
  obtain ⟨v, ev, r⟩ := t.slot i _ hk
  have e1 : v = .ref (G.fn k) := by cases (show Rep G F H (.fn k) v from r); rfl
  subst e1
  refine wpAny_Call_Name_kw (thn ((pe_var (pos := p) (i := i) hi hv d1 d2).run pins s σ H (fun v H1 => v = .ref (G.fn k) ∧ H1 = H) I ⟨_, ev, rfl, rfl⟩) fun u s1 ⟨v, H1, I1, r1, q1⟩ => ?_)
  obtain ⟨rfl, rfl⟩ := q1
  obtain rfl : u = Value.ref (G.fn k) := r1
  have q2 := call_use (np := np k) (fun ρ os ρ1 z => (sArgs_len z).trans h2) (Q := Q) ⟨F, M, ρ, t, q⟩
  exact PySem.W.callWith_K (h₀ := X.base) I1.ok.mod.kin m2 (thn (ha.run pos pins s1 σ _ _ I1 q2) fun us s2 ⟨vs, H2, I2, rv, z⟩ => ⟨I2.kIn, m5.runs hr hgd hot m4 hx I2 rv z⟩) (plainArg_eq hp2.1) (plainArgs_any hp2.2)
end Ev

namespace Ev
open PySem PySem.Spec PyProof.Rows L2

/-! ## from the text to what it does -/
structure Ce where
  N : List Str
  sc : Scope
  fn : Str → Bool
  pin : List Nat
  hot : Bool
  lam : Bool
structure Tb where
  fnIx : Str → Option Nat
  clIx : Str → Option Nat
  con : Str → Option D
  free : Str → Bool
  np : Nat → Nat
  pin : Nat → Nat → Bool
  flds : Nat → List Str
  tp : Pos → Bool
  rep : Bool
  sub : Nat → Nat → Option Bool
  call : Nat → List Val → Rf
  flt : Str → Option Flt
  has : Nat → Bool
structure CF where
  e : Ce → Expr → Option (En → R Opd)
  t : Ce → Expr → Option STe
  i : Ce → Expr → Expr → Option SI
  b : Ce → List Stmt → Option SS
def ixOf : List Str → Str → Option Nat
  | [], _ => none
  | y :: r, x => if y = x then some 0 else match ixOf r x with
    | some i => some (i + 1)
    | none => none
theorem ixOf_get : ∀ {N : List Str} {x : Str} {i : Nat}, ixOf N x = some i → N[i]? = some x
  | [], _, _, h => by cases h
  | y :: r, x, i, h => by
    unfold ixOf at h
    split at h
    · rename_i e; cases h; rw [e]; rfl
    · split at h
      · rename_i j hj; cases h; simpa using ixOf_get hj
      · cases h
def nmOk (x : Str) : Bool := !(x == ("__debug__" : Str)) && !(x == ("__classdict__" : Str)) && decide (x ≠ "__name__")
def vis (sc : Scope) (x : Str) : Bool := match sc.names.lookup x with
  | some .local => true
  | some .cell => true
  | some .free => true
  | _ => false
def glob (sc : Scope) (x : Str) : Bool := match sc.names.lookup x with
  | some .globalImplicit => true
  | _ => false
def stOk (Γ : Ce) (x : Str) : Bool := match Γ.sc.names.lookup x with
  | some .local => true
  | some .cell => Γ.fn x
  | _ => false
theorem vis_ok {sc : Scope} {x : Str} (h : vis sc x = true) : Vis sc x := by
  unfold vis at h
  split at h
  · exact .inl ‹_›
  · exact .inr (.inl ‹_›)
  · exact .inr (.inr ‹_›)
  · cases h
theorem glob_ok {sc : Scope} {x : Str} (h : glob sc x = true) : sc.names.lookup x = some .globalImplicit := by
  unfold glob at h
  split at h
  · assumption
  · cases h
theorem nmOk_ok {x : Str} (h : nmOk x = true) : (x == ("__debug__" : Str)) = false ∧ (x == ("__classdict__" : Str)) = false ∧ x ≠ "__name__" := by
  unfold nmOk at h
  simp only [Bool.and_eq_true, Bool.not_eq_true', decide_eq_true_eq] at h
  exact ⟨h.1.1, h.1.2, h.2⟩
def btName (x : Str) : Option Bt := if x = "int" then some .int else if x = "bool" then some .bool else if x = "str" then some .str else if x = "list" then some .list else if x = "tuple" then some .tuple else if x = "dict" then some .dict else if x = "ValueError" then some .value else none
theorem btName_ok {x : Str} {b : Bt} (h : btName x = some b) : bootBuiltins x = some (.type b.name) := by
  unfold btName at h
  repeat' split at h
  all_goals first
    | cases h; subst_vars; decide +kernel
    | cases h
/-- built-in functions, classes that are called -/
inductive Bf where
  | len | sum | all | any | abs | isi | int | bool | list | tuple | repr | sorted
  deriving DecidableEq
def Bf.op : Bf → List D → Option (Bool × D)
  | .len => op1 fLen
  | .sum => op1 fSum
  | .all => op1 fAll
  | .any => op1 fAny
  | .abs => op1 fAbs
  | .isi => opIsi
  | .int => op1 fInt
  | .bool => op1 fBool
  | .list => op1 fList
  | .tuple => op1 fTuple
  | .repr => op1 fRepr
  | .sorted => op1 fSortX
def bfName (x : Str) : Option Bf := if x = "len" then some .len else if x = "sum" then some .sum else if x = "all" then some .all else if x = "any" then some .any else if x = "abs" then some .abs else if x = "isinstance" then some .isi else
  if x = "int" then some .int else if x = "bool" then some .bool else if x = "list" then some .list else if x = "tuple" then some .tuple else if x = "repr" then some .repr else if x = "sorted" then some .sorted else none
/-- what can't be done while an exception is handled -/
def Bf.calm : Bf → Bool
  | .sum => true
  | .all => true
  | .any => true
  | .list => true
  | .sorted => true
  | _ => false
def Bf.val : Bf → Value
  | .len => .builtin "len"
  | .sum => .builtin "sum"
  | .all => .builtin "all"
  | .any => .builtin "any"
  | .abs => .builtin "abs"
  | .isi => .builtin "isinstance"
  | .int => .type "int"
  | .bool => .type "bool"
  | .list => .type "list"
  | .tuple => .type "tuple"
  | .repr => .builtin "repr"
  | .sorted => .builtin "sorted"
theorem bfName_ok {x : Str} {b : Bf} (h : bfName x = some b) : bootBuiltins x = some b.val := by
  unfold bfName at h
  repeat' split at h
  all_goals first
    | cases h; subst_vars; decide +kernel
    | cases h
theorem bf_rule {X : Cx} {G : Ge} (hK : X.K = G.K) (hu : X.A.units + 65 < cLine) (b : Bf) (hc : b.calm = true → X.calm = true) (hg : b = .repr → X.A.guards = some []) : ∃ r, CallR X b.val r ∧ OpOk G b.op r := by
  cases b with
  | len => exact ⟨_, cr_lenAll, by rw [hK]; exact ok_len⟩
  | sum => exact ⟨_, cr_sumAll (hc rfl), by rw [hK]; exact ok_sum⟩
  | all => exact ⟨_, cr_all (hc rfl), by rw [hK]; exact ok_all⟩
  | any => exact ⟨_, cr_any (hc rfl), by rw [hK]; exact ok_any⟩
  | abs => exact ⟨_, cr_abs, ok_abs⟩
  | isi => exact ⟨_, cr_isi, by rw [hK]; exact ok_isi⟩
  | int => exact ⟨_, cr_int1, ok_int1⟩
  | bool => exact ⟨_, cr_bool1, ok_bool1⟩
  | list => exact ⟨_, cr_listAll (hc rfl), by rw [hK]; exact ok_list⟩
  | tuple => exact ⟨_, cr_tupleAll, by rw [hK]; exact ok_tuple⟩
  | repr => exact ⟨_, cr_reprD (hg rfl) hu, by rw [hK]; exact ok_repr⟩
  | sorted => exact ⟨_, cr_sortX (hc rfl) hu, by rw [hK]; exact ok_sortX⟩

/-! ### expressions -/
def cAs (c : Ce → Expr → Option (En → R Opd)) (Γ : Ce) : List Expr → Option (List (En → R Opd))
  | [] => some []
  | e :: es => match c Γ e with
    | some f => match cAs c Γ es with
      | some fs => some (f :: fs)
      | none => none
    | none => none
def cB (op : (En → R Opd) → (En → R Opd) → En → R Opd) (c : Ce → Expr → Option (En → R Opd)) (Γ : Ce) : List Expr → Option (En → R Opd)
  | [] => none
  | [e] => c Γ e
  | e :: a :: r => match c Γ e with
    | some f => match cB op c Γ (a :: r) with
      | some g => some (op f g)
      | none => none
    | none => none
def eName (T : Tb) (Γ : Ce) (x : Str) : Option (En → R Opd) :=
  if nmOk x then
    if vis Γ.sc x then match ixOf Γ.N x with
      | some i => some (sVar i)
      | none => none
    else if glob Γ.sc x then match T.fnIx x with
      | some k => some (sLit (.fn k))
      | none => match T.con x with
        | some d => some (sLit d)
        | none => match T.clIx x with
         | some k => some (sLit (.cl k))
         | none => if T.free x then match btName x with
            | some b => some (sLit (.ty b))
            | none => none
          else none
    else none
  else none
def eConst : Const → Option (En → R Opd)
  | .int i => some (sLit (.int i))
  | .bool i => some (sLit (.bl i))
  | .str i => some (sLit (.str i))
  | .none => some (sLit .non)
  | _ => none
def isSlice : Expr → Bool
  | .Slice _ _ _ _ => true
  | _ => false
def eSl (c : Ce → Expr → Option (En → R Opd)) (Γ : Ce) (f : En → R Opd) : Option Expr → Option Expr → Option Expr → Option (En → R Opd)
  | none, none, none => some (sOp opSl0 [f])
  | some a, none, none => match c Γ a with
    | some g => some (sOp opSl1 [f, g])
    | none => none
  | none, some a, none => match c Γ a with
    | some g => some (sOp opSl2 [f, g])
    | none => none
  | some a, some b, none => match c Γ a with
    | some g => match c Γ b with
      | some h => some (sOp opSl3 [f, sInt g, h])
      | none => none
    | none => none
  | _, _, _ => none
def eSub (c : Ce → Expr → Option (En → R Opd)) (Γ : Ce) (a b : Expr) : Option (En → R Opd) := match c Γ a with
  | some f => match b with
    | .Slice lo hi st _ => eSl c Γ f lo hi st
    | b => if isSlice b then none else match c Γ b with
      | some g => some (sOp (op2 dIx) [f, g])
      | none => none
  | none => none
def eCall (T : Tb) (c : Ce → Expr → Option (En → R Opd)) (Γ : Ce) (x : Str) (args : List Expr) : Option (En → R Opd) :=
  if nmOk x && glob Γ.sc x && args.all plainArg then match cAs c Γ args with
    | some fs => match T.fnIx x with
      | some k => if args.length = T.np k then some (sCall (T.pin k) (T.call k) fs) else none
      | none => if T.free x && !args.isEmpty then match bfName x with
          | some b => if (decide (b = .repr) && !T.rep) || (b.calm && Γ.hot) then none else if decide (b = .isi) && Γ.hot then some (sOp (opIsx T.sub) fs) else some (sOp b.op fs)
          | none => none
        else none
    | none => none
  else none
/-- sorted(set(e)) -/
def eUnit (T : Tb) (c : Ce → Expr → Option (En → R Opd)) (Γ : Ce) (x : Str) : List Expr → Option (En → R Opd)
  | [.Call (.Name y _) [a] [] _] => if decide (x = "sorted") && decide (y = "set") && glob Γ.sc x && glob Γ.sc y && T.free x && T.free y && plainArg a && !Γ.hot then match c Γ a with
      | some f => some (sOp (op1 fSortSet) [f])
      | none => none
    else none
  | _ => none
def eMeth (c : Ce → Expr → Option (En → R Opd)) (Γ : Ce) (x m : Str) (args : List Expr) : Option (En → R Opd) :=
  if nmOk x && vis Γ.sc x && args.all plainArg then match ixOf Γ.N x with
    | some i => match cAs c Γ args with
      | some fs =>
        if m = "append" then match fs with
          | [_] => some (sMut i isLst oApp fs)
          | _ => none
        else if m = "pop" then match fs with
          | [] => some (sMut i isLst oPop fs)
          | [_] => some (sMut i isLst oPopAt fs)
          | _ => none
        else if m = "insert" then match fs with
          | [_, _] => some (sMut i isLst oIns fs)
          | _ => none
        else if m = "reverse" then match fs with
          | [] => some (sMut i isLst oRev fs)
          | _ => none
        else if m = "extend" then match fs with
          | [f] => some (sExt i f)
          | _ => none
        else none
      | none => none
    | none => none
  else none
def cTgN (Γ : Ce) : List Expr → Option (List Nat)
  | [] => some []
  | .Name x _ :: es => if stOk Γ x then match ixOf Γ.N x with
      | some i => match cTgN Γ es with
        | some is => some (i :: is)
        | none => none
      | none => none
    else none
  | _ => none
def cTg (Γ : Ce) : Expr → Option Tgt
  | .Name x _ => if stOk Γ x then match ixOf Γ.N x with
      | some i => some (.nm i)
      | none => none
    else none
  | .Tuple es _ _ => if Γ.hot then none else match cTgN Γ es with
    | some is => some (.tp is)
    | none => none
  | _ => none
def ownOf (N : List Str) (scope : Scope) : List (Str × Nat) := scope.names.filterMap fun y => match y.2 with
  | .local => match ixOf N y.1 with
    | some i => some (y.1, i)
    | none => none
  | .cell => match ixOf N y.1 with
    | some i => some (y.1, i)
    | none => none
  | _ => none
def Ce.blk (Γ : Ce) (scope : Scope) : Ce := ⟨Γ.N, relS scope Γ.sc, fun x => scope.names.lookup x == some .cell, Γ.pin, Γ.hot, Γ.lam⟩
def isSet : Expr → Bool
  | .Set _ _ _ => true
  | _ => false
def cIfs (c : CF) (Γ : Ce) : List Expr → Option STe
  | [] => some sYes
  | [e] => c.t Γ e
  | _ => none
def eLc (c : CF) (Γ : Ce) (elt tg iter : Expr) (ifs : List Expr) (scope : Scope) : Option (En → R Opd) :=
  if blkC Γ.N Γ.sc scope (ownOf Γ.N scope) && ((ownOf Γ.N scope).all fun p => !(Γ.pin.contains p.2)) && !(isSet iter) && !Γ.hot then
    match c.i Γ tg iter with
    | some w => match cTg (Γ.blk scope) tg with
      | some t => if t.ix.all fun i => ((ownOf Γ.N scope).map (·.2)).contains i then match cIfs c (Γ.blk scope) ifs with
          | some tt => match c.e (Γ.blk scope) elt with
            | some f => some (sLc w t tt f ((ownOf Γ.N scope).map (·.2)))
            | none => none
          | none => none
        else none
      | none => none
    | none => none
  else none
def cDp (c : Ce → Expr → Option (En → R Opd)) (Γ : Ce) : List (Option Expr) → List Expr → Option (List ((En → R Opd) × (En → R Opd)))
  | [], [] => some []
  | some k :: ks, v :: vs => match c Γ k with
    | some f => match c Γ v with
      | some g => match cDp c Γ ks vs with
        | some r => some ((f, g) :: r)
        | none => none
      | none => none
    | none => none
  | _, _ => none
def eCallV (T : Tb) (c : Ce → Expr → Option (En → R Opd)) (Γ : Ce) (x : Str) (args : List Expr) : Option (En → R Opd) :=
  if nmOk x && args.all plainArg && !args.isEmpty then match ixOf Γ.N x with
    | some i => match cAs c Γ args with
      | some fs => some (sCallV i T.has T.np T.pin T.call fs)
      | none => none
    | none => none
  else none
def noArgsB : Arguments → Bool
  | ⟨[], [], none, [], [], none, []⟩ => true
  | _ => false
theorem noArgs_ok {a : Arguments} (h : noArgsB a = true) : a = noArgs := by
  unfold noArgsB at h
  split at h
  · rfl
  · cases h
def lamCap (N : List Str) (sc : Scope) : List Nat := sc.names.filterMap fun y => match y.2 with
  | .free => ixOf N y.1
  | _ => none
def eFlt (y : Flt) (Γ : Ce) (x : Str) : List Expr → Option (En → R Opd)
  | [.Lambda ar bd sc _] => if nmOk x && glob Γ.sc x && !Γ.hot && Γ.lam && LamX.lamSB Γ.sc sc && noArgsB ar then match y.lc Γ.N sc bd with
      | some f => some (sFault (lamCap Γ.N sc) y.sf f y.su)
      | none => none
    else none
  | _ => none
def stepE (T : Tb) (c : CF) (Γ : Ce) : Expr → Option (En → R Opd)
  | .Name x _ => eName T Γ x
  | .Constant v _ _ => eConst v
  | .Tuple es _ _ => if es.all plainArg then match cAs c.e Γ es with
      | some fs => some (sTup fs)
      | none => none
    else none
  | .List es _ => if es.all plainArg then match cAs c.e Γ es with
      | some fs => some (sLst fs)
      | none => none
    else none
  | .Dict ks vs p => if ks.isEmpty && vs.isEmpty then some (sNewD (if T.tp p then .dT [] else .dK [])) else if ks.isEmpty || !(decide (ks.length ≤ 15)) then none else match cDp c.e Γ ks vs with
    | some fs => some (sDisp fs)
    | none => none
  | .BinOp a o b _ => match binOp o with
    | some op => match c.e Γ a with
      | some f => match c.e Γ b with
        | some g => some (sOp op [f, g])
        | none => none
      | none => none
    | none => none
  | .UnaryOp o a _ => match c.e Γ a with
    | some f => match o with
      | .USub => some (sOp (op1 dNeg) [f])
      | .Not => some (sNot f)
      | _ => none
    | none => none
  | .BoolOp .And vs _ => cB sAnd c.e Γ vs
  | .BoolOp .Or vs _ => cB sOr c.e Γ vs
  | .Compare a [o] [b] _ => if behindInMarks o b then none else match c.e Γ a with
    | some f => match c.e Γ b with
      | some g => some (sOp (cmpOp o) [f, g])
      | none => none
    | none => none
  | .Compare a [o, o'] [b, d] _ => if lastMarks [o, o'] [b, d] then none else match intOp o with
    | some p => match intOp o' with
      | some q => match c.e Γ a with
        | some f => match c.e Γ b with
          | some g => match c.e Γ d with
            | some h => some (sChain p q f g h)
            | none => none
          | none => none
        | none => none
      | none => none
    | none => none
  | .IfExp t a b _ => match c.t Γ t with
    | some s => match c.e Γ a with
      | some f => match c.e Γ b with
        | some g => some (sIte s f g)
        | none => none
      | none => none
    | none => none
  | .Subscript a b _ => eSub c.e Γ a b
  | .Attribute (.Name x p) f _ => match c.e Γ (.Name x p) with
    | some g => some (sAttr T.flds f g)
    | none => none
  | .Call (.Name x _) args kws _ => if kws.isEmpty then if vis Γ.sc x then eCallV T c.e Γ x args else match T.flt x with
      | some y => eFlt y Γ x args
      | none => match eUnit T c.e Γ x args with
        | some f => some f
        | none => eCall T c.e Γ x args
    else none
  | .Call (.Attribute (.Name x _) m apos) args kws cpos => if kws.isEmpty && apos.endLine == cpos.line then eMeth c.e Γ x m args else none
  | .ListComp elt [g] scope _ => if g.is_async = 0 then eLc c Γ elt g.target g.iter g.ifs scope else none
  | _ => none

/-! ### tests -/
def cW (op : STe → STe → STe) (c : Ce → Expr → Option STe) (Γ : Ce) : List Expr → Option STe
  | [] => none
  | [e] => c Γ e
  | e :: a :: r => match c Γ e with
    | some f => match cW op c Γ (a :: r) with
      | some g => some (op f g)
      | none => none
    | none => none
def stepT (c : CF) (Γ : Ce) : Expr → Option STe
  | .UnaryOp .Not a _ => match c.t Γ a with
    | some s => some (sTNot s)
    | none => none
  | .BoolOp .And vs _ => cW sTAnd c.t Γ vs
  | .BoolOp .Or vs _ => cW sTOr c.t Γ vs
  | .Compare a [o] [b] _ => if behindInMarks o b then none else match c.e Γ a with
    | some f => match c.e Γ b with
      | some g => some (sTruth (sOp (cmpOp o) [f, g]))
      | none => none
    | none => none
  | .Compare a [o, o'] [b, d] _ => if lastMarks [o, o'] [b, d] then none else match intOp o with
    | some p => match intOp o' with
      | some q => match c.e Γ a with
        | some f => match c.e Γ b with
          | some g => match c.e Γ d with
            | some h => some (sTruth (sChain p q f g h))
            | none => none
          | none => none
        | none => none
      | none => none
    | none => none
  | e => if plainTest e then match c.e Γ e with
      | some f => some (sTruth f)
      | none => none
    else none

/-! ### what is walked -/
def isTup : Expr → Bool
  | .Tuple _ _ _ => true
  | _ => false
def stepI (T : Tb) (c : CF) (Γ : Ce) (tg : Expr) (it : Expr) : Option SI :=
  let plain : Option SI := match c.e Γ it with
    | some f => some (wSq f)
    | none => none
  match it with
  | .Call (.Name x _) args kws _ => if kws.isEmpty && glob Γ.sc x && T.free x && args.all plainArg then
      if x = "range" then match cAs c.e Γ args with
        | some [f] => some (wRg1 f)
        | some [f, g] => some (wRg2 f g)
        | some [f, g, h] => some (wRg3 f g h)
        | _ => none
      else if x = "zip" then if isTup tg then match cAs c.e Γ args with
          | some [f, g] => some (wZip f g)
          | _ => none
        else none
      else if x = "enumerate" then if isTup tg then match cAs c.e Γ args with
          | some [f] => some (wEnum f)
          | _ => none
        else none
      else if x = "reversed" then match cAs c.e Γ args with
        | some [f] => some (wRev f)
        | _ => none
      else plain
    else plain
  | _ => plain
end Ev

namespace Ev
open PySem PySem.Spec PyProof.Rows L2

/-! ## what the compiled does is what is read -/
structure TabOk (P : Program) (w : World) (K : PySem.W.Frag) (mg : Str → Option Value) (base : Heap) (G : Ge) (T : Tb) (n : Nat) : Prop where
  fn : ∀ x k, T.fnIx x = some k → mg x = some (.ref (G.fn k)) ∧ PySem.W.keepIn K (.ref (G.fn k)) = true ∧ ∃ fd ps, ps.length = T.np k ∧ Binds K fd ps [] ∧ FnQ G T.rep P w K mg base (L2.CX P w) n (G.fn k) fd ps (spF G (T.np k) (T.call k))
  fv : ∀ k, T.has k = true → PySem.W.keepIn K (.ref (G.fn k)) = true ∧ ∃ fd ps, ps.length = T.np k ∧ Binds K fd ps [] ∧ FnQ G T.rep P w K mg base (L2.CX P w) n (G.fn k) fd ps (spF G (T.np k) (T.call k))
  free : ∀ x, T.free x = true → mg x = none
  con : ∀ x d, T.con x = some d → ∃ u v, mg x = some u ∧ RelV v u ∧ ∀ F H, Rep G F H d v
  cl : ∀ x c, T.clIx x = some c → mg x = some (.ref (G.cls c)) ∧ (T.flds c ≠ [] → OexC K (G.cls c) ∧ ∃ fI fd ps, PySem.W.findIn K (.ref (G.cls c)) "__init__" = some (some (.ref fI)) ∧ PySem.W.typeIn K (.ref fI) = some (.type "function") ∧ Binds K fd ps [] ∧ FnOk P w K mg base (L2.CX P w) 1 fI fd ps (spInit (G.cls c) (T.flds c)))
  xok : ∀ a c dd, G.hot = some (a, c, dd) → XOk K G T.sub T.flds c
  flt : ∀ x y, T.flt x = some y → T.rep = true ∧ ∃ m, n = m + 2 ∧ FltOk P w K mg base G m x y
structure Cxt (X : Cx) (G : Ge) (E : XK) (T : Tb) (n : Nat) (Γ : Ce) : Prop where
  K : X.K = G.K
  hh : Γ.hot = false → G.hot = none
  calm : G.hot = none → X.calm = true
  N : X.N = Γ.N
  nd : X.N.Nodup
  sc : X.env.scope = Γ.sc
  fn : X.fn = Γ.fn
  kd : X.env.scope.kind = .function
  room : L2H.RoomH n X.A
  hx : HotX G X
  gd : T.rep = true → X.A.guards = some []
  lx : Γ.lam = true → LamAt X G
  pass : Passes (L2.CX X.prog X.w) X E
  tab : TabOk X.prog X.w X.K X.mg X.base G T n
def Pins (Z : Zn) (Γ : Ce) : Prop := ∀ p ∈ Z.par, p.1 ∈ Γ.pin
structure CFOk (T : Tb) (n : Nat) (c : CF) : Prop where
  e : ∀ {X G E Γ Z}, Cxt X G E T n Γ → Pins Z Γ → ∀ {e f}, c.e Γ e = some f → PE X e (tE G Z E f)
  t : ∀ {X G E Γ Z}, Cxt X G E T n Γ → Pins Z Γ → ∀ {e f}, c.t Γ e = some f → PT X e (tT G Z E f)
  i : ∀ {X G E Γ Z}, Cxt X G E T n Γ → Pins Z Γ → ∀ {tg e f}, c.i Γ tg e = some f → PI X tg e (tI G Z E f)
section
variable {X : Cx} {G : Ge} {E : XK} {T : Tb} {n : Nat} {Γ : Ce} {Z : Zn} {c : CF}
theorem Cxt.hu (h : Cxt X G E T n Γ) : X.A.units + 65 < cLine := by
  have := h.room.un
  omega
theorem Cxt.vis (h : Cxt X G E T n Γ) {x : Str} (hv : Ev.vis Γ.sc x = true) : Vis X.env.scope x := by rw [h.sc]; exact vis_ok hv
theorem Cxt.gl (h : Cxt X G E T n Γ) {x : Str} (hv : glob Γ.sc x = true) : Gl X x := by
  show X.env.scope.names.lookup x = _
  rw [h.sc]
  exact glob_ok hv
theorem Cxt.ix (h : Cxt X G E T n Γ) {x : Str} {i : Nat} (hi : ixOf Γ.N x = some i) : X.N[i]? = some x := by rw [h.N]; exact ixOf_get hi
theorem Cxt.st (h : Cxt X G E T n Γ) {x : Str} (hs : stOk Γ x = true) : Loc X.env.scope x ∧ (X.fn x = true ∨ X.env.scope.names.lookup x = some .local) := by
  rw [h.sc, h.fn]
  unfold stOk at hs
  split at hs
  · exact ⟨.inl ‹_›, .inr ‹_›⟩
  · exact ⟨.inr ‹_›, .inl hs⟩
  · cases hs
theorem cAs_ok (hc : CFOk T n c) (h : Cxt X G E T n Γ) (hz : Pins Z Γ) : ∀ {es : List Expr} {fs : List (En → R Opd)}, es.all plainArg = true → cAs c.e Γ es = some fs → PA X es (tA G Z E (sArgs fs)) ∧ fs.length = es.length
  | [], fs, _, e => by cases e; exact ⟨ja_nil, rfl⟩
  | a :: es, fs, hp, e => by
    simp only [List.all_cons, Bool.and_eq_true] at hp
    unfold cAs at e
    split at e
    · rename_i f hf
      split at e
      · rename_i fs' hfs
        cases e
        obtain ⟨h1, h2⟩ := cAs_ok hc h hz hp.2 hfs
        exact ⟨ja_cons hp.1 (hc.e h hz hf) h1, by simp [h2]⟩
      · cases e
    · cases e
theorem cDp_ok (hc : CFOk T n c) (h : Cxt X G E T n Γ) (hz : Pins Z Γ) {pos : Pos} : ∀ {ks : List (Option Expr)} {vs : List Expr} {fs : List ((En → R Opd) × (En → R Opd))}, cDp c.e Γ ks vs = some fs → PPs X pos ks vs (fs.map fun p => (tE G Z E p.1, tE G Z E p.2)) ∧ ks.all (·.isSome) = true ∧ ks.length = vs.length
  | [], [], fs, e => by cases e; exact ⟨pps_nil, rfl, rfl⟩
  | some k :: ks, v :: vs, fs, e => by
    unfold cDp at e
    split at e
    case h_2 => cases e
    rename_i f hf
    split at e
    case h_2 => cases e
    rename_i g hg
    split at e
    case h_2 => cases e
    rename_i r hr
    cases e
    obtain ⟨q1, q2, q3⟩ := cDp_ok hc h hz hr
    exact ⟨pps_cons (hc.e h hz hf) (hc.e h hz hg) q1, by simpa using q2, by simpa using q3⟩
  | none :: ks, vs, fs, e => by cases vs <;> cases e
  | some k :: ks, [], fs, e => by cases e
  | [], v :: vs, fs, e => by cases e
theorem eName_ok (h : Cxt X G E T n Γ) {x : Str} {pos : Pos} {f : En → R Opd} (e : eName T Γ x = some f) : PE X (.Name x pos) (tE G Z E f) := by
  unfold eName at e
  split at e
  case isFalse => cases e
  rename_i hn
  obtain ⟨h1, h2, h3⟩ := nmOk_ok hn
  split at e
  · rename_i hv
    split at e
    · rename_i i hi
      cases e
      exact je_var (h.ix hi) (h.vis hv) h1 h2
    · cases e
  · split at e
    · rename_i hg
      split at e
      · rename_i k hk
        cases e
        exact je_fn (h.gl hg) (h.tab.fn x k hk).1 h1
      · split at e
        · rename_i d hd
          cases e
          obtain ⟨u, v, h4, h5, h6⟩ := h.tab.con x d hd
          exact (pe_glob (h.gl hg) h4 h5 h1).imp fun σ H Q q => tE_lit h6 q
        · split at e
          · rename_i k hk
            cases e
            exact (pe_glob (h.gl hg) (h.tab.cl x k hk).1 (v := .ref (G.cls k)) rfl h1).imp fun σ H Q q => tE_lit (fun _ _ => .cl k) q
          split at e
          · rename_i hf
            split at e
            · rename_i b hb
              cases e
              exact (pe_bltn (h.gl hg) (h.tab.free x hf) (btName_ok hb) (v := .ty b.name) rfl h3 h1).imp fun σ H Q q => tE_lit (fun _ _ => .ty b) q
            · cases e
          · cases e
    · cases e
theorem eConst_ok {v : Const} {j : Nat} {pos : Pos} {f : En → R Opd} (e : eConst v = some f) : PE X (.Constant v j pos) (tE G Z E f) := by
  cases v <;> cases e
  · exact je_non
  · exact je_bl
  · exact je_int
  · exact je_str
theorem eSl_ok (hc : CFOk T n c) (h : Cxt X G E T n Γ) (hz : Pins Z Γ) {a : Expr} {f g : En → R Opd} {lo hi st : Option Expr} {p1 p2 : Pos} (ha : PE X a (tE G Z E f)) (e : eSl c.e Γ f lo hi st = some g) : PE X (.Subscript a (.Slice lo hi st p1) p2) (tE G Z E g) := by
  unfold eSl at e
  split at e
  · cases e; exact je_sl0 h.K ha
  · split at e
    · rename_i q hq; cases e; exact je_sl1 h.K ha (hc.e h hz hq)
    · cases e
  · split at e
    · rename_i q hq; cases e; exact je_sl2 h.K ha (hc.e h hz hq)
    · cases e
  · split at e
    · rename_i q hq
      split at e
      · rename_i r hr; cases e; exact je_sl3 h.K ha (hc.e h hz hq) (hc.e h hz hr)
      · cases e
    · cases e
  · cases e
theorem plainIx_of {b : Expr} (hb : isSlice b = false) : PlainIx b := fun o i => by
  cases b with
  | Slice _ _ _ _ => cases hb
  | _ => rfl
theorem eSub_ok (hc : CFOk T n c) (h : Cxt X G E T n Γ) (hz : Pins Z Γ) {a b : Expr} {f : En → R Opd} {pos : Pos} (e : eSub c.e Γ a b = some f) : PE X (.Subscript a b pos) (tE G Z E f) := by
  unfold eSub at e
  split at e
  case h_2 => cases e
  rename_i g hg
  split at e
  · exact eSl_ok hc h hz (hc.e h hz hg) e
  · split at e
    case isTrue => cases e
    rename_i hb
    split at e
    · rename_i k hk
      cases e
      refine je_ix (r := rIxAll G.K) ?_ ok_ix (hc.e h hz hg) (hc.e h hz hk) (plainIx_of (by simpa using hb))
      have := ix_all (X := X) (by have := h.hu; omega)
      rw [h.K] at this
      exact this
    · cases e
theorem eCall_ok (hc : CFOk T n c) (h : Cxt X G E T n Γ) (hz : Pins Z Γ) {x : Str} {args : List Expr} {p pos : Pos} {f : En → R Opd} (e : eCall T c.e Γ x args = some f) : PE X (.Call (.Name x p) args [] pos) (tE G Z E f) := by
  unfold eCall at e
  split at e
  case isFalse => cases e
  rename_i h0
  simp only [Bool.and_eq_true] at h0
  obtain ⟨⟨hn, hg⟩, hp⟩ := h0
  obtain ⟨h1, h2, h3⟩ := nmOk_ok hn
  split at e
  case h_2 => cases e
  rename_i fs hfs
  obtain ⟨ha, hl⟩ := cAs_ok hc h hz hp hfs
  split at e
  · rename_i k hk
    split at e
    case isFalse => cases e
    rename_i hnp
    cases e
    obtain ⟨m1, m2, fd, ps, m3, m4, m5⟩ := h.tab.fn x k hk
    cases args with
    | nil =>
      have e1 : fs = [] := List.length_eq_zero_iff.mp hl
      subst e1
      have e2 : ps = [] := List.length_eq_zero_iff.mp (by rw [m3, ← hnp]; rfl)
      subst e2
      refine je_call0 (g := T.rep) (φ := T.call k) ?_ h.room h.gd h.hx (h.gl hg) m1 m2 m4 h.pass h1
      rw [← m3] at m5
      exact m5
    | cons a es =>
      refine je_call (g := T.rep) (φ := T.call k) ?_ h.room h.gd h.hx (h.gl hg) m1 m2 m4 h.pass ha (by rw [hl, m3, hnp]) h1 hp
      rw [m3]
      exact m5
  · split at e
    case isFalse => cases e
    rename_i hf
    simp only [Bool.and_eq_true, Bool.not_eq_true'] at hf
    split at e
    case h_2 => cases e
    rename_i b hb
    split at e
    case isTrue => cases e
    rename_i hrep
    simp only [Bool.or_eq_true, Bool.and_eq_true, not_or, not_and, decide_eq_true_eq, Bool.not_eq_true', Bool.not_eq_false] at hrep
    split at e
    · rename_i hi
      simp only [Bool.and_eq_true, decide_eq_true_eq] at hi
      cases e
      cases args with
      | nil => exact absurd hf.2 (by simp)
      | cons a es =>
        have hv := bfName_ok hb
        rw [hi.1] at hv
        have r1 : CallR X (.builtin "isinstance") (rIsx X.K G) := cr_isx (X := X) h.hx h.tab.xok
        have r2 : OpOk G (opIsx T.sub) (rIsx X.K G) := by
          rw [h.K]
          exact ok_isx (fl := T.flds) (by rw [← h.K]; exact h.tab.xok)
        exact je_callB r1 r2 (h.gl hg) (h.tab.free x hf.1) hv ha h3 h1 hp
    cases e
    cases args with
    | nil => exact absurd hf.2 (by simp)
    | cons a es =>
      obtain ⟨r, r1, r2⟩ := bf_rule (X := X) h.K h.hu b (fun z => h.calm (h.hh (by simpa using hrep.2 z))) (fun z => h.gd (hrep.1 z))
      have hv := bfName_ok hb
      cases b with
      | len => exact je_callB r1 r2 (h.gl hg) (h.tab.free x hf.1) hv ha h3 h1 hp
      | sum => exact je_callB r1 r2 (h.gl hg) (h.tab.free x hf.1) hv ha h3 h1 hp
      | all => exact je_callB r1 r2 (h.gl hg) (h.tab.free x hf.1) hv ha h3 h1 hp
      | any => exact je_callB r1 r2 (h.gl hg) (h.tab.free x hf.1) hv ha h3 h1 hp
      | abs => exact je_callB r1 r2 (h.gl hg) (h.tab.free x hf.1) hv ha h3 h1 hp
      | isi => exact je_callB r1 r2 (h.gl hg) (h.tab.free x hf.1) hv ha h3 h1 hp
      | int => exact je_callTy r1 r2 (h.gl hg) (h.tab.free x hf.1) hv ha h3 h1 hp
      | bool => exact je_callTy r1 r2 (h.gl hg) (h.tab.free x hf.1) hv ha h3 h1 hp
      | list => exact je_callTy r1 r2 (h.gl hg) (h.tab.free x hf.1) hv ha h3 h1 hp
      | tuple => exact je_callTy r1 r2 (h.gl hg) (h.tab.free x hf.1) hv ha h3 h1 hp
      | repr => exact je_callB r1 r2 (h.gl hg) (h.tab.free x hf.1) hv ha h3 h1 hp
      | sorted => exact je_callB r1 r2 (h.gl hg) (h.tab.free x hf.1) hv ha h3 h1 hp
theorem eUnit_ok (hc : CFOk T n c) (h : Cxt X G E T n Γ) (hz : Pins Z Γ) {x : Str} {args : List Expr} {p pos : Pos} {f : En → R Opd} (e : eUnit T c.e Γ x args = some f) : PE X (.Call (.Name x p) args [] pos) (tE G Z E f) := by
  unfold eUnit at e
  split at e
  case h_2 => cases e
  rename_i y _ a _
  split at e
  case isFalse => cases e
  rename_i h0
  simp only [Bool.and_eq_true, decide_eq_true_eq, Bool.not_eq_true'] at h0
  obtain ⟨⟨⟨⟨⟨⟨⟨rfl, rfl⟩, g1⟩, g2⟩, f1⟩, f2⟩, hp⟩, hh⟩ := h0
  split at e
  case h_2 => cases e
  rename_i g hg
  cases e
  exact je_sortSet h.K (h.calm (h.hh hh)) (h.gl g1) (h.tab.free _ f1) (h.gl g2) (h.tab.free _ f2) (hc.e h hz hg) hp
theorem eMeth_ok (hc : CFOk T n c) (h : Cxt X G E T n Γ) (hz : Pins Z Γ) {x m : Str} {args : List Expr} {p apos cpos : Pos} {f : En → R Opd} (hline : (apos.endLine == cpos.line) = true) (e : eMeth c.e Γ x m args = some f) : PE X (.Call (.Attribute (.Name x p) m apos) args [] cpos) (tE G Z E f) := by
  unfold eMeth at e
  split at e
  case isFalse => cases e
  rename_i h0
  simp only [Bool.and_eq_true] at h0
  obtain ⟨⟨hn, hv⟩, hp⟩ := h0
  obtain ⟨h1, h2, h3⟩ := nmOk_ok hn
  split at e
  case h_2 => cases e
  rename_i i hi
  split at e
  case h_2 => cases e
  rename_i fs hfs
  obtain ⟨ha, hl⟩ := cAs_ok hc h hz hp hfs
  have ty : ∀ F H d a, isLst d = true → Con G F H d a → tyV X.K "list" (.ref a) H := fun F H d a h1 h2 => by rw [h.K]; exact isLst_ty h1 h2
  split at e
  · rename_i hm
    subst hm
    split at e
    · rename_i f0
      cases e
      match args, hl with
      | [a], _ => exact je_mut PySem.F.plainAttrs_list PySem.F.slot_list_append PySem.F.type_list_append mt_append ok_app ty (h.ix hi) (h.vis hv) h1 h2 ha hp (by simp) rfl hline
    · cases e
  split at e
  · rename_i hm
    subst hm
    split at e
    · cases e
      match args, hl with
      | [], _ => exact je_mut0 PySem.F.plainAttrs_list PySem.F.slot_list_pop PySem.F.type_list_pop mt_pop ok_pop ty (h.ix hi) (h.vis hv) h1 h2 rfl hline
    · cases e
      match args, hl with
      | [a], _ => exact je_mut PySem.F.plainAttrs_list PySem.F.slot_list_pop PySem.F.type_list_pop mt_popAt ok_popAt ty (h.ix hi) (h.vis hv) h1 h2 ha hp (by simp) rfl hline
    · cases e
  split at e
  · rename_i hm
    subst hm
    split at e
    · cases e
      match args, hl with
      | [a, b], _ => exact je_mut PySem.F.plainAttrs_list PySem.F.slot_list_insert PySem.F.type_list_insert mr_insert ok_ins ty (h.ix hi) (h.vis hv) h1 h2 ha hp (by simp) rfl hline
    · cases e
  split at e
  · rename_i hm
    subst hm
    split at e
    · cases e
      match args, hl with
      | [], _ => exact je_mut0 PySem.F.plainAttrs_list PySem.F.slot_list_reverse PySem.F.type_list_reverse mt_reverse ok_rev ty (h.ix hi) (h.vis hv) h1 h2 rfl hline
    · cases e
  split at e
  · rename_i hm
    subst hm
    split at e
    · cases e
      match args, hl with
      | [a], _ => exact je_ext h.K (h.ix hi) (h.vis hv) h1 h2 ha hp rfl hline
    · cases e
  · cases e
theorem cTgN_ok (h : Cxt X G E T n Γ) : ∀ {es : List Expr} {is : List Nat}, cTgN Γ es = some is → NmsOk X es is
  | [], is, e => by cases e; exact nms_nil
  | .Name x p :: es, is, e => by
    unfold cTgN at e
    split at e
    case isFalse => cases e
    rename_i hs
    split at e
    case h_2 => cases e
    rename_i i hi
    split at e
    · rename_i is' his
      cases e
      obtain ⟨h1, h2⟩ := h.st hs
      exact nms_cons h.nd (h.ix hi) h1 h2 (cTgN_ok h his)
    · cases e
theorem cTg_ok (h : Cxt X G E T n Γ) {tg : Expr} {t : Tgt} (e : cTg Γ tg = some t) : PG X tg (t.rd X.K) := by
  unfold cTg at e
  split at e
  · split at e
    case isFalse => cases e
    rename_i hs
    split at e
    · rename_i i hi
      cases e
      obtain ⟨h1, h2⟩ := h.st hs
      exact jg_name h.nd (h.ix hi) h1 h2
    · cases e
  · split at e
    case isTrue => cases e
    rename_i hnh
    split at e
    · rename_i is his
      cases e
      exact jg_tup (h.calm (h.hh (by simpa using hnh))) (cTgN_ok h his)
    · cases e
  · cases e
theorem set_none {e : Expr} {env : Env} (hs : isSet e = false) : ∀ x, foldedSetIterable e env x = pure x := fun x => by
  cases e with
  | Set _ _ _ => cases hs
  | _ => rfl
/-- within a comprehension -/
theorem Cxt.blk (h : Cxt X G E T n Γ) {scope : Scope} (hnh : Γ.hot = false) (hk : scope.kind = .function) (s : Shared) (H : Hp) (C : Addr) (cl : List (Str × Addr)) (fp : List Addr) : Cxt (X.blk s H scope (compEnvC scope cl C X.env) fp) G E0 T n (Γ.blk scope) where
  K := h.K
  hh := h.hh
  calm := h.calm
  N := h.N
  nd := h.nd
  sc := by
    show relS scope X.env.scope = relS scope Γ.sc
    rw [h.sc]
  fn := rfl
  kd := hk
  room := h.room
  hx := by
    have z := h.hx
    unfold HotX at z ⊢
    rw [h.hh hnh] at z ⊢
    exact z
  gd := h.gd
  lx := h.lx
  pass := passL
  tab := h.tab
theorem cIfs_ok (hc : CFOk T n c) {es : List Expr} {t : STe} (h : Cxt X G E0 T n Γ) (hz : Pins Z Γ) (e : cIfs c Γ es = some t) : PTs X es (tT G Z E0 t) := by
  unfold cIfs at e
  split at e
  · cases e; exact jts_nil
  · exact jts_one (hc.t h hz e)
  · cases e
structure LcOk (X : Cx) (G : Ge) (E : XK) (Z : Zn) (Γ : Ce) (elt tg iter : Expr) (ifs : List Expr) (scope : Scope) (f : En → R Opd) : Prop where
  ex : ∃ w t tt fe, f = sLc w t tt fe ((ownOf Γ.N scope).map (·.2)) ∧ PI X tg iter (tI G Z E w) ∧ BlkOk X.N X.env.scope scope (ownOf Γ.N scope) ∧ (∀ p ∈ Z.par, p.1 ∉ (ownOf Γ.N scope).map (·.2)) ∧ (∀ i ∈ t.ix, i ∈ (ownOf Γ.N scope).map (·.2)) ∧
    (∀ (s : Shared) (H : Hp) (C : Addr) (cl : List (Str × Addr)) (fp : List Addr), PG (X.blk s H scope (compEnvC scope cl C X.env) fp) tg (t.rd X.K)) ∧ (∀ (s : Shared) (H : Hp) (C : Addr) (cl : List (Str × Addr)) (fp : List Addr), PTs (X.blk s H scope (compEnvC scope cl C X.env) fp) ifs (tT G Z E0 tt)) ∧
    (∀ (s : Shared) (H : Hp) (C : Addr) (cl : List (Str × Addr)) (fp : List Addr), PE (X.blk s H scope (compEnvC scope cl C X.env) fp) elt (tE G Z E0 fe)) ∧ (∀ x, foldedSetIterable iter X.env x = pure x) ∧ X.calm = true
theorem eLc_ok (hc : CFOk T n c) (h : Cxt X G E T n Γ) (hz : Pins Z Γ) {elt tg iter : Expr} {ifs : List Expr} {scope : Scope} {f : En → R Opd} (e : eLc c Γ elt tg iter ifs scope = some f) : LcOk X G E Z Γ elt tg iter ifs scope f := by
  unfold eLc at e
  split at e
  case isFalse => cases e
  rename_i h0
  simp only [Bool.and_eq_true, Bool.not_eq_true'] at h0
  obtain ⟨⟨⟨hb, hp⟩, hs⟩, hnh⟩ := h0
  split at e
  case h_2 => cases e
  rename_i w hw
  split at e
  case h_2 => cases e
  rename_i t ht
  split at e
  case isFalse => cases e
  rename_i hix
  split at e
  case h_2 => cases e
  rename_i tt htt
  split at e
  case h_2 => cases e
  rename_i fe hfe
  cases e
  have bk := blkOk_by hb
  have hz' : Pins Z (Γ.blk scope) := hz
  refine ⟨w, t, tt, fe, rfl, hc.i h hz hw, by rw [h.N, h.sc]; exact bk, fun p hpp hq => ?_, fun i hi => ?_, fun s H C cl fp => cTg_ok (h.blk hnh bk.kind s H C cl fp) ht, fun s H C cl fp => cIfs_ok hc (h.blk hnh bk.kind s H C cl fp) hz' htt, fun s H C cl fp => hc.e (h.blk hnh bk.kind s H C cl fp) hz' hfe, set_none hs, h.calm (h.hh hnh)⟩
  · obtain ⟨q, h1, h2⟩ := List.mem_map.mp hq
    have := List.all_eq_true.mp hp q h1
    simp only [Bool.not_eq_true', List.contains_eq_mem, decide_eq_false_iff_not] at this
    rw [h2] at this
    exact this (hz p hpp)
  · have := List.all_eq_true.mp hix i hi
    simpa using this
theorem cB_ok {o : BoolOp} {op : (En → R Opd) → (En → R Opd) → En → R Opd} {pos : Pos} (hop : ∀ {a b : Expr} {r : List Expr} {f g : En → R Opd}, PE X a (tE G Z E f) → PE X (.BoolOp o (b :: r) pos) (tE G Z E g) → PE X (.BoolOp o (a :: b :: r) pos) (tE G Z E (op f g)))
    (hc : CFOk T n c) (h : Cxt X G E T n Γ) (hz : Pins Z Γ) (es : List Expr) : ∀ f, cB op c.e Γ es = some f → PE X (.BoolOp o es pos) (tE G Z E f) := by
  induction es with
  | nil => intro f e; cases e
  | cons a r ih =>
    intro f e
    cases r with
    | nil => exact je_one (hc.e h hz e)
    | cons b r =>
      unfold cB at e
      split at e
      case h_2 => cases e
      rename_i g hg
      split at e
      case h_2 => cases e
      rename_i k hk
      cases e
      exact hop (hc.e h hz hg) (ih _ hk)
theorem eCallV_ok (hc : CFOk T n c) (h : Cxt X G E T n Γ) (hz : Pins Z Γ) {x : Str} {args : List Expr} {p pos : Pos} {f : En → R Opd} (hv : vis Γ.sc x = true) (e : eCallV T c.e Γ x args = some f) : PE X (.Call (.Name x p) args [] pos) (tE G Z E f) := by
  unfold eCallV at e
  split at e
  case isFalse => cases e
  rename_i h0
  simp only [Bool.and_eq_true, Bool.not_eq_true'] at h0
  obtain ⟨⟨hn, hp⟩, hne⟩ := h0
  obtain ⟨h1, h2, h3⟩ := nmOk_ok hn
  split at e
  case h_2 => cases e
  rename_i i hi
  split at e
  case h_2 => cases e
  rename_i fs hfs
  cases e
  cases args with
  | nil => cases hne
  | cons a es => exact je_callV h.tab.fv h.room h.gd h.hx (h.ix hi) (h.vis hv) h1 h2 h.pass (cAs_ok hc h hz hp hfs).1 hp
theorem eFlt_ok (h : Cxt X G E T n Γ) {x : Str} {y : Flt} {args : List Expr} {p pos : Pos} {f : En → R Opd} (hy : T.flt x = some y) (e : eFlt y Γ x args = some f) : PE X (.Call (.Name x p) args [] pos) (tE G Z E f) := by
  unfold eFlt at e
  split at e
  case h_2 => cases e
  rename_i ar bd sc lpos
  split at e
  case isFalse => cases e
  rename_i h0
  simp only [Bool.and_eq_true, Bool.not_eq_true'] at h0
  obtain ⟨⟨⟨⟨⟨hn, hg⟩, hh⟩, hl⟩, hL⟩, ha⟩ := h0
  split at e
  case h_2 => cases e
  rename_i f' hf
  cases e
  obtain ⟨h1, h2, h3⟩ := nmOk_ok hn
  obtain ⟨r1, m, rfl, r2⟩ := h.tab.flt x y hy
  have hG := h.hh hh
  have hd : X.A.handled = none := by
    have z := h.hx
    unfold HotX at z
    rw [hG] at z
    exact z
  rw [noArgs_ok ha]
  exact je_fault r2 ⟨hd, h.room.dp, h.room.un⟩ (h.gd r1) hG h.K h.nd (h.gl hg) h1 (h.lx hl) (by rw [h.sc]; exact LamX.lamS_by hL) (by rw [h.N]; exact hf)
theorem stepE_ok (hc : CFOk T n c) (h : Cxt X G E T n Γ) (hz : Pins Z Γ) {e : Expr} {f : En → R Opd} (he : stepE T c Γ e = some f) : PE X e (tE G Z E f) := by
  unfold stepE at he
  split at he
  · exact eName_ok h he
  · exact eConst_ok he
  · split at he
    case isFalse => cases he
    rename_i hp
    split at he
    · rename_i fs hfs; cases he; exact je_tup (cAs_ok hc h hz hp hfs).1
    · cases he
  · split at he
    case isFalse => cases he
    rename_i hp
    split at he
    · rename_i fs hfs; cases he; exact je_lst (cAs_ok hc h hz hp hfs).1
    · cases he
  · split at he
    · rename_i hp
      simp only [Bool.and_eq_true, List.isEmpty_iff] at hp
      obtain ⟨rfl, rfl⟩ := hp
      cases he
      split
      · exact je_dT
      · exact je_dK
    · split at he
      case isTrue => cases he
      rename_i h15
      simp only [Bool.or_eq_true, List.isEmpty_iff, Bool.not_eq_true', decide_eq_false_iff_not, not_or, Decidable.not_not] at h15
      split at he
      case h_2 => cases he
      rename_i fs hfs
      cases he
      obtain ⟨q1, q2, q3⟩ := cDp_ok hc h hz hfs
      exact je_disp q1 q2 q3 h15.1 h15.2
  · split at he
    case h_2 => cases he
    rename_i op hop
    split at he
    case h_2 => cases he
    rename_i g hg
    split at he
    case h_2 => cases he
    rename_i k hk
    cases he
    obtain ⟨r, r1, r2⟩ := bin_rule (X := X) h.K hop
    exact je_bin r1 r2 (hc.e h hz hg) (hc.e h hz hk)
  · split at he
    case h_2 => cases he
    rename_i g hg
    split at he
    · cases he; exact je_un un_neg ok_neg (hc.e h hz hg)
    · cases he; exact je_not h.K (hc.e h hz hg)
    · cases he
  · exact cB_ok (fun h1 h2 => je_and h.K h1 h2) hc h hz _ _ he
  · exact cB_ok (fun h1 h2 => je_or h.K h1 h2) hc h hz _ _ he
  · split at he
    case isTrue => cases he
    rename_i hm
    split at he
    case h_2 => cases he
    rename_i g hg
    split at he
    case h_2 => cases he
    rename_i k hk
    cases he
    obtain ⟨r, r1, r2⟩ := cmp_rule (X := X) h.K h.hu _
    exact je_cmp r1 r2 (hc.e h hz hg) (hc.e h hz hk) (by simpa using hm)
  · split at he
    case isTrue => cases he
    rename_i hm
    split at he
    case h_2 => cases he
    rename_i p hp
    split at he
    case h_2 => cases he
    rename_i q hq
    split at he
    case h_2 => cases he
    rename_i g hg
    split at he
    case h_2 => cases he
    rename_i k hk
    split at he
    case h_2 => cases he
    rename_i l hl
    cases he
    exact je_chain (int_rule hp) (int_rule hq) (hc.e h hz hg) (hc.e h hz hk) (hc.e h hz hl) (by simpa using hm)
  · split at he
    case h_2 => cases he
    rename_i s hs
    split at he
    case h_2 => cases he
    rename_i g hg
    split at he
    case h_2 => cases he
    rename_i k hk
    cases he
    exact je_ite (hc.t h hz hs) (hc.e h hz hg) (hc.e h hz hk)
  · exact eSub_ok hc h hz he
  · split at he
    case h_2 => cases he
    rename_i g hg
    cases he
    exact je_attr h.hx h.tab.xok (hc.e h hz hg) rfl
  · split at he
    case isFalse => cases he
    rename_i hk
    rw [List.isEmpty_iff] at hk
    subst hk
    split at he
    · rename_i hv
      exact eCallV_ok hc h hz hv he
    split at he
    · rename_i y hy
      exact eFlt_ok h hy he
    · split at he
      · rename_i g hg
        cases he
        exact eUnit_ok hc h hz hg
      · exact eCall_ok hc h hz he
  · split at he
    case isFalse => cases he
    rename_i hk
    simp only [Bool.and_eq_true, List.isEmpty_iff] at hk
    obtain ⟨rfl, hl⟩ := hk
    exact eMeth_ok hc h hz hl he
  · rename_i elt g scope pos
    split at he
    case isFalse => cases he
    rename_i ha
    obtain ⟨tg, iter, ifs, as⟩ := g
    cases (show as = 0 from ha)
    obtain ⟨w, t, tt, fe, rfl, h1, h2, h3, h4, h5, h6, h7, h8, hcl⟩ := (eLc_ok hc h hz he).ex
    exact je_lc h.K hcl h.nd h1 h2 h3 h4 h5 h6 h7 h8
  · cases he
end
end Ev

namespace Ev
open PySem PySem.Spec PyProof.Rows L2
section
variable {X : Cx} {G : Ge} {E : XK} {T : Tb} {n : Nat} {Γ : Ce} {Z : Zn} {c : CF}
theorem cW_ok {o : BoolOp} {op : STe → STe → STe} {pos : Pos} (h1 : ∀ {a : Expr} {f : STe}, PT X a (tT G Z E f) → PW X (.BoolOp o [a] pos) (tT G Z E f)) (hop : ∀ {a b : Expr} {r : List Expr} {f g : STe}, PT X a (tT G Z E f) → PW X (.BoolOp o (b :: r) pos) (tT G Z E g) → PW X (.BoolOp o (a :: b :: r) pos) (tT G Z E (op f g)))
    (hc : CFOk T n c) (h : Cxt X G E T n Γ) (hz : Pins Z Γ) (es : List Expr) : ∀ f, cW op c.t Γ es = some f → PW X (.BoolOp o es pos) (tT G Z E f) := by
  induction es with
  | nil => intro f e; cases e
  | cons a r ih =>
    intro f e
    cases r with
    | nil => exact h1 (hc.t h hz e)
    | cons b r =>
      unfold cW at e
      split at e
      case h_2 => cases e
      rename_i g hg
      split at e
      case h_2 => cases e
      rename_i k hk
      cases e
      exact hop (hc.t h hz hg) (ih _ hk)
theorem stepT_ok (hc : CFOk T n c) (h : Cxt X G E T n Γ) (hz : Pins Z Γ) {e : Expr} {f : STe} (he : stepT c Γ e = some f) : PT X e (tT G Z E f) := by
  unfold stepT at he
  split at he
  · split at he
    · rename_i s hs; cases he; exact jt_not (hc.t h hz hs)
    · cases he
  · exact (cW_ok (fun q => jw_and1 q) (fun q1 q2 => jw_and q1 q2) hc h hz _ _ he).pt
  · exact (cW_ok (fun q => jw_or1 q) (fun q1 q2 => jw_or q1 q2) hc h hz _ _ he).pt
  · split at he
    case isTrue => cases he
    rename_i hm
    split at he
    case h_2 => cases he
    rename_i g hg
    split at he
    case h_2 => cases he
    rename_i k hk
    cases he
    obtain ⟨r, r1, r2⟩ := cmp_rule (X := X) h.K h.hu _
    exact jt_cmp r1 r2 (cmpOp_bl _) (hc.e h hz hg) (hc.e h hz hk) (by simpa using hm)
  · split at he
    case isTrue => cases he
    rename_i hm
    split at he
    case h_2 => cases he
    rename_i p hp
    split at he
    case h_2 => cases he
    rename_i q hq
    split at he
    case h_2 => cases he
    rename_i g hg
    split at he
    case h_2 => cases he
    rename_i k hk
    split at he
    case h_2 => cases he
    rename_i l hl
    cases he
    exact jt_chain (int_rule hp) (int_rule hq) (hc.e h hz hg) (hc.e h hz hk) (hc.e h hz hl) (by simpa using hm)
  · split at he
    case isFalse => cases he
    rename_i hp
    split at he
    · rename_i g hg; cases he; exact jt_truth h.K hp (hc.e h hz hg)
    · cases he
theorem plain_ok (hc : CFOk T n c) (h : Cxt X G E T n Γ) (hz : Pins Z Γ) {tg it : Expr} {w : SI} (he : (match c.e Γ it with
    | some f => some (wSq f)
    | none => none) = some w) : PI X tg it (tI G Z E w) := by
  split at he
  · rename_i f hf; cases he; exact ji_sq h.K (hc.e h hz hf)
  · cases he
theorem stepI_ok (hc : CFOk T n c) (h : Cxt X G E T n Γ) (hz : Pins Z Γ) {tg it : Expr} {w : SI} (he : stepI T c Γ tg it = some w) : PI X tg it (tI G Z E w) := by
  unfold stepI at he
  dsimp only at he
  split at he
  case h_2 => exact plain_ok hc h hz he
  rename_i x p args kws pos
  split at he
  case isFalse => exact plain_ok hc h hz he
  rename_i h0
  simp only [Bool.and_eq_true, List.isEmpty_iff] at h0
  obtain ⟨⟨⟨rfl, hg⟩, hf⟩, hp⟩ := h0
  have hgl := h.gl hg
  have hmg := h.tab.free x hf
  split at he
  · rename_i hx
    subst hx
    split at he
    · rename_i f hfs
      cases he
      obtain ⟨ha, hl⟩ := cAs_ok hc h hz hp hfs
      match args, hl, ha, hp with
      | [a], _, ha, hp => exact ji_rg1 hgl hmg ha (plainArg_eq (by simpa using hp))
    · rename_i f g hfs
      cases he
      obtain ⟨ha, hl⟩ := cAs_ok hc h hz hp hfs
      match args, hl, ha, hp with
      | [a, b], _, ha, hp =>
        simp only [List.all_cons, List.all_nil, Bool.and_true, Bool.and_eq_true] at hp
        exact ji_rg2 hgl hmg ha ((plainArg_eq hp.1).trans (by rw [plainArg_eq hp.2]; rfl)) (plainArg_eq hp.2)
    · rename_i f g k hfs
      cases he
      obtain ⟨ha, hl⟩ := cAs_ok hc h hz hp hfs
      match args, hl, ha, hp with
      | [a, b, d], _, ha, hp =>
        have hp0 := hp
        simp only [List.all_cons, List.all_nil, Bool.and_true, Bool.and_eq_true] at hp
        exact ji_rg3 hgl hmg ha (plainArg_eq hp.1) (plainArgs_any (by simp [hp.2.1, hp.2.2]))
    · cases he
  split at he
  · rename_i hx
    subst hx
    split at he
    case isFalse => cases he
    rename_i ht
    split at he
    · rename_i f g hfs
      cases he
      obtain ⟨ha, hl⟩ := cAs_ok hc h hz hp hfs
      match args, hl, ha, hp with
      | [a, b], _, ha, hp =>
        simp only [List.all_cons, List.all_nil, Bool.and_true, Bool.and_eq_true] at hp
        cases tg with
        | Tuple es k p3 => exact ji_zip h.K hgl hmg ha (plainArg_eq hp.1) (plainArgs_any (by simp [hp.2]))
        | _ => cases ht
    · cases he
  split at he
  · rename_i hx
    subst hx
    split at he
    case isFalse => cases he
    rename_i ht
    split at he
    · rename_i f hfs
      cases he
      obtain ⟨ha, hl⟩ := cAs_ok hc h hz hp hfs
      match args, hl, ha, hp with
      | [a], _, ha, hp =>
        cases tg with
        | Tuple es k p3 => exact ji_enum h.K hgl hmg ha (plainArg_eq (by simpa using hp))
        | _ => cases ht
    · cases he
  split at he
  · rename_i hx
    subst hx
    split at he
    · rename_i f hfs
      cases he
      match args, hp, hfs with
      | [a], hp, hfs =>
        unfold cAs at hfs
        split at hfs
        · rename_i f' hf'
          cases hfs
          exact ji_rev h.K hgl hmg (hc.e h hz hf') (plainArg_eq (by simpa using hp))
        · cases hfs
      | [], _, hfs => cases hfs
      | a :: b :: r, hp, hfs =>
        obtain ⟨_, hl⟩ := cAs_ok hc h hz hp hfs
        simp at hl
    · cases he
  · exact plain_ok hc h hz he
end

/-! ## statements -/
def isComp : Expr → Bool
  | .ListComp _ _ _ _ => true
  | .SetComp _ _ _ _ => true
  | .DictComp _ _ _ _ _ => true
  | _ => false
theorem swaps_no {e : Expr} {t : Option Expr} {l : Nat} {env : Env} (h : isComp e = false) : swapsWith e t l env = pure false := by
  cases e with
  | ListComp _ _ _ _ => cases h
  | SetComp _ _ _ _ => cases h
  | DictComp _ _ _ _ _ => cases h
  | _ => rfl
theorem swaps_no1 {tg e : Expr} {l : Nat} {env : Env} (h : isComp e = false) : swapsWithSole [tg] e l env = pure false := swaps_no h
def isStar : Expr → Bool
  | .Starred _ _ => true
  | _ => false
/-- names that are stored to crosswise; none: not told -/
def lclN (sc : Scope) (line : Nat) : Expr → Option Str
  | .Name id pos => if sc.names.lookup id = some .local ∧ pos.line = line then some id else none
  | _ => none
def hdLine : List Expr → Nat
  | [] => 0
  | t :: _ => t.pos.line
def swN (sc : Scope) (ts vs : List Expr) : Option (Option (List Str)) :=
  if !(ts.length == 2 || ts.length == 3) || vs.length != ts.length then some none
  else if vs.any isStar then some none
  else if (ts.filterMap (lclN sc (hdLine ts))).length != ts.length || (ts.filterMap (lclN sc (hdLine ts))).eraseDups.length != (ts.filterMap (lclN sc (hdLine ts))).length then some none
  else if vs.all (foldedForSure 8) then some none
  else if vs.all (constantsAlone 8) then none
  else some (some (ts.filterMap (lclN sc (hdLine ts))))
theorem swN_ok {ts vs : List Expr} {env : Env} {kt k2 : Nat} {pt p2 : Pos} {r : Option (List Str)} (hk : env.scope.kind = .function) (h : swN env.scope ts vs = some r) : swappedStores [.Tuple ts kt pt] (.Tuple vs k2 p2) env = pure r := by
  have hb : env.blockKind = .function := by unfold Env.blockKind; rw [hk]; rfl
  have a1 : ∀ F : Expr → Bool, (∀ e, F e = isStar e) → vs.any F = vs.any isStar := fun F hF => by rw [funext hF]
  have a2 : ∀ F : Expr → Option Str, (∀ e, F e = lclN env.scope (hdLine ts) e) → ts.filterMap F = ts.filterMap (lclN env.scope (hdLine ts)) := fun F hF => by rw [funext hF]
  have e2 : ∀ (id : Str) (pos : Pos), (if (env.kindOf id == some .local && pos.line == hdLine ts) = true then some id else none) = lclN env.scope (hdLine ts) (.Name id pos) := fun id pos => by
    show (if (env.scope.names.lookup id == some .local && pos.line == hdLine ts) = true then some id else none) = if env.scope.names.lookup id = some .local ∧ pos.line = hdLine ts then some id else none
    have : ((env.scope.names.lookup id == some .local && pos.line == hdLine ts) = true) = (env.scope.names.lookup id = some .local ∧ pos.line = hdLine ts) := by simp
    simp only [this]
  have e3 : (ts.head?.map (fun z : Expr => z.pos.line)).getD 0 = hdLine ts := by cases ts <;> rfl
  unfold swappedStores
  unfold swN at h
  simp only [hb, e3, bne_self_eq_false, Bool.or_false]
  rw [a1 _ (fun e => by cases e <;> rfl), a2 _ (fun e => by
    cases e with
    | Name id pos => exact e2 id pos
    | _ => rfl)]
  split at h
  · rename_i c; cases h; simp only [c, if_true]
  · rename_i c
    rw [if_neg c]
    split at h
    · rename_i c2; cases h; simp only [c2, if_true]
    · rename_i c2
      split at h
      · rename_i c3; cases h; simp only [c2, c3, if_true]; rfl
      · rename_i c3
        split at h
        · rename_i c4; cases h; simp only [c2, c3, c4, if_true]; rfl
        · rename_i c4
          split at h
          · cases h
          · rename_i c5
            cases h
            simp only [c2, c3, c4, c5]
            rfl
end Ev

namespace Ev
open PySem PySem.Spec PyProof.Rows L2
/-- turns of a while that are told -/
def wFuel : Nat := 100000
def ipOp : Operator → Option (Int → Int → Int)
  | .Add => some fun i j => i + j
  | .Sub => some fun i j => i - j
  | _ => none
def cSet (T : Tb) (c : CF) (Γ : Ce) (x : Str) (px : Pos) (e : Expr) : Option SS :=
  if stOk Γ x && nmOk x then match ixOf Γ.N x with
    | some i => if Γ.pin.contains i then none else
      match e with
      | .ListComp elt [g] scope cpos => if g.is_async = 0 then
          if decide (Γ.sc.names.lookup x = some .local) && px.line == cpos.line && !(scope.names.any fun (n, k) => n == x && (k == .local || k == .cell)) then
            match eLc c Γ elt g.target g.iter g.ifs scope with
            | some f => some (sSet i f)
            | none => none
          else if decide (Γ.sc.names.lookup x = some .local) then none
          else match eLc c Γ elt g.target g.iter g.ifs scope with
            | some f => some (sSet i f)
            | none => none
        else none
      | e => if isComp e then none else match c.e Γ e with
        | some f => some (sSet i f)
        | none => none
    | none => none
  else none
def cTup (c : CF) (Γ : Ce) (ts : List Expr) (e : Expr) : Option SS := if Γ.hot then none else match cTgN Γ ts with
  | some is => if is.any fun i => Γ.pin.contains i then none else
    match e with
    | .Tuple vs _ _ => match swN Γ.sc ts vs with
      | some none => if vs.all plainArg then match cAs c.e Γ vs with
          | some fs => some (sSetT (.tp is) (sTup fs))
          | none => none
        else none
      | some (some xs) => if vs.all plainArg && decide is.Nodup then match cAs c.e Γ vs with
          | some fs => match ts with
            | [.Name x _, .Name y _] => if xs = [x, y] ∧ decide (Γ.sc.names.lookup x = some .local) && decide (Γ.sc.names.lookup y = some .local) then some (sPar is fs) else none
            | [.Name x _, .Name y _, .Name z _] => if xs = [x, y, z] ∧ decide (Γ.sc.names.lookup x = some .local) && decide (Γ.sc.names.lookup y = some .local) && decide (Γ.sc.names.lookup z = some .local) then some (sPar is fs) else none
            | _ => none
          | none => none
        else none
      | none => none
    | e => if isComp e then none else match c.e Γ e with
      | some f => some (sSetT (.tp is) f)
      | none => none
  | none => none
def cPut (c : CF) (Γ : Ce) (x : Str) (k e : Expr) : Option SS :=
  if vis Γ.sc x && nmOk x && !(isSlice k) && !(isComp e) then match ixOf Γ.N x with
    | some i => match c.e Γ e with
      | some fv => match c.e Γ k with
        | some fk => some (sPut i fv fk)
        | none => none
      | none => none
    | none => none
  else none
def stepS (T : Tb) (c : CF) (Γ : Ce) : Stmt → Option SS
  | .Pass _ => some sNil
  | .Break _ => some fun ρ => .bk ρ
  | .Continue _ => some fun ρ => .ct ρ
  | .Expr e _ => if isComp e then none else match c.e Γ e with
    | some f => some (sDrop f)
    | none => none
  | .Return (some e) _ => match c.e Γ e with
    | some f => some (sRet f)
    | none => none
  | .Return none _ => some fun ρ => .rt (.v false .non) ρ
  | .If t a b _ => match c.t Γ t with
    | some s => match c.b Γ a with
      | some s1 => match c.b Γ b with
        | some s2 => some (sIf s s1 s2)
        | none => none
      | none => none
    | none => none
  | .Assign [.Name x px] e _ => cSet T c Γ x px e
  | .Assign [.Tuple ts _ _] e _ => cTup c Γ ts e
  | .Assign [.Subscript (.Name x _) k _] e _ => cPut c Γ x k e
  | .AugAssign (.Name x _) op e _ => if stOk Γ x && nmOk x then match ixOf Γ.N x with
      | some i => if Γ.pin.contains i then none else match ipOp op with
        | some g => match c.e Γ e with
          | some f => some (sAug i g f)
          | none => none
        | none => none
      | none => none
    else none
  | .For tg it body [] _ => if isSet it || Γ.hot then none else match c.i Γ tg it with
    | some w => match cTg Γ tg with
      | some t => if t.ix.any fun i => Γ.pin.contains i then none else match c.b Γ body with
        | some s => some (sFor w t s)
        | none => none
      | none => none
    | none => none
  | .While t body [] _ => match c.t Γ t with
    | some s => match c.b Γ body with
      | some s1 => some (sWhile wFuel s s1)
      | none => none
    | none => none
  | .Raise (some (.Call (.Name x _) args [] _)) none _ => if nmOk x && glob Γ.sc x && args.all plainArg && !args.isEmpty && !Γ.hot then match T.clIx x with
      | some k => if (T.flds k).isEmpty then none else match cAs c.e Γ args with
        | some fs => some (sRaise k (T.flds k) fs)
        | none => none
      | none => none
    else none
  | _ => none
def stepB (T : Tb) (c : CF) (Γ : Ce) : List Stmt → Option SS
  | [] => some sNil
  | s :: r => match stepS T c Γ s with
    | some f => match stepB T c Γ r with
      | some g => some (sSeq f g)
      | none => none
    | none => none
def stepC (T : Tb) (c : CF) : CF := ⟨stepE T c, stepT c, stepI T c, stepB T c⟩
def cf (T : Tb) : Nat → CF
  | 0 => ⟨fun _ _ => none, fun _ _ => none, fun _ _ _ => none, fun _ _ => none⟩
  | n + 1 => stepC T (cf T n)

structure SCxt (X : Cx) (G : Ge) (E : XK) (T : Tb) (n : Nat) (Γ : Ce) : Prop extends Cxt X G E T n Γ where
  hp : PassesOwn (model X.prog X.w) X.A X.env X.xe
  tk : Γ.hot = false → L2.Takes X fun cls d _ H => E cls d H
  n2 : 2 ≤ n
theorem cf_ok (T : Tb) (n : Nat) (k : Nat) : CFOk T n (cf T k) := by
  induction k with
  | zero =>
    refine ⟨?_, ?_, ?_⟩
    · intro X G E Γ Z _ _ e f h; cases h
    · intro X G E Γ Z _ _ e f h; cases h
    · intro X G E Γ Z _ _ tg e f h; cases h
  | succ k ih =>
    refine ⟨?_, ?_, ?_⟩
    · intro X G E Γ Z h hz e f he; exact stepE_ok ih h hz he
    · intro X G E Γ Z h hz e f he; exact stepT_ok ih h hz he
    · intro X G E Γ Z h hz tg e f he; exact stepI_ok ih h hz he
section
variable {X : Cx} {G : Ge} {E : XK} {T : Tb} {n : Nat} {Γ : Ce} {Z : Zn} {c : CF}
theorem npin (hz : Pins Z Γ) {i : Nat} (h : Γ.pin.contains i = false) : ∀ p ∈ Z.par, p.1 ≠ i := fun p hp e => by
  have := hz p hp
  rw [e] at this
  simp only [List.contains_eq_mem, decide_eq_false_iff_not] at h
  exact h this
theorem npins (hz : Pins Z Γ) {is : List Nat} (h : (is.any fun i => Γ.pin.contains i) = false) : ∀ p ∈ Z.par, p.1 ∉ is := fun p hp e => by
  have := List.any_eq_false.mp h p.1 e
  simp only [List.contains_eq_mem, decide_eq_true_eq] at this
  exact this (hz p hp)
theorem cSet_ok (hc : CFOk T n c) (h : SCxt X G E T n Γ) (hz : Pins Z Γ) {x : Str} {px pos : Pos} {e : Expr} {s : SS} (he : cSet T c Γ x px e = some s) : PS X (.Assign [.Name x px] e pos) (tS G Z E s) := by
  unfold cSet at he
  split at he
  case isFalse => cases he
  rename_i h0
  simp only [Bool.and_eq_true] at h0
  obtain ⟨hl, hf⟩ := h.st h0.1
  split at he
  case h_2 => cases he
  rename_i i hi
  split at he
  case isTrue => cases he
  rename_i hpin
  have np := npin hz (by simpa using hpin)
  split at he
  · rename_i elt g scope cpos
    split at he
    case isFalse => cases he
    rename_i has
    obtain ⟨tg, iter, ifs, as⟩ := g
    cases (show as = 0 from has)
    split at he
    · rename_i hcond
      simp only [Bool.and_eq_true, decide_eq_true_eq, Bool.not_eq_true'] at hcond
      obtain ⟨⟨q1, q2⟩, q3⟩ := hcond
      split at he
      case h_2 => cases he
      rename_i f hfe
      cases he
      obtain ⟨w, t, tt, fe, rfl, h1, h2, h3, h4, h5, h6, h7, h8, hcl⟩ := (eLc_ok hc h.toCxt hz hfe).ex
      have hy : X.env.scope.names.lookup x = some .local := by rw [h.sc]; exact q1
      exact js_setLc h.K hcl h.nd (h.ix hi) hy (sw_true h.kd hy q2 q3) h1 h2 h3 np h4 h5 h6 h7 h8
    · split at he
      case isTrue => cases he
      rename_i hnl
      split at he
      case h_2 => cases he
      rename_i f hfe
      cases he
      obtain ⟨w, t, tt, fe, rfl, h1, h2, h3, h4, h5, h6, h7, h8, hcl⟩ := (eLc_ok hc h.toCxt hz hfe).ex
      refine js_set h.nd (h.ix hi) hl np (je_lc h.K hcl h.nd h1 h2 h3 h4 h5 h6 h7 h8) ?_ hf
      have hy : (X.env.kindOf x == some .local) = false := by
        show (X.env.scope.names.lookup x == some .local) = false
        rw [h.sc]
        simpa using hnl
      unfold swapsWith
      simp only [hy, Bool.and_false, Bool.false_and]
  · split at he
    case isTrue => cases he
    rename_i hco
    split at he
    · rename_i f hfe
      cases he
      exact js_set h.nd (h.ix hi) hl np (hc.e h.toCxt hz hfe) (swaps_no (by simpa using hco)) hf
    · cases he
theorem cTgN_len : ∀ {ts : List Expr} {is : List Nat}, cTgN Γ ts = some is → is.length = ts.length ∧ ∀ i ∈ is, i < Γ.N.length
  | [], is, e => by cases e; simp
  | .Name x p :: es, is, e => by
    unfold cTgN at e
    split at e
    case isFalse => cases e
    split at e
    case h_2 => cases e
    rename_i i hi
    split at e
    · rename_i is' his
      cases e
      obtain ⟨h1, h2⟩ := cTgN_len his
      refine ⟨by simp [h1], fun j hj => ?_⟩
      rcases List.mem_cons.mp hj with rfl | hj
      · exact (List.getElem?_eq_some_iff.mp (ixOf_get hi)).1
      · exact h2 j hj
    · cases e
theorem swTup {e : Expr} {ts : List Expr} {kt : Nat} {pt : Pos} {env : Env} (h : isTup e = false) : swappedStores [.Tuple ts kt pt] e env = pure none := by
  cases e with
  | Tuple _ _ _ => cases h
  | _ => rfl
theorem inv_len {pins : List (Addr × Obj)} {σ : L2.St} {H : Hp} {s : Shared} (I : Inv X pins σ H s) : σ.length = X.N.length := I.len
theorem cTup_ok (hc : CFOk T n c) (h : SCxt X G E T n Γ) (hz : Pins Z Γ) {ts : List Expr} {e : Expr} {s : SS} {kt : Nat} {pt pos : Pos} (he : cTup c Γ ts e = some s) : PS X (.Assign [.Tuple ts kt pt] e pos) (tS G Z E s) := by
  unfold cTup at he
  split at he
  case isTrue => cases he
  rename_i hnh
  have hcl : X.calm = true := h.calm (h.hh (by simpa using hnh))
  split at he
  case h_2 => cases he
  rename_i is his
  split at he
  case isTrue => cases he
  rename_i hpin
  have np := npins hz (by simpa using hpin)
  have hg : PG X (.Tuple ts kt pt) (Tgt.rd X.K (.tp is)) := jg_tup hcl (cTgN_ok h.toCxt his)
  have h1 : (assignEach [.Tuple ts kt pt] X.env).map (·.2) = [assign (.Tuple ts kt pt) X.env] := rfl
  obtain ⟨hil, hib⟩ := cTgN_len his
  split at he
  · rename_i vs k2 p2
    split at he
    · rename_i hsw
      split at he
      case isFalse => cases he
      rename_i hp
      split at he
      case h_2 => cases he
      rename_i fs hfs
      cases he
      exact js_setT h.K np (je_tup (cAs_ok hc h.toCxt hz hp hfs).1) hg (swaps_no1 rfl) (swN_ok h.kd (by rw [h.sc]; exact hsw)) h1
    · rename_i xs hsw
      split at he
      case isFalse => cases he
      rename_i hp
      simp only [Bool.and_eq_true, decide_eq_true_eq] at hp
      obtain ⟨hp, hdup⟩ := hp
      split at he
      case h_2 => cases he
      rename_i fs hfs
      obtain ⟨ha, hl⟩ := cAs_ok hc h.toCxt hz hp hfs
      have hs : ∀ (k3 : Nat) (p3 : Pos), swappedStores [.Tuple ts kt pt] (.Tuple vs k3 p3) X.env = pure (some xs) := fun k3 p3 => swN_ok h.kd (by rw [h.sc]; exact hsw)
      have hvl : vs.length = ts.length := by
        unfold swN at hsw
        split at hsw
        · cases hsw
        · rename_i q
          simp only [Bool.or_eq_true, not_or, bne_iff_ne, ne_eq, Decidable.not_not] at q
          exact q.2
      have hix : ∀ m : Nat, m ∈ is → m < X.N.length := fun m hm => by rw [h.N]; exact hib m hm
      split at he
      · rename_i x px y py
        split at he
        case isFalse => cases he
        rename_i hcond
        cases he
        simp only [Bool.and_eq_true, decide_eq_true_eq] at hcond
        obtain ⟨rfl, q1, q2⟩ := hcond
        match is, hil, vs, hvl, ha, his, hdup, np, hix, hs with
        | [i, j], _, [a, b], _, ha, his, hdup, np, hix, hs =>
          have hij : i ≠ j := by
            simp only [List.nodup_cons, List.mem_cons, List.not_mem_nil, or_false] at hdup
            exact hdup.1
          have e1 : ixOf Γ.N x = some i ∧ ixOf Γ.N y = some j := by
            unfold cTgN at his
            split at his
            case isFalse => cases his
            split at his
            case h_2 => cases his
            rename_i i' hi'
            unfold cTgN at his
            split at his
            · rename_i is2 his2
              split at his2
              case isFalse => cases his2
              split at his2
              case h_2 => cases his2
              rename_i j' hj'
              unfold cTgN at his2
              cases his2
              cases his
              exact ⟨hi', hj'⟩
            · cases his
          exact js_par hcl h.nd (h.ix e1.1) (h.ix e1.2) hij np (by rw [h.sc]; exact q1) (by rw [h.sc]; exact q2) ha (hs _ _) (swaps_no1 rfl) (fun pins σ H s I => ⟨by rw [inv_len I]; exact hix _ (by simp), by rw [inv_len I]; exact hix _ (by simp)⟩)
      · rename_i x px y py z pz
        split at he
        case isFalse => cases he
        rename_i hcond
        cases he
        simp only [Bool.and_eq_true, decide_eq_true_eq] at hcond
        obtain ⟨rfl, ⟨q1, q2⟩, q3⟩ := hcond
        match is, hil, vs, hvl, ha, his, hdup, np, hix, hs with
        | [i, j, l], _, [a, b, d], _, ha, his, hdup, np, hix, hs =>
          have hij : i ≠ j ∧ i ≠ l ∧ j ≠ l := by
            simp only [List.nodup_cons, List.mem_cons, List.not_mem_nil, or_false, not_or] at hdup
            exact ⟨hdup.1.1, hdup.1.2, hdup.2.1⟩
          have e1 : ixOf Γ.N x = some i ∧ ixOf Γ.N y = some j ∧ ixOf Γ.N z = some l := by
            unfold cTgN at his
            split at his
            case isFalse => cases his
            split at his
            case h_2 => cases his
            rename_i i' hi'
            unfold cTgN at his
            split at his
            · rename_i is2 his2
              split at his2
              case isFalse => cases his2
              split at his2
              case h_2 => cases his2
              rename_i j' hj'
              unfold cTgN at his2
              split at his2
              · rename_i is3 his3
                split at his3
                case isFalse => cases his3
                split at his3
                case h_2 => cases his3
                rename_i l' hl'
                unfold cTgN at his3
                cases his3
                cases his2
                cases his
                exact ⟨hi', hj', hl'⟩
              · cases his2
            · cases his
          exact js_par3 hcl h.nd (h.ix e1.1) (h.ix e1.2.1) (h.ix e1.2.2) hij.1 hij.2.1 hij.2.2 np (by rw [h.sc]; exact q1) (by rw [h.sc]; exact q2) (by rw [h.sc]; exact q3) ha (hs _ _) (swaps_no1 rfl) (fun pins σ H s I => ⟨by rw [inv_len I]; exact hix _ (by simp), by rw [inv_len I]; exact hix _ (by simp), by rw [inv_len I]; exact hix _ (by simp)⟩)
      · cases he
    · cases he
  · rename_i hnt
    split at he
    case isTrue => cases he
    rename_i hco
    split at he
    case h_2 => cases he
    rename_i f hf
    cases he
    refine js_setT h.K np (hc.e h.toCxt hz hf) hg (swaps_no1 (by simpa using hco)) (swTup ?_) h1
    cases e with
    | Tuple vs k p => exact (hnt vs k p rfl).elim
    | _ => rfl
theorem cPut_ok (hc : CFOk T n c) (h : SCxt X G E T n Γ) (hz : Pins Z Γ) {x : Str} {k e : Expr} {s : SS} {p2 p3 pos : Pos} (he : cPut c Γ x k e = some s) : PS X (.Assign [.Subscript (.Name x p2) k p3] e pos) (tS G Z E s) := by
  unfold cPut at he
  split at he
  case isFalse => cases he
  rename_i h0
  simp only [Bool.and_eq_true, Bool.not_eq_true'] at h0
  obtain ⟨⟨⟨hv, hn⟩, hs⟩, hco⟩ := h0
  obtain ⟨n1, n2, n3⟩ := nmOk_ok hn
  split at he
  case h_2 => cases he
  rename_i i hi
  split at he
  case h_2 => cases he
  rename_i fv hfv
  split at he
  case h_2 => cases he
  rename_i fk hfk
  cases he
  refine js_put (by have := h.hu; omega) (h.ix hi) (h.vis hv) n1 n2 (hc.e h.toCxt hz hfv) (hc.e h.toCxt hz hfk) (swaps_no1 hco) rfl fun v => ?_
  cases k with
  | Slice _ _ _ _ => cases hs
  | _ => rfl
theorem ipOp_ok {op : Operator} {g : Int → Int → Int} (h : ipOp op = some g) : PIp X op (ipI g) := by
  cases op <;> cases h
  · exact ip_add
  · exact ip_sub
structure BOk (T : Tb) (n : Nat) (c : CF) : Prop where
  b : ∀ {X G E Γ Z}, SCxt X G E T n Γ → Pins Z Γ → ∀ {e f}, c.b Γ e = some f → PSs X e (tS G Z E f)
theorem stepS_ok (hc : CFOk T n c) (hb : BOk T n c) (h : SCxt X G E T n Γ) (hz : Pins Z Γ) {st : Stmt} {s : SS} (he : stepS T c Γ st = some s) : PS X st (tS G Z E s) := by
  unfold stepS at he
  split at he
  · cases he; exact js_pass
  · cases he; exact js_break
  · cases he; exact js_cont
  · split at he
    case isTrue => cases he
    rename_i hco
    split at he
    · rename_i f hf; cases he; exact js_expr (hc.e h.toCxt hz hf) (swaps_no (by simpa using hco))
    · cases he
  · split at he
    · rename_i f hf; cases he; exact js_ret (hc.e h.toCxt hz hf)
    · cases he
  · cases he; exact js_retN
  · split at he
    case h_2 => cases he
    rename_i t ht
    split at he
    case h_2 => cases he
    rename_i s1 hs1
    split at he
    case h_2 => cases he
    rename_i s2 hs2
    cases he
    exact js_if (hc.t h.toCxt hz ht) (hb.b h hz hs1) (hb.b h hz hs2)
  · exact cSet_ok hc h hz he
  · exact cTup_ok hc h hz he
  · exact cPut_ok hc h hz he
  · split at he
    case isFalse => cases he
    rename_i h0
    simp only [Bool.and_eq_true] at h0
    obtain ⟨hl, hf⟩ := h.st h0.1
    split at he
    case h_2 => cases he
    rename_i i hi
    split at he
    case isTrue => cases he
    rename_i hpin
    split at he
    case h_2 => cases he
    rename_i g hg
    split at he
    case h_2 => cases he
    rename_i f hfe
    cases he
    exact js_aug h.nd (h.ix hi) hl (npin hz (by simpa using hpin)) (hc.e h.toCxt hz hfe) (ipOp_ok hg) hf
  · split at he
    case isTrue => cases he
    rename_i hset
    simp only [Bool.or_eq_true, not_or, Bool.not_eq_true] at hset
    have hcl : X.calm = true := h.calm (h.hh hset.2)
    split at he
    case h_2 => cases he
    rename_i w hw
    split at he
    case h_2 => cases he
    rename_i t ht
    split at he
    case isTrue => cases he
    rename_i hpin
    split at he
    case h_2 => cases he
    rename_i s1 hs1
    cases he
    exact js_for h.K h.hp hcl (npins hz (by simpa using hpin)) (hc.i h.toCxt hz hw) (cTg_ok h.toCxt ht) (hb.b h hz hs1) (set_none hset.1)
  · split at he
    case h_2 => cases he
    rename_i t ht
    split at he
    case h_2 => cases he
    rename_i s1 hs1
    cases he
    exact js_while h.hp (hc.t h.toCxt hz ht) (hb.b h hz hs1)
  · rename_i x p args p1 p2
    split at he
    case isFalse => cases he
    rename_i h0
    simp only [Bool.and_eq_true, Bool.not_eq_true'] at h0
    obtain ⟨⟨⟨⟨hn, hg⟩, hp⟩, hne⟩, hnh⟩ := h0
    have hG := h.hh hnh
    obtain ⟨n1, n2, n3⟩ := nmOk_ok hn
    split at he
    case h_2 => cases he
    rename_i k hk
    split at he
    case isTrue => cases he
    rename_i hfl
    split at he
    case h_2 => cases he
    rename_i fs hfs
    cases he
    obtain ⟨m1, mz⟩ := h.tab.cl _ k hk
    obtain ⟨m2, fI, fd, ps, m3, m4, m5, m6⟩ := mz (fun z => hfl (by rw [z]; rfl))
    have hhd : X.A.handled = none := by
      have z := h.hx
      unfold HotX at z
      rw [hG] at z
      exact z
    have room2 : Room 2 X.A := ⟨hhd, by have := h.room.dp; have := h.n2; omega, by have := h.room.un; have := h.n2; omega⟩
    match args, hne, hp, hfs with
    | a :: es, _, hp, hfs => exact js_raise (h.calm hG) (h.tk hnh) m2 m3 m4 m6 room2 m5 (h.gl hg) m1 (cAs_ok hc h.toCxt hz hp hfs).1 n1 hp
  · cases he
theorem stepB_ok (hc : CFOk T n c) (hb : BOk T n c) (h : SCxt X G E T n Γ) (hz : Pins Z Γ) : ∀ {b : List Stmt} {s : SS}, stepB T c Γ b = some s → PSs X b (tS G Z E s)
  | [], s, he => by cases he; exact jss_nil
  | st :: r, s, he => by
    unfold stepB at he
    split at he
    case h_2 => cases he
    rename_i f hf
    split at he
    case h_2 => cases he
    rename_i g hg
    cases he
    exact jss_cons (stepS_ok hc hb h hz hf) (stepB_ok hc hb h hz hg)
theorem cf_okB (T : Tb) (n : Nat) (k : Nat) : BOk T n (cf T k) := by
  induction k with
  | zero =>
    refine ⟨?_⟩
    intro X G E Γ Z _ _ e f h; cases h
  | succ k ih =>
    refine ⟨?_⟩
    intro X G E Γ Z h hz e f he
    exact stepB_ok (cf_ok T n k) ih h hz he
end
end Ev

namespace Ev
open PySem PySem.Spec PyProof.Rows L2

/-! ## a def's run -/
structure FnI where
  name : Str
  qual : Str
  params : Arguments
  body : List Stmt
  scope : Scope
  N : List Str
  ps : List Str
  pin : List Nat
  lam : Bool
def startE (m : Nat) (as : List Val) : En := as.map some ++ List.replicate (m - as.length) none
def outE (np : Nat) (pin : List Nat) (as : List Val) (ρ : En) : En := (List.range np).map fun j => if pin.contains j then (match ρ[j]? with
  | some y => y
  | none => none) else as[j]?
def frzArgs (pin : List Nat) : Nat → List Val → Bool
  | _, [] => true
  | j, x :: xs => (pin.contains j || (match x.m with | .frz => true | _ => false)) && frzArgs pin (j + 1) xs
def endRun (np : Nat) (pin : List Nat) (as : List Val) : Rs → Rf
  | .nx ρ => .ok false .non (outE np pin as ρ)
  | .rt (.v b d) ρ => .ok b d (outE np pin as ρ)
  | .rt (.ali i) ρ => if pin.contains i then match frz1 (.ali i) ρ with
      | some (d, ρ') => .ok false d (outE np pin as ρ')
      | none => .stuck
    else match ρ[i]? with
      | some (some ⟨.own, d⟩) => .ok true d (outE np pin as ρ)
      | some (some ⟨.frz, d⟩) => .ok false d (outE np pin as ρ)
      | _ => .stuck
  | .exc c as' => .exc c as'
  | _ => .stuck
def fnRun (m np : Nat) (pin : List Nat) (s : SS) (as : List Val) : Rf :=
  if as.length = np ∧ frzArgs pin 0 as = true ∧ (pin.all fun j => decide (j < np)) = true ∧ np ≤ m then endRun np pin as (s (startE m as)) else .stuck
def zPar (pin : List Nat) (vs : List V) : List (Nat × V) := pin.filterMap fun j => match vs[j]? with
  | some v => some (j, v)
  | none => none
def zFn (pin : List Nat) (vs : List V) : Zn := ⟨zPar pin vs, fun _ => False⟩
theorem zPar_mem {pin : List Nat} {vs : List V} {j : Nat} {v : V} : (j, v) ∈ zPar pin vs ↔ j ∈ pin ∧ vs[j]? = some v := by
  unfold zPar
  rw [List.mem_filterMap]
  constructor
  · rintro ⟨i, h1, h2⟩
    split at h2
    · rename_i u hu
      cases h2
      exact ⟨h1, hu⟩
    · cases h2
  · rintro ⟨h1, h2⟩
    exact ⟨j, h1, by rw [h2]⟩
theorem frzArgs_get {pin : List Nat} : ∀ {as : List Val} {j k : Nat} {x : Val}, frzArgs pin j as = true → as[k]? = some x → pin.contains (j + k) = false → x.m = .frz
  | [], _, _, _, _, h, _ => by simp at h
  | y :: as, j, k, x, h, e, n => by
    unfold frzArgs at h
    simp only [Bool.and_eq_true, Bool.or_eq_true] at h
    cases k with
    | zero =>
      simp at e
      subst e
      rcases h.1 with h1 | h1
      · rw [Nat.add_zero] at n
        rw [n] at h1
        cases h1
      · split at h1
        · assumption
        · cases h1
    | succ k => exact frzArgs_get (j := j + 1) (k := k) h.2 (by simpa using e) (by rw [show j + 1 + k = j + (k + 1) by omega]; exact n)
section
variable {G : Ge} {E : XK} {F M F' M' : AS} {ρ : En} {σ : L2.St} {H H' : Hp} {as : List Val} {vs : List V} {np m : Nat} {pin : List Nat}
theorem startE_get {i : Nat} {x : Val} (h : (startE m as)[i]? = some (some x)) : as[i]? = some x := by
  unfold startE at h
  by_cases q : i < as.length
  · rw [List.getElem?_append_left (by simpa using q), List.getElem?_map] at h
    obtain ⟨y, h1, h2⟩ := Option.map_eq_some_iff.mp h
    cases h2
    exact h1
  · rw [List.getElem?_append_right (by simpa using q), List.getElem?_replicate] at h
    split at h <;> cases h
theorem start_get {N : List Str} {i : Nat} {v : V} (h : vs[i]? = some v) : (L2.start N vs)[i]? = some (some v) := by
  have hl := (List.getElem?_eq_some_iff.mp h).1
  unfold L2.start
  rw [List.getElem?_append_left (by simpa using hl), List.getElem?_map, h]
  rfl
theorem St.begin {N : List Str} (t : St G Z0 F M (as.map some) (vs.map some) H) (hm : as.length ≤ N.length) : St G (zFn pin vs) F M (startE N.length as) (L2.start N vs) H := by
  have hl : as.length = vs.length := by simpa using t.len
  have sl : ∀ (i : Nat) (x : Val), (startE N.length as)[i]? = some (some x) → (as.map some)[i]? = some (some x) ∧ (L2.start N vs)[i]? = (vs.map some)[i]? := fun i x h => by
    have h1 := startE_get h
    have hi : i < vs.length := by rw [← hl]; exact (List.getElem?_eq_some_iff.mp h1).1
    refine ⟨by rw [List.getElem?_map, h1]; rfl, ?_⟩
    unfold L2.start
    rw [List.getElem?_append_left (by simpa using hi)]
  exact t.sub (by unfold startE L2.start; simp; omega) id (fun _ _ h => h) sl (fun p hp => by
    obtain ⟨_, h2⟩ := zPar_mem.mp hp
    exact start_get h2) rfl
theorem outE_len {pin : List Nat} : (outE np pin as ρ).length = np := by simp [outE]
theorem outE_get {j : Nat} {x : Val} (h : (outE np pin as ρ)[j]? = some (some x)) : j < np ∧ ((j ∈ pin ∧ ρ[j]? = some (some x)) ∨ (pin.contains j = false ∧ as[j]? = some x)) := by
  unfold outE at h
  rw [List.getElem?_map] at h
  obtain ⟨k, h1, h2⟩ := Option.map_eq_some_iff.mp h
  obtain ⟨h3, h4⟩ := List.getElem?_eq_some_iff.mp h1
  rw [List.getElem_range] at h4
  rw [List.length_range] at h3
  subst h4
  refine ⟨h3, ?_⟩
  by_cases q : pin.contains j = true
  · rw [if_pos q] at h2
    left
    refine ⟨by simpa using q, ?_⟩
    split at h2
    · rename_i y hy; rw [hy, h2]
    · cases h2
  · rw [if_neg q] at h2
    exact .inr ⟨by simpa using q, h2⟩
/-- what the caller sees of the parameters -/
theorem St.outs (t0 : St G Z0 F M (as.map some) (vs.map some) H) (hl : as.length = np) (hf : frzArgs pin 0 as = true) (s : Stp G.T F M H F' M' H') (t : St G (zFn pin vs) F' M' ρ σ H') : St G Z0 F' M' (outE np pin as ρ) (vs.map some) H' := by
  have hv : vs.length = np := by have := t0.len; simp at this; omega
  have par : ∀ j, j ∈ pin → j < np → σ[j]? = (vs.map some)[j]? := fun j h1 h2 => by
    have hj : vs[j]? = some vs[j] := by simp [hv, h2]
    rw [t.par (j, vs[j]) (zPar_mem.mpr ⟨h1, hj⟩), List.getElem?_map, hj]
    rfl
  refine ⟨by rw [outE_len, List.length_map, hv], fun j x h => ?_, fun i j x y n h1 h2 m1 m2 => ?_, t.dj, t.fd, t.md, t.tab, fun p hp => absurd hp (by simp [Z0]), fun a h => h.elim, t.tf⟩
  · obtain ⟨h1, h2⟩ := outE_get h
    rcases h2 with ⟨h2, h3⟩ | ⟨h2, h3⟩
    · obtain ⟨v, e, r⟩ := t.slot j x h3
      exact ⟨v, by rw [← par j h2 h1]; exact e, r.mono (fun _ h => h) keeps_refl (fun _ _ _ h => ⟨h, rfl⟩) (fun _ _ _ h => ⟨h, rfl⟩)⟩
    · have hm := frzArgs_get (k := j) hf h3 (by rw [Nat.zero_add]; exact h2)
      obtain ⟨v, e, r⟩ := t0.slot j x (by rw [List.getElem?_map, h3]; rfl)
      refine ⟨v, e, ?_⟩
      obtain ⟨m, d⟩ := x
      cases (show m = .frz from hm)
      exact Rep.step t0.dj s r
  · have key : ∀ (j : Nat) (x : Val), (outE np pin as ρ)[j]? = some (some x) → x.m ≠ .frz → j ∈ pin ∧ j < np ∧ ρ[j]? = some (some x) := fun j x h m => by
      obtain ⟨h1, h2⟩ := outE_get h
      rcases h2 with ⟨h2, h3⟩ | ⟨h2, h3⟩
      · exact ⟨h2, h1, h3⟩
      · exact absurd (frzArgs_get (k := j) hf h3 (by rw [Nat.zero_add]; exact h2)) m
    obtain ⟨a1, a2, a3⟩ := key i x h1 m1
    obtain ⟨b1, b2, b3⟩ := key j y h2 m2
    rw [← par i a1 a2, ← par j b1 b2]
    exact t.apart i j x y n a3 b3 m1 m2
theorem fresh_outs {a : Addr} (hv : vs.length = np) (hl : as.length = np) (hf : frzArgs pin 0 as = true) (t : St G (zFn pin vs) F' M' ρ σ H') (h : ∀ j x, j ∈ pin → ρ[j]? = some (some x) → x.m ≠ .frz → σ[j]? ≠ some (some (.ref a))) : Fresh (outE np pin as ρ) (vs.map some) a := fun j x e m => by
  obtain ⟨h1, h2⟩ := outE_get e
  rcases h2 with ⟨h2, h3⟩ | ⟨h2, h3⟩
  · have hj : vs[j]? = some vs[j] := by simp [hv, h1]
    have e2 : σ[j]? = (vs.map some)[j]? := by
      rw [t.par (j, vs[j]) (zPar_mem.mpr ⟨h2, hj⟩), List.getElem?_map, hj]
      rfl
    rw [← e2]
    exact h j x h2 h3 m
  · exact absurd (frzArgs_get (k := j) hf h3 (by rw [Nat.zero_add]; exact h2)) m
/-- from a def's run to its promise -/
theorem run_ok {N : List Str} {s : SS} {Q : VK} (t0 : St G Z0 F M (as.map some) (vs.map some) H) (h : match fnRun N.length np pin s as with
    | .ok b d outs => ∀ F' M' H' v, Stp G.T F M H F' M' H' → StA G Z0 F' M' outs (vs.map some) [.v b d] [v] H' → Q v H'
    | .exc c as' => ExcP G E c as' F M H
    | .stuck => False) : tS G (zFn pin vs) E s { nx := fun _ H' => Q .non H', rt := Q } (L2.start N vs) H := by
  unfold fnRun at h
  split at h
  case h_3 => exact h.elim
  all_goals skip
  all_goals
    rename_i heq
    split at heq
    case isFalse => cases heq
    rename_i hcond
    obtain ⟨hl, hf, hp, hm⟩ := hcond
    have hv : vs.length = np := by have := t0.len; simp at this; omega
    refine ⟨F, M, startE N.length as, t0.begin (by omega), ?_⟩
    revert heq
    generalize s (startE N.length as) = r
    intro heq
  · rename_i b d outs
    cases r with
    | nx ρ =>
      cases heq
      intro F' M' H' σ' s1 t1
      exact h F' M' H' .non s1 ((t0.outs hl hf s1 t1).res .non)
    | rt o ρ =>
      intro F' M' H' σ' v s1 a1
      cases o with
      | v b' d' =>
        cases heq
        refine h F' M' H' v s1 ⟨t0.outs hl hf s1 a1.st, ?_⟩
        obtain ⟨w, r0, e0, w0, h0, _⟩ := a1.wt
        cases e0
        refine ⟨v, [], rfl, ?_, fun a z => ⟨fresh_outs hv hl hf a1.st fun j x _ h3 m => (h0 a z).1 j x h3 m, fun q hq => absurd hq (by simp)⟩, rfl⟩
        cases b with
        | false => exact w0
        | true => exact w0
      | ali i =>
        simp only [endRun] at heq
        split at heq
        · rename_i hpin
          split at heq
          · rename_i d' ρ' e2
            cases heq
            obtain ⟨F2, M2, s2, t2, r2⟩ := a1.frz1 e2
            exact h F2 M2 H' v (s1.trans a1.st.dj s2) ((t0.outs hl hf (s1.trans a1.st.dj s2) t2.st).res r2)
          · cases heq
        · rename_i hpin
          obtain ⟨w, r0, e0, w0, h0, _⟩ := a1.wt
          cases e0
          have w0 : σ'[i]? = some (some v) := w0
          split at heq
          · rename_i d' hd
            cases heq
            obtain ⟨u, eu, a, ea, hm', c⟩ := a1.st.slot i _ hd
            rw [w0] at eu
            cases eu
            subst ea
            refine h F' M' H' _ s1 ⟨t0.outs hl hf s1 a1.st, .ref a, [], rfl, ⟨a, rfl, hm', c⟩, fun b z => ⟨?_, fun q hq => absurd hq (by simp)⟩, rfl⟩
            cases (show V.ref a = V.ref b from z)
            refine fresh_outs hv hl hf a1.st fun j x h2 h3 m => ?_
            have hij : i ≠ j := fun z => by
              subst z
              exact hpin (by simpa using h2)
            rw [← w0]
            exact fun z => a1.st.apart i j _ _ hij hd h3 (by simp) m z.symm
          · rename_i d' hd
            cases heq
            obtain ⟨u, eu, r⟩ := a1.st.slot i _ hd
            rw [w0] at eu
            cases eu
            exact h F' M' H' v s1 ((t0.outs hl hf s1 a1.st).res r)
          · cases heq
    | bk ρ => cases heq
    | ct ρ => cases heq
    | exc c as' => cases heq
    | stuck => cases heq
  · rename_i c as'
    cases r with
    | nx ρ => cases heq
    | rt o ρ =>
      cases o with
      | v b d => cases heq
      | ali i =>
        simp only [endRun] at heq
        split at heq
        · split at heq <;> cases heq
        · split at heq <;> cases heq
    | bk ρ => cases heq
    | ct ρ => cases heq
    | exc c as' => cases heq; exact h
    | stuck => cases heq
end

end Ev

namespace Ev
open PySem PySem.Spec PyProof.Rows L2
/-! ## the table -/
structure Pg where
  fns : List FnI
  cls : List (Str × List Str)
  con : Str → Option D
  free : Str → Bool
  tp : Pos → Bool
  fuel : Nat
  rep : Bool
  hot : Bool
  sub : Nat → Nat → Option Bool
  flt : Nat → Str → Option Flt
def Pg.fl (p : Pg) (k : Nat) : List Str := match p.cls[k]? with
  | some c => c.2
  | none => []
def nameIx (l : List Str) (x : Str) : Option Nat := ixOf l x
def Pg.tb (p : Pg) (n : Nat) (call : Nat → List Val → Rf) : Tb where
  fnIx := nameIx (p.fns.map (·.name))
  clIx := nameIx (p.cls.map (·.1))
  con := p.con
  free := p.free
  np := fun k => match p.fns[k]? with
    | some f => f.ps.length
    | none => 0
  pin := fun k j => match p.fns[k]? with
    | some f => f.pin.contains j
    | none => false
  flds := p.fl
  tp := p.tp
  rep := p.rep
  sub := p.sub
  call := call
  flt := p.flt n
  has := fun k => (p.fns[k]?).isSome
def FnI.ce (f : FnI) (hot : Bool) : Ce := ⟨f.N, f.scope, fun _ => true, f.pin, hot, f.lam⟩

/-- what def k does, n calls deep -/
def Pg.call (p : Pg) : Nat → Nat → List Val → Rf
  | 0, _, _ => .stuck
  | n + 1, k, as => match p.fns[k]? with
    | some f => match (cf (p.tb n (p.call n)) p.fuel).b (f.ce p.hot) f.body with
      | some s => fnRun f.N.length f.ps.length f.pin s as
      | none => .stuck
    | none => .stuck
structure PgOk (p : Pg) (K : PySem.W.Frag) (mg : Str → Option Value) (G : Ge) : Prop where
  gk : G.K = K
  fn : ∀ (k : Nat) (f : FnI), p.fns[k]? = some f → mg f.name = some (.ref (G.fn k)) ∧ ∃ fd, FunD K f.name f.qual f.params f.body f.scope [] [] (G.fn k) fd ∧ FnScope f.N f.ps f.scope ∧ Binds K fd f.ps []
  free : ∀ x, p.free x = true → mg x = none
  con : ∀ x d, p.con x = some d → ∃ u v, mg x = some u ∧ RelV v u ∧ ∀ F H, Rep G F H d v
  cl : ∀ (c : Nat) (q : Str × List Str), p.cls[c]? = some q → mg q.1 = some (.ref (G.cls c)) ∧ (q.2 ≠ [] → OexC K (G.cls c) ∧ ∃ fI fd ps, PySem.W.findIn K (.ref (G.cls c)) "__init__" = some (some (.ref fI)) ∧ PySem.W.typeIn K (.ref fI) = some (.type "function") ∧ Binds K fd ps [] ∧
    ∀ (P : Program) (w : World) (base : Heap), FnOk P w K mg base (L2.CX P w) 1 fI fd ps (spInit (G.cls c) q.2))
  hh : p.hot = false → G.hot = none
  xok : ∀ a c dd, G.hot = some (a, c, dd) → XOk K G p.sub p.fl c
/-- lambdas, the def that catches -/
structure PgF (p : Pg) (P : Program) (w : World) (K : PySem.W.Frag) (mg : Str → Option Value) (base : Heap) (G : Ge) : Prop where
  flt : ∀ n x y, p.flt n x = some y → p.rep = true ∧ FltOk P w K mg base G n x y
  lam : ∀ (k : Nat) (f : FnI), p.fns[k]? = some f → f.lam = true → ∀ oc od fd osl, K.lookup (G.fn k) = some ⟨oc, od, .func fd, osl⟩ → ∃ cc tt, fd.code = .ref cc ∧ LamX.TabB base mg cc tt ∧ (tt, (f.qual ++ ".<locals>.") ++ "<lambda>") ∈ G.T ∧ ∀ y ∈ G.T, y.1 = tt → y.2 = (f.qual ++ ".<locals>.") ++ "<lambda>"
theorem nameIx_get {α : Type} {g : α → Str} {l : List α} {x : Str} {k : Nat} (h : nameIx (l.map g) x = some k) : ∃ f, l[k]? = some f ∧ g f = x := by
  have := ixOf_get h
  rw [List.getElem?_map] at this
  obtain ⟨f, h1, h2⟩ := Option.map_eq_some_iff.mp this
  exact ⟨f, h1, h2⟩
section
variable {p : Pg} {P : Program} {w : World} {K : PySem.W.Frag} {mg : Str → Option Value} {base : Heap} {G : Ge}
theorem tab_of (h : PgOk p K mg G) (hf : PgF p P w K mg base G) {n : Nat} {call : Nat → List Val → Rf} (hc : ∀ k f fd, p.fns[k]? = some f → FunD K f.name f.qual f.params f.body f.scope [] [] (G.fn k) fd → FnQ G p.rep P w K mg base (L2.CX P w) (n + 2) (G.fn k) fd f.ps (spF G f.ps.length (call k))) : TabOk P w K mg base G (p.tb n call) (n + 2) where
  flt := fun x y hy => ⟨(hf.flt n x y hy).1, n, rfl, (hf.flt n x y hy).2⟩
  fn := fun x k hk => by
    obtain ⟨f, h1, h2⟩ := nameIx_get hk
    obtain ⟨h3, fd, h4, h5, h6⟩ := h.fn k f h1
    have e : (p.tb n call).np k = f.ps.length := by show (match p.fns[k]? with | some f => f.ps.length | none => 0) = _; rw [h1]
    refine ⟨h2 ▸ h3, h4.kp, fd, f.ps, e.symm, h6, ?_⟩
    rw [e]
    exact hc k f fd h1 h4
  fv := fun k hk => by
    obtain ⟨f, h1⟩ := Option.isSome_iff_exists.mp (show (p.fns[k]?).isSome = true from hk)
    obtain ⟨h3, fd, h4, h5, h6⟩ := h.fn k f h1
    have e : (p.tb n call).np k = f.ps.length := by show (match p.fns[k]? with | some f => f.ps.length | none => 0) = _; rw [h1]
    refine ⟨h4.kp, fd, f.ps, e.symm, h6, ?_⟩
    rw [e]
    exact hc k f fd h1 h4
  free := h.free
  con := h.con
  cl := fun x c hk => by
    obtain ⟨q, h1, h2⟩ := nameIx_get hk
    obtain ⟨h3, hz⟩ := h.cl c q h1
    have e : (p.tb n call).flds c = q.2 := by show (match p.cls[c]? with | some c => c.2 | none => []) = _; rw [h1]
    refine ⟨h2 ▸ h3, fun ne => ?_⟩
    obtain ⟨h4, fI, fd, ps, h5, h6, h7, h8⟩ := hz (by rw [← e]; exact ne)
    exact ⟨h4, fI, fd, ps, h5, h6, h7, by rw [e]; exact h8 P w base⟩
  xok := h.xok
/-- a def's body runs while an exception is handled -/
theorem run_hot {CX : CXT} {k : Nat} {f : Addr} {nm qual : Str} {params : Arguments} {body : List Stmt} {scope : Scope} {dV kV doc pm cdv ct oc : Value} {an od : Option Addr} {osl : Array (Option Value)} {N ps : List Str} {A : Around} {outer : List Env} {s : Shared} {H : Hp} {us : List Value} {vs : List V} {Q : VK} {E : XK} {q : Addr × Obj}
    (lk : K.lookup f = some ⟨oc, od, .func (PySem.W.fnOf nm qual params body scope dV kV doc pm an cdv ct), osl⟩) (hcd : PySem.W.codeIn K cdv qual = true) (S : FnScope N ps scope) (hr : L2H.RoomH (k + 1) A) (hpin : L2H.PinOk outer H s q) (e0 : Env0 P w K mg base A outer s H)
    (hb : BindsTo s (PySem.W.fnOf nm qual params body scope dV kV doc pm an cdv ct) ⟨us, []⟩ (ps.zip us)) (rv : Vals vs us) (hl : vs.length = ps.length)
    (hbody : L2H.RoomH k (A.deeper (envOfC qual scope s.heap.objs.size f cdv)) → ∃ t, PSs (L2H.cxH CX P w K mg base N qual scope f cdv A outer s H E q) body t ∧ t { nx := fun _ H' => Q .non H', rt := Q } (L2.start N vs) H) :
    codeAny (model P w) A (.call (.ref f) ⟨us, []⟩) (CR CX outer P w H s Q E) s := by
  have kin : K.In s.heap := e0.mod.kin.keeps fun b o z => (e0.bs b o z).1
  have nolim : s.heap.NoLimit := e0.mod.nolimit.keeps fun b o z => (e0.bs b o z).1
  have kinds : ∀ y ∈ ps.zip us, scope.names.lookup y.1 = some .local ∨ (scope.names.lookup y.1 = some .cell ∧ ((cellsFrom (s.heap.objs.size + 1) scope.names []).lookup y.1).isSome = true) := by
    rintro ⟨x, v⟩ hy
    exact (S.par x (List.of_mem_zip hy).1).imp id fun z => ⟨z, PySem.W.cellsFrom_some _ _ _ (.inl z)⟩
  refine codeAny_call_function hr.depth (kin _ _ lk) rfl S.co S.gen rfl (PySem.W.codeRec_of kin hcd) (hb _ _ _ _ (wpAny_newFunctionEnv_cells S.kind kinds fun env he s1 x => ?_))
  subst he
  obtain ⟨t, ht, hq⟩ := hbody (hr.deeper _)
  refine ⟨nolim.keeps x.toInCall.keep, codeAny_func (wpAny_mono (ht.run [] s1 (L2.start N vs) H _ (L2H.inv_startH S hpin e0 hl rv x) hq) (fun fl s' hs => ?_) fun _ _ z => z)⟩
  have close : ∀ {σ' : L2.St} {H' : Hp} {v : V} {u : Value}, Inv (L2H.cxH CX P w K mg base N qual scope f cdv A outer s H E q) [] σ' H' s' → RelV v u → Q v H' → CE outer P w H s Q u s' :=
    fun {_ H' v _} J r z => ⟨v, H', J.os, J.bare, J.base, J.hok, r, z⟩
  match fl, hs with
  | .ret u, ⟨v, _, _, J, r, z⟩ => exact close J r z
  | .next, ⟨_, _, J, z⟩ => exact close (v := V.non) (u := Value.none) J rfl z
  | .brk, ⟨_, _, _, z⟩ => exact z.elim
  | .cont, ⟨_, _, _, z⟩ => exact z.elim
theorem body_ok (h : PgOk p K mg G) (hf : PgF p P w K mg base G) {n : Nat} {call : Nat → List Val → Rf} {k : Nat} {f : FnI} {fd : FuncData} {sb : SS} (hk : p.fns[k]? = some f) (hF : FunD K f.name f.qual f.params f.body f.scope [] [] (G.fn k) fd)
    (ih : ∀ k f fd, p.fns[k]? = some f → FunD K f.name f.qual f.params f.body f.scope [] [] (G.fn k) fd → FnQ G p.rep P w K mg base (L2.CX P w) (n + 2) (G.fn k) fd f.ps (spF G f.ps.length (call k)))
    (hsb : (cf (p.tb n call) p.fuel).b (f.ce p.hot) f.body = some sb) : FnQ G p.rep P w K mg base (L2.CX P w) (n + 3) (G.fn k) fd f.ps (spF G f.ps.length (fnRun f.N.length f.ps.length f.pin sb)) := by
  obtain ⟨h3, fd', h4, h5, h6⟩ := h.fn k f hk
  obtain ⟨oc, od, dV, kV, doc, pm, an, cdv, ct, osl, rfl, lk, hcd, _, _⟩ := hF.ex
  refine ⟨fun vs H Q E q => q.1, fun A outer s H us vs Q E hr0 hgd hot e0 hb rv q => ?_⟩
  have hl := q.1
  obtain ⟨hv, F, M, as, t0, z⟩ := q
  have hlx : f.lam = true → ∃ cc tt, cdv = .ref cc ∧ LamX.TabB base mg cc tt ∧ (tt, (f.qual ++ ".<locals>.") ++ "<lambda>") ∈ G.T ∧ ∀ y ∈ G.T, y.1 = tt → y.2 = (f.qual ++ ".<locals>.") ++ "<lambda>" := fun z => hf.lam k f hk z _ _ _ _ lk
  have np : Pins (zFn f.pin vs) (f.ce p.hot) := fun q hq => (zPar_mem.mp hq).1
  cases hG : G.hot with
  | none =>
    have hh : A.handled = none := by
      unfold HotQ at hot
      rw [hG] at hot
      exact hot
    refine LamX.run_ofS (k := n + 2) lk hcd h5 ⟨hh, hr0.dp, hr0.un⟩ e0 hb rv hl fun hr => ?_
    refine ⟨tS G (zFn f.pin vs) E sb, ?_, run_ok (np := f.ps.length) t0 z⟩
    have tk : L2.Takes (cxOf (L2.CX P w) P w K mg base f.N f.qual f.scope (G.fn k) cdv A outer s H E) fun cls d _ H => E cls d H := takes_of rfl rfl rfl rfl
    have hp : PassesOwn (model P w) (cxOf (L2.CX P w) P w K mg base f.N f.qual f.scope (G.fn k) cdv A outer s H E).A (cxOf (L2.CX P w) P w K mg base f.N f.qual f.scope (G.fn k) cdv A outer s H E).env (cxOf (L2.CX P w) P w K mg base f.N f.qual f.scope (G.fn k) cdv A outer s H E).xe := L2.passes_of (X := cxOf (L2.CX P w) P w K mg base f.N f.qual f.scope (G.fn k) cdv A outer s H E) (K := fun e s'' => L2.CX P w outer H s E e s'') rfl
    have hx : HotX G (cxOf (L2.CX P w) P w K mg base f.N f.qual f.scope (G.fn k) cdv A outer s H E) := by
      unfold HotX
      rw [hG]
      exact hr.hd
    have cx : Cxt (cxOf (L2.CX P w) P w K mg base f.N f.qual f.scope (G.fn k) cdv A outer s H E) G E (p.tb n call) (n + 2) (f.ce p.hot) := ⟨h.gk.symm, h.hh, fun _ => rfl, rfl, h5.nd, rfl, rfl, h5.kind, L2H.roomH_of hr, hx, hgd, hlx, L2.passes_call tk (fun _ _ _ _ z => z), tab_of h hf ih⟩
    exact (cf_okB (p.tb n call) (n + 2) p.fuel).b ⟨cx, hp, fun _ => tk, by omega⟩ np hsb
  | some y =>
    obtain ⟨oe, hpin, hz, hvs⟩ : ∃ oe, L2H.PinOk outer H s (y.1, oe) ∧ Zc (.ref (G.cls y.2.1)) (some y.2.2) oe ∧ ∃ vs, oe.data = .fields vs := by
      unfold HotQ at hot
      rw [hG] at hot
      exact hot
    have hph : p.hot = true := by
      cases q : p.hot with
      | true => rfl
      | false =>
        have := h.hh q
        rw [hG] at this
        cases this
    refine run_hot (k := n + 2) lk hcd h5 hr0 hpin e0 hb rv hl fun hr => ?_
    refine ⟨tS G (zFn f.pin vs) E sb, ?_, run_ok (np := f.ps.length) t0 z⟩
    have tk : L2.Takes (L2H.cxH (L2.CX P w) P w K mg base f.N f.qual f.scope (G.fn k) cdv A outer s H E (y.1, oe)) fun cls d _ H => E cls d H := takes_of rfl rfl rfl rfl
    have hp : PassesOwn (model P w) (L2H.cxH (L2.CX P w) P w K mg base f.N f.qual f.scope (G.fn k) cdv A outer s H E (y.1, oe)).A (L2H.cxH (L2.CX P w) P w K mg base f.N f.qual f.scope (G.fn k) cdv A outer s H E (y.1, oe)).env (L2H.cxH (L2.CX P w) P w K mg base f.N f.qual f.scope (G.fn k) cdv A outer s H E (y.1, oe)).xe := L2.passes_of (X := L2H.cxH (L2.CX P w) P w K mg base f.N f.qual f.scope (G.fn k) cdv A outer s H E (y.1, oe)) (K := fun e s'' => L2.CX P w outer H s E e s'') rfl
    have hx : HotX G (L2H.cxH (L2.CX P w) P w K mg base f.N f.qual f.scope (G.fn k) cdv A outer s H E (y.1, oe)) := by
      unfold HotX
      rw [hG]
      exact ⟨oe, List.mem_singleton.mpr rfl, hz, hvs⟩
    have cx : Cxt (L2H.cxH (L2.CX P w) P w K mg base f.N f.qual f.scope (G.fn k) cdv A outer s H E (y.1, oe)) G E (p.tb n call) (n + 2) (f.ce p.hot) := ⟨h.gk.symm, h.hh, fun z => (by rw [hG] at z; cases z), rfl, h5.nd, rfl, rfl, h5.kind, hr, hx, hgd, hlx, L2.passes_call tk (fun _ _ _ _ z => z), tab_of h hf ih⟩
    exact (cf_okB (p.tb n call) (n + 2) p.fuel).b ⟨cx, hp, fun z => (by rw [show (f.ce p.hot).hot = p.hot from rfl, hph] at z; cases z), by omega⟩ np hsb
theorem call_ok (h : PgOk p K mg G) (hf : PgF p P w K mg base G) (n : Nat) : ∀ (k : Nat) (f : FnI) (fd : FuncData), p.fns[k]? = some f → FunD K f.name f.qual f.params f.body f.scope [] [] (G.fn k) fd → FnQ G p.rep P w K mg base (L2.CX P w) (n + 2) (G.fn k) fd f.ps (spF G f.ps.length (p.call n k)) := by
  induction n with
  | zero =>
    intro k f fd hk hF
    refine ⟨fun vs H Q E q => q.1, fun A outer s H us vs Q E _ _ _ _ _ _ q => ?_⟩
    obtain ⟨_, F, M, as, _, z⟩ := q
    exact z.elim
  | succ n ih =>
    intro k f fd hk hF
    have e : p.call (n + 1) k = fun as => match (cf (p.tb n (p.call n)) p.fuel).b (f.ce p.hot) f.body with
      | some s => fnRun f.N.length f.ps.length f.pin s as
      | none => .stuck := by
      funext as
      show (match p.fns[k]? with
        | some f => match (cf (p.tb n (p.call n)) p.fuel).b (f.ce p.hot) f.body with
          | some s => fnRun f.N.length f.ps.length f.pin s as
          | none => .stuck
        | none => .stuck) = _
      rw [hk]
    rw [e]
    cases hsb : (cf (p.tb n (p.call n)) p.fuel).b (f.ce p.hot) f.body with
    | none =>
      refine ⟨fun vs H Q E q => q.1, fun A outer s H us vs Q E _ _ _ _ _ _ q => ?_⟩
      obtain ⟨_, F, M, as, _, z⟩ := q
      exact z.elim
    | some sb => exact body_ok h hf hk hF ih hsb
end
end Ev

namespace Ev
open PySem PySem.Spec PyProof.Rows L2
/-! ## the whole table: with the def that catches -/
structure FltI where
  name : Str
  params : Arguments
  body : List Stmt
  scope : Scope
  a : Str
  fo : Str
  e : Str
  cn : Str
  b₀ : Stmt
  suite : List Stmt
def Pg.lamP (p : Pg) : Pg := { p with rep := false, flt := fun _ _ => none }
def Pg.hotP (p : Pg) : Pg := { p with hot := true, flt := fun _ _ => none }
def Pg.flts (p : Pg) (fi : FltI) (sf : Nat → Bool) : Nat → Str → Option Flt
  | m + 2, x => if x = fi.name then match (cf (p.hotP.tb m (p.hotP.call m)) p.fuel).b ⟨[fi.a, fi.fo, fi.e], fi.scope, fun _ => true, [], true, false⟩ (fi.b₀ :: fi.suite) with
      | some su => some ⟨sf, fun N sc e => (cf (p.lamP.tb m (p.lamP.call m)) p.fuel).e ⟨N, sc, fun _ => false, [], false, false⟩ e, su⟩
      | none => none
    else none
  | _, _ => none
def Pg.top (p : Pg) (fi : FltI) (sf : Nat → Bool) : Pg := { p with flt := p.flts fi sf }
structure FltD (K : PySem.W.Frag) (mg : Str → Option Value) (G : Ge) (sf : Nat → Bool) (fi : FltI) : Prop where
  pat : ∃ (j : Nat) (p0 p00 p1 p2 p3 p4 p5 p6 p7 p8 p9 : Pos), fi.body = [.Assign [.Name fi.fo p0] (.Constant .none j p00) p1, .Try [.Expr (.Call (.Name fi.a p2) [] [] p3) p4] [.ExceptHandler (some (.Name fi.cn p5)) (some fi.e) (fi.b₀ :: fi.suite) p6] [] [] p7, .Return (some (.Name fi.fo p8)) p9]
  fn : ∃ g CS fd, mg fi.name = some (.ref g) ∧ mg fi.cn = some (.ref CS) ∧ FunD K fi.name fi.name fi.params fi.body fi.scope [] [] g fd ∧ Binds K fd [fi.a] [] ∧ ∀ c, sf c = true → PySem.W.exmOne K (.ref (G.cls c)) (.ref CS) = some true
  sc : FnScope [fi.a, fi.fo, fi.e] [fi.a] fi.scope
  ha : fi.scope.names.lookup fi.a = some .local
  hf : fi.scope.names.lookup fi.fo = some .local
  he : fi.scope.names.lookup fi.e = some .local
  hc : fi.scope.names.lookup fi.cn = some .globalImplicit
  d1 : nmOk fi.a = true
  d2 : nmOk fi.fo = true
  d3 : nmOk fi.cn = true
section
variable {p : Pg} {P : Program} {w : World} {K : PySem.W.Frag} {mg : Str → Option Value} {base : Heap} {G : Ge} {fi : FltI} {sf : Nat → Bool}
theorem flt_ok (hl : PgOk p.lamP K mg G) (hlf : PgF p.lamP P w K mg base G) (hh : ∀ a c dd, sf c = true → PgOk p.hotP K mg (hotG G (some (a, c, dd))) ∧ PgF p.hotP P w K mg base (hotG G (some (a, c, dd)))) (hG : G.hot = none) (D : FltD K mg G sf fi) :
    ∀ n x y, p.flts fi sf n x = some y → FltOk P w K mg base G n x y := by
  intro n x y h0
  match n, h0 with
  | m + 2, hy =>
  clear h0
  unfold Pg.flts at hy
  dsimp only at hy
  split at hy
  case isFalse => cases hy
  rename_i hx
  subst hx
  split at hy
  case h_2 => cases hy
  rename_i su hsu
  cases hy
  obtain ⟨j, p0, p00, p1, p2, p3, p4, p5, p6, p7, p8, p9, hb⟩ := D.pat
  obtain ⟨g, CS, fd, hm, hmc, hF, hbd, hex⟩ := D.fn
  obtain ⟨oc, od, dV, kV, doc, pm, an, cdv, ct, osl, rfl, lk, hcd, _, _⟩ := hF.ex
  refine ⟨⟨g, CS, fi.a, fi.params, fi.body, fi.scope, dV, kV, doc, pm, cdv, ct, oc, an, od, osl, [fi.a, fi.fo, fi.e], hm, hF.kp, lk, hcd, hbd, D.sc, rfl, .inl D.ha, (nmOk_ok D.d1).1, (nmOk_ok D.d1).2.1, hex, fun X sm hr hgd q => ?_⟩, fun X E N sc sm cx e f hf => ?_⟩
  · rw [hb]
    obtain ⟨rfl, rfl, rfl, rfl, rfl⟩ := sm
    refine fault_gives (ts := tsF G sf su) rfl D.sc.nd D.hc hmc (nmOk_ok D.d3).1 D.hf D.he (nmOk_ok D.d2).1 (nmOk_ok D.d2).2.1 (fun s H b oe cls d pn hz hd => ⟨fun pins s' σ H' Dn I h => ?_⟩) tsF_mono
    obtain ⟨c, dd, rfl, rfl, hsf, h⟩ := h
    obtain ⟨h1, h2⟩ := hh b c dd hsf
    have cx : Cxt ((cxOf C8.CX0 X.prog X.w X.K X.mg X.base [fi.a, fi.fo, fi.e] fi.name fi.scope g cdv X.A X.stack s H C8.E0).nox.suite b ((b, oe) :: pn)) (hotG G (some (b, c, dd))) E0 (p.hotP.tb m (p.hotP.call m)) (m + 2) ⟨[fi.a, fi.fo, fi.e], fi.scope, fun _ => true, [], true, false⟩ :=
      ⟨h1.gk.symm, fun z => (by cases z), fun z => (by cases z), rfl, D.sc.nd, rfl, rfl, D.sc.kind, ⟨((L2H.roomH_of (hr.mono (by omega : m + 3 ≤ m + 4))).deeper (envOfC fi.name fi.scope s.heap.objs.size g cdv)).dp, ((L2H.roomH_of (hr.mono (by omega : m + 3 ≤ m + 4))).deeper (envOfC fi.name fi.scope s.heap.objs.size g cdv)).un⟩,
        ⟨oe, List.mem_cons_self, hz, hd⟩, fun _ => hgd, fun z => (by cases z), passL, tab_of h1 h2 fun k f fd h3 h4 => call_ok h1 h2 m k f fd h3 h4⟩
    exact ((cf_okB (p.hotP.tb m (p.hotP.call m)) (m + 2) p.fuel).b ⟨cx, PassesOwn.never, fun z => (by cases z), by omega⟩ (fun q hq => by simp [Z0] at hq) hsu).run pins s' σ H' Dn I (h (inv_len I))
  · obtain ⟨rfl, rfl, rfl, rfl, rfl⟩ := sm
    have hx : HotX G X := by
      unfold HotX
      rw [hG]
      exact cx.room.hd
    have c : Cxt X G E (p.lamP.tb m (p.lamP.call m)) (m + 2) ⟨N, sc, fun _ => false, [], false, false⟩ :=
      ⟨cx.K, fun _ => hG, fun _ => cx.calm, cx.N, cx.nd, cx.sc, cx.fn, cx.kd, L2H.roomH_of cx.room, hx, fun z => (by cases z), fun z => (by cases z), cx.pass, tab_of hl hlf fun k f fd h1 h2 => call_ok hl hlf m k f fd h1 h2⟩
    exact (cf_ok (p.lamP.tb m (p.lamP.call m)) (m + 2) p.fuel).e c (fun q hq => by simp [Z0] at hq) hf
/-- where lambdas are made -/
def LamD (p : Pg) (K : PySem.W.Frag) (mg : Str → Option Value) (base : Heap) (G : Ge) : Prop := ∀ (k : Nat) (f : FnI), p.fns[k]? = some f → f.lam = true → ∀ oc od fd osl, K.lookup (G.fn k) = some ⟨oc, od, .func fd, osl⟩ → ∃ cc tt, fd.code = .ref cc ∧ LamX.TabB base mg cc tt ∧ (tt, (f.qual ++ ".<locals>.") ++ "<lambda>") ∈ G.T ∧ ∀ y ∈ G.T, y.1 = tt → y.2 = (f.qual ++ ".<locals>.") ++ "<lambda>"
theorem top_pg (h : PgOk p K mg G) : PgOk (p.top fi sf) K mg G := ⟨h.gk, h.fn, h.free, h.con, h.cl, h.hh, h.xok⟩
theorem lam_pg (h : PgOk p K mg G) : PgOk p.lamP K mg G := ⟨h.gk, h.fn, h.free, h.con, h.cl, h.hh, h.xok⟩
theorem hot_pg (h : PgOk p K mg G) (hG : G.hot = none) {a c dd} (x : XOk K G p.sub p.fl c) : PgOk p.hotP K mg (hotG G (some (a, c, dd))) where
  gk := h.gk
  fn := h.fn
  free := h.free
  con := fun x d hd => by
    obtain ⟨u, v, h1, h2, h3⟩ := h.con x d hd
    exact ⟨u, v, h1, h2, fun F H => (Rep.heat hG).1 (h3 F H)⟩
  cl := h.cl
  hh := fun z => by cases z
  xok := fun a' c' dd' e => by
    cases e
    exact ⟨x.xf, x.cl, x.ha, x.hn, x.ht, x.hm, x.no, x.kit, x.kitv⟩
theorem all_ok (h : PgOk p K mg G) (hG : G.hot = none) (hr : p.rep = true) (hl : LamD p K mg base G) (D : FltD K mg G sf fi) (hx : ∀ c, sf c = true → XOk K G p.sub p.fl c) (n : Nat) : ∀ (k : Nat) (f : FnI) (fd : FuncData), p.fns[k]? = some f → FunD K f.name f.qual f.params f.body f.scope [] [] (G.fn k) fd →
    FnQ G true P w K mg base (L2.CX P w) (n + 2) (G.fn k) fd f.ps (spF G f.ps.length ((p.top fi sf).call n k)) := by
  have nf : ∀ (q : Pg) (G' : Ge), q.fns = p.fns → (∀ n x, q.flt n x = none) → G'.fn = G.fn → G'.T = G.T → PgF q P w K mg base G' := fun q G' e1 e2 e3 e4 => ⟨fun n x y z => (by rw [e2] at z; cases z), by rw [e1, e3, e4]; exact hl⟩
  have F := flt_ok (P := P) (w := w) (base := base) (lam_pg h) (nf p.lamP G rfl (fun _ _ => rfl) rfl rfl) (fun a c dd hs => ⟨hot_pg h hG (hx c hs), nf p.hotP _ rfl (fun _ _ => rfl) rfl rfl⟩) hG D
  have := call_ok (p := p.top fi sf) (P := P) (w := w) (base := base) (top_pg h) ⟨fun n x y z => ⟨hr, F n x y z⟩, hl⟩ n
  rw [show (p.top fi sf).rep = true from hr] at this
  exact this
end
end Ev

namespace Ev
open PySem PySem.Spec PyProof.Rows L2
/-! ## what the head tells, for the table -/
structure ClI where
  name : Str
  flds : List Str
  params : Arguments
  body : List Stmt
  scope : Scope
  N : List Str
def FnI.dd (f : FnI) : He.DefD := ⟨(f.name, none), f.name, f.qual, f.params, f.body, f.scope, [], []⟩
def ClI.dd (c : ClI) : He.DefD := ⟨(c.name, some "__init__"), "__init__", c.name ++ ".__init__", c.params, c.body, c.scope, [], []⟩
/-- an exception class of the text's own -/
def oexB (K : PySem.W.Frag) (C : Addr) : Bool := (match K.lookup C with
  | some ⟨.type t, _, .cls cd, sl⟩ => decide (t = "type") && (match cd.mro, sl.toList with
    | .ref C' :: bm, [_, _, _, _, some (.builtin n), _] => decide (C' = C) && decide (n = "ValueError.__new__") && !cd.hasDel && cd.hasDict && PySem.HandSPX.refsVE bm
    | _, _ => false)
  | _ => false) && decide (PySem.W.findIn K (.ref C) "__setattr__" = some (some (.builtin "object.__setattr__"))) && decide (PySem.W.subIn K (.ref C) (.type "BaseException") = some true) && decide (PySem.W.typeIn K (.ref C) = some (.type "type")) && PySem.W.keepIn K (.ref C)
theorem oexB_ok {K : PySem.W.Frag} {C : Addr} (h : oexB K C = true) : OexC K C := by
  unfold oexB at h
  simp only [Bool.and_eq_true, decide_eq_true_eq] at h
  obtain ⟨⟨⟨⟨h0, h1⟩, h2⟩, h3⟩, h4⟩ := h
  refine ⟨?_, h1, h2, h3, h4⟩
  split at h0
  case h_2 => cases h0
  rename_i t od cd sl hk
  simp only [Bool.and_eq_true, decide_eq_true_eq] at h0
  obtain ⟨rfl, h0⟩ := h0
  split at h0
  case h_2 => cases h0
  rename_i C' bm k0 k1 k2 k3 n k5 hm hs
  simp only [Bool.and_eq_true, decide_eq_true_eq, Bool.not_eq_true'] at h0
  obtain ⟨⟨⟨⟨rfl, rfl⟩, hd⟩, hx⟩, hr⟩ := h0
  obtain ⟨c1, c2, c3, c4, c5, c6, c7, c8, c9, c10, c11⟩ := cd
  dsimp only at hm hd hx
  subst hm hd hx
  obtain ⟨sl⟩ := sl
  simp only at hs
  subst hs
  exact ⟨c1, c5, c4, c2, bm, c7, c8, c9, c10, od, k0, k1, k2, k3, k5, hk, hr⟩
/-- its __init__ -/
def clB (K : PySem.W.Frag) (c : ClI) : Bool := c.flds.isEmpty || (oexB K (He.ga K c.name) && decide (PySem.W.findIn K (.ref (He.ga K c.name)) "__init__" = some (some (.ref (He.fAd K (c.name, some "__init__"))))) && decide (PySem.W.typeIn K (.ref (He.fAd K (c.name, some "__init__"))) = some (.type "function")) &&
  c.flds.all fun q => decide (PySem.W.findIn K (.ref (He.ga K c.name)) q = some none))
/-- as what is handled -/
def xokB (K : PySem.W.Frag) (cs : List ClI) (sub : Nat → Nat → Option Bool) (c : ClI) (i : Nat) : Bool := xfB K (He.ga K c.name) && (PySem.W.clsIn K (He.ga K c.name)).isSome && decide (PySem.W.findIn K (.ref (He.ga K c.name)) "__class__" = some (some (.builtin "object.__class__"))) &&
  decide (PySem.W.specialIn K (.builtin "object.__class__") "__get__" = some (some (.builtin "getset_descriptor.__get__"))) && decide (PySem.W.takesIn K (.builtin "object.__class__") = some true) && decide (PySem.W.mroIn K (He.ga K c.name) (.type "object") = some true) &&
  (c.flds.all fun q => decide (PySem.W.findIn K (.ref (He.ga K c.name)) q = some none)) && decide (PySem.W.kitOne K (.ref (He.ga K c.name)) (.type "ValueError") = some true) &&
  (cs.zipIdx.all fun p => match sub i p.2 with
    | some b => decide (PySem.W.kitOne K (.ref (He.ga K c.name)) (.ref (He.ga K p.1.name)) = some b)
    | none => true)
def noDup (l : List Addr) : Bool := match l with
  | [] => true
  | a :: r => !(r.contains a) && noDup r
/-! ### constants -/
mutual
def repKB (K : PySem.W.Frag) : D → Value → Bool
  | .int i, .int j _ => decide (i = j)
  | .str x, .str y _ => decide (x = y)
  | .bl a, .bool b => a == b
  | .non, .none => true
  | .ktp xs, .ref a => (match K.lookup a with
    | some ⟨.type c, _, .seq its _, _⟩ => decide (c = "tuple") && decide (its.size ≤ sizeLine) && repsKB K xs its.toList
    | _ => false)
  | _, _ => false
def repsKB (K : PySem.W.Frag) : List D → List Value → Bool
  | [], [] => true
  | x :: xs, u :: us => repKB K x u && repsKB K xs us
  | _, _ => false
end
mutual
theorem repKB_ok {G : Ge} : ∀ (d : D) (u : Value), repKB G.K d u = true → ∃ v, RelV v u ∧ ∀ F H, Rep G F H d v
  | .int i, u, h => by
    cases u with
    | int j t =>
      have e : i = j := of_decide_eq_true (by unfold repKB at h; exact h)
      subst e
      exact ⟨.int i, ⟨t, rfl⟩, fun _ _ => .int i⟩
    | _ => unfold repKB at h; cases h
  | .str i, u, h => by
    cases u with
    | str j t =>
      have e : i = j := of_decide_eq_true (by unfold repKB at h; exact h)
      subst e
      exact ⟨.str i, ⟨t, rfl⟩, fun _ _ => .str i⟩
    | _ => unfold repKB at h; cases h
  | .bl i, u, h => by
    cases u with
    | bool j =>
      have e : i = j := eq_of_beq (by unfold repKB at h; exact h)
      subst e
      exact ⟨.bl i, rfl, fun _ _ => .bl i⟩
    | _ => unfold repKB at h; cases h
  | .non, u, h => by
    cases u with
    | none => exact ⟨.non, rfl, fun _ _ => .non⟩
    | _ => unfold repKB at h; cases h
  | .ktp xs, u, h => by
    cases u with
    | ref a =>
      unfold repKB at h
      split at h
      case h_2 => cases h
      rename_i c od its n sl hk
      simp only [Bool.and_eq_true, decide_eq_true_eq] at h
      obtain ⟨⟨rfl, hz⟩, h⟩ := h
      obtain ⟨vs, hv, hr⟩ := repsKB_ok xs its.toList h
      exact ⟨.ref a, rfl, fun F H => .ktp (fun H' => .inr ⟨_, its, n, hk, rfl, rfl, hz, hv⟩) (hr F H)⟩
    | _ => unfold repKB at h; cases h
  | .tup _, _, h => by unfold repKB at h; cases h
  | .lst _, _, h => by unfold repKB at h; cases h
  | .dK _, _, h => by unfold repKB at h; cases h
  | .dT _, _, h => by unfold repKB at h; cases h
  | .ins _ _, _, h => by unfold repKB at h; cases h
  | .exn _ _, _, h => by unfold repKB at h; cases h
  | .fn _, _, h => by unfold repKB at h; cases h
  | .ty _, _, h => by unfold repKB at h; cases h
  | .cl _, _, h => by unfold repKB at h; cases h
  | .scr _, _, h => by unfold repKB at h; cases h
theorem repsKB_ok {G : Ge} : ∀ (ds : List D) (us : List Value), repsKB G.K ds us = true → ∃ vs, Vals vs us ∧ ∀ F H, Reps G F H ds vs
  | [], [], _ => ⟨[], .nil, fun _ _ => .nil⟩
  | [], _ :: _, h => by unfold repsKB at h; cases h
  | _ :: _, [], h => by unfold repsKB at h; cases h
  | x :: xs, u :: us, h => by
    unfold repsKB at h
    obtain ⟨h1, h2⟩ := Bool.and_eq_true_iff.mp h
    obtain ⟨v, a1, a2⟩ := repKB_ok x u h1
    obtain ⟨vs, b1, b2⟩ := repsKB_ok xs us h2
    exact ⟨v :: vs, .cons a1 b1, fun F H => .cons (a2 F H) (b2 F H)⟩
end
def conB (K : PySem.W.Frag) (q : Str × D) : Bool := match PySem.W.nsIn K mainGlobals q.1 with
  | some (some u) => repKB K q.2 u
  | _ => false
/-- all that is looked at besides -/
structure HdD where
  fns : List FnI
  cls : List ClI
  frees : List Str
  lam : List Str
  sub : Nat → Nat → Option Bool
  sf : Nat → Bool
  fl : FltI
  cons : List (Str × D)
def HdD.ds (d : HdD) : List He.DefD := d.fns.map FnI.dd ++ (d.cls.filter fun c => !c.flds.isEmpty).map ClI.dd
def HdD.fa (d : HdD) : List He.Fa := (d.fns.map fun f => .glo f.name) ++ ((d.cls.map fun c => .glo c.name) ++ d.frees.map .free)
def HdD.tf (d : HdD) : List He.Defn := d.lam.map fun x => (x, none)
def HdD.ex (d : HdD) (K : PySem.W.Frag) : Bool := (d.cls.all (clB K)) && (d.cls.zipIdx.all fun p => !(d.sf p.2) || xokB K d.cls d.sub p.1 p.2) && (d.cls.zipIdx.all fun p => !(d.sf p.2) || decide (PySem.W.exmOne K (.ref (He.ga K p.1.name)) (.ref (He.ga K d.fl.cn)) = some true)) && (d.cons.all (conB K)) && noDup (d.lam.map fun x => (He.cT K (x, none)).2)

/-! ### what is decided of the text -/
def scopeB (N ps : List Str) (sc : Scope) : Bool := (match sc.kind with
  | .function => true
  | _ => false) && !sc.isCoroutine && !sc.isGenerator && decide N.Nodup && decide (N.take ps.length = ps) && (ps.all fun x => match sc.names.lookup x with
  | some .local => true
  | some .cell => true
  | _ => false) && sc.names.all fun y => match y.2 with
  | .free => false
  | _ => true
theorem scopeB_ok {N ps : List Str} {sc : Scope} (h : scopeB N ps sc = true) : FnScope N ps sc := by
  unfold scopeB at h
  simp only [Bool.and_eq_true, decide_eq_true_eq, Bool.not_eq_true'] at h
  obtain ⟨⟨⟨⟨⟨⟨h1, h2⟩, h3⟩, h4⟩, h5⟩, h6⟩, h7⟩ := h
  refine ⟨?_, h2, h3, h4, h5, fun x hx => ?_, fun y hy => ?_⟩
  · split at h1
    · assumption
    · cases h1
  · have q := List.all_eq_true.mp h6 x hx
    split at q
    · exact .inl ‹_›
    · exact .inr ‹_›
    · cases q
  · have q := List.all_eq_true.mp h7 y hy
    intro z
    rw [z] at q
    cases q
/-- an __init__'s body -/
def initB (N : List Str) (sc : Scope) : Nat → List Stmt → List Str → Bool
  | _, [], [] => true
  | i, .Assign [.Attribute (.Name s _) f _] (.Name x _) _ :: r, g :: l => decide (f = g) && decide (N[0]? = some s) && vis sc s && nmOk s && decide (N[i]? = some x) && vis sc x && nmOk x && initB N sc (i + 1) r l
  | _, _, _ => false
def numb (i : Nat) : List Str → List (Str × Nat)
  | [] => []
  | f :: l => (f, i) :: numb (i + 1) l
theorem initB_ok {N : List Str} {sc : Scope} : ∀ {l : List Str} {i : Nat} {b : List Stmt}, initB N sc i b l = true → InitB N sc b (numb i l)
  | [], i, b, h => by
    unfold initB at h
    split at h
    · exact .nil
    · rename_i q; cases q
    · cases h
  | g :: l, i, b, h => by
    unfold initB at h
    split at h
    · rename_i q; cases q
    · rename_i q
      cases q
      simp only [Bool.and_eq_true, decide_eq_true_eq] at h
      obtain ⟨⟨⟨⟨⟨⟨⟨rfl, h1⟩, h2⟩, h3⟩, h4⟩, h5⟩, h6⟩, h7⟩ := h
      exact .cons h1 (vis_ok h2) (nmOk_ok h3).1 (nmOk_ok h3).2.1 h4 (vis_ok h5) (nmOk_ok h6).1 (nmOk_ok h6).2.1 (initB_ok h7)
    · cases h
theorem numb_fst : ∀ (l : List Str) (i : Nat), (numb i l).map (·.1) = l
  | [], _ => rfl
  | f :: l, i => by show f :: (numb (i + 1) l).map (·.1) = _; rw [numb_fst l]
theorem numb_len (l : List Str) (i : Nat) : (numb i l).length = l.length := by
  have := congrArg List.length (numb_fst l i)
  rw [List.length_map] at this
  exact this
theorem numb_snd : ∀ (l : List Str) (i : Nat) (j : Nat) (q : Str × Nat), (numb i l)[j]? = some q → q.2 = i + j
  | [], _, _, _, h => by simp [numb] at h
  | f :: l, i, 0, q, h => by simp [numb] at h; subst h; rfl
  | f :: l, i, j + 1, q, h => by
    have := numb_snd l (i + 1) j q (by simpa [numb] using h)
    omega
structure TxtOk (d : HdD) : Prop where
  sc : ∀ f ∈ d.fns, FnScope f.N f.ps f.scope
  bd : ∀ f ∈ d.fns, ∀ (kV doc pm : Value) (an : Option Addr) (cdv ct : Value) (us : List Value), us.length = f.ps.length → bindArgs (PySem.W.fnOf f.name f.qual f.params f.body f.scope .none kV doc pm an cdv ct) ⟨us, []⟩ = pure (f.ps.zip us)
  lm : ∀ f ∈ d.fns, f.lam = true → f.name ∈ d.lam ∧ f.qual = f.name
  cs : ∀ c ∈ d.cls, c.flds ≠ [] → FnScope c.N c.N c.scope ∧ c.N.length = c.flds.length + 1 ∧ initB c.N c.scope 1 c.body c.flds = true ∧ c.flds.length ≤ 800
  cb : ∀ c ∈ d.cls, c.flds ≠ [] → ∀ (kV doc pm : Value) (an : Option Addr) (cdv ct : Value) (us : List Value), us.length = c.N.length → bindArgs (PySem.W.fnOf "__init__" (c.name ++ ".__init__") c.params c.body c.scope .none kV doc pm an cdv ct) ⟨us, []⟩ = pure (c.N.zip us)
  sb : ∀ i j b, d.sub i j = some b → j < d.cls.length
  sf : ∀ i, d.sf i = true → i < d.cls.length
section
variable {d : HdD} {w : World} {h : Heap} {K : PySem.W.Frag} {mg : Str → Option Value}
def HdD.ge (d : HdD) (K : PySem.W.Frag) : Ge := ⟨K, d.lam.map fun x => ((He.cT K (x, none)).2, (x ++ ".<locals>.") ++ "<lambda>"), fun k => match d.fns[k]? with
  | some f => He.ga K f.name
  | none => 0, fun c => match d.cls[c]? with
  | some q => He.ga K q.name
  | none => 0, none⟩
def HdD.cs (d : HdD) (K : PySem.W.Frag) : List (Addr × Addr) := d.tf.map (He.cT K)
theorem HdD.ge_fn {k : Nat} {f : FnI} (e : d.fns[k]? = some f) : (d.ge K).fn k = He.ga K f.name := by
  show (match d.fns[k]? with | some f => He.ga K f.name | none => 0) = _
  rw [e]
theorem HdD.ge_cls {k : Nat} {f : ClI} (e : d.cls[k]? = some f) : (d.ge K).cls k = He.ga K f.name := by
  show (match d.cls[k]? with | some f => He.ga K f.name | none => 0) = _
  rw [e]
theorem zip_all {α : Type} {l : List α} {f : α × Nat → Bool} (h : l.zipIdx.all f = true) {i : Nat} {x : α} (e : l[i]? = some x) : f (x, i) = true :=
  List.all_eq_true.mp h _ (List.mem_of_getElem? (i := i) (by rw [List.getElem?_zipIdx, e]; simp))
structure ExOk (d : HdD) (K : PySem.W.Frag) : Prop where
  cl : ∀ c ∈ d.cls, clB K c = true
  xo : ∀ i c, d.cls[i]? = some c → d.sf i = true → xokB K d.cls d.sub c i = true
  ct : ∀ i c, d.cls[i]? = some c → d.sf i = true → PySem.W.exmOne K (.ref (He.ga K c.name)) (.ref (He.ga K d.fl.cn)) = some true
  co : ∀ q ∈ d.cons, conB K q = true
  nd : noDup (d.lam.map fun x => (He.cT K (x, none)).2) = true
theorem ex_ok (e : d.ex K = true) : ExOk d K := by
  unfold HdD.ex at e
  simp only [Bool.and_eq_true] at e
  obtain ⟨⟨⟨⟨h1, h2⟩, h3⟩, h5⟩, h4⟩ := e
  refine ⟨fun c hc => List.all_eq_true.mp h1 c hc, fun i c e1 e2 => ?_, fun i c e1 e2 => ?_, fun q hq => List.all_eq_true.mp h5 q hq, h4⟩
  · have q := zip_all h2 e1
    dsimp only at q
    rw [e2] at q
    exact q
  · have q := zip_all h3 e1
    dsimp only at q
    rw [e2] at q
    simpa using q
theorem xokB_ok {c : ClI} {i : Nat} {fl : Nat → List Str} (T : TxtOk d) (e1 : d.cls[i]? = some c) (hf : fl i = c.flds) (e : xokB K d.cls d.sub c i = true) : XOk K (d.ge K) d.sub fl i := by
  unfold xokB at e
  simp only [Bool.and_eq_true, decide_eq_true_eq] at e
  obtain ⟨⟨⟨⟨⟨⟨⟨⟨h1, h2⟩, h3⟩, h4⟩, h5⟩, h6⟩, h7⟩, h8⟩, h9⟩ := e
  have g := HdD.ge_cls (K := K) e1
  refine ⟨by rw [g]; exact xfB_ok h1, by rw [g]; exact h2, by rw [g]; exact h3, h4, h5, by rw [g]; exact h6, fun f hx => ?_, fun c' b hb => ?_, by rw [g]; exact h8⟩
  · rw [g]
    rw [hf] at hx
    exact of_decide_eq_true (List.all_eq_true.mp h7 f hx)
  · have hl := T.sb i c' b hb
    have e2 : d.cls[c']? = some d.cls[c'] := List.getElem?_eq_getElem hl
    have q := zip_all h9 e2
    dsimp only at q
    rw [hb] at q
    rw [g, HdD.ge_cls (K := K) e2]
    exact of_decide_eq_true q
end

section
variable {d : HdD} {w : World} {h : Heap} {K : PySem.W.Frag} {mg : Str → Option Value} {p : Pg}
/-- the table's parts are the head's -/
structure PgIs (d : HdD) (p : Pg) : Prop where
  fns : p.fns = d.fns
  cls : p.cls = d.cls.map fun c => (c.name, c.flds)
  free : ∀ x, p.free x = true → x ∈ d.frees
  con : ∀ x y, p.con x = some y → (x, y) ∈ d.cons
  sub : p.sub = d.sub
  rep : p.rep = true
theorem pg_fl (P : PgIs d p) {i : Nat} {c : ClI} (e : d.cls[i]? = some c) : p.fl i = c.flds := by
  unfold Pg.fl
  rw [P.cls, List.getElem?_map, e]
  rfl
theorem head_fa (X : K.In h) (N : h.Ns mainGlobals mg) (S : He.SaysX d.fa d.ds [] d.tf d.ex w h K) : (∀ f ∈ d.fns, mg f.name = some (.ref (He.ga K f.name))) ∧ (∀ c ∈ d.cls, mg c.name = some (.ref (He.ga K c.name))) ∧ ∀ x ∈ d.frees, mg x = none := by
  have D := S.t.d
  refine ⟨fun f hf => He.glo_ok X N (D.facts ?_), fun c hc => He.glo_ok X N (D.facts ?_), fun x hx => He.free_ok X N (D.facts ?_)⟩
  · exact List.mem_append_left _ (List.mem_map.mpr ⟨f, hf, rfl⟩)
  · exact List.mem_append_right _ (List.mem_append_left _ (List.mem_map.mpr ⟨c, hc, rfl⟩))
  · exact List.mem_append_right _ (List.mem_append_right _ (List.mem_map.mpr ⟨x, hx, rfl⟩))
theorem head_fn (S : He.SaysX d.fa d.ds [] d.tf d.ex w h K) (T : TxtOk d) {f : FnI} (hf : f ∈ d.fns) : ∃ fd, FunD K f.name f.qual f.params f.body f.scope [] [] (He.ga K f.name) fd ∧ Binds K fd f.ps [] := by
  obtain ⟨fd, F⟩ := S.t.d.defs (d := f.dd) (List.mem_append_left _ (List.mem_map.mpr ⟨f, hf, rfl⟩))
  have F : FunD K f.name f.qual f.params f.body f.scope [] [] (He.ga K f.name) fd := F
  exact ⟨fd, F, F.bindsN fun kV doc pm an cdv ct us hl => T.bd f hf kV doc pm an cdv ct us hl⟩
theorem head_pg (X : K.In h) (N : h.Ns mainGlobals mg) (S : He.SaysX d.fa d.ds [] d.tf d.ex w h K) (T : TxtOk d) (P : PgIs d p) : PgOk p K mg (d.ge K) where
  gk := rfl
  fn := fun k f hk => by
    rw [P.fns] at hk
    have hf := List.mem_of_getElem? hk
    rw [HdD.ge_fn hk]
    obtain ⟨fd, F, B⟩ := head_fn S T hf
    exact ⟨(head_fa X N S).1 f hf, fd, F, T.sc f hf, B⟩
  free := fun x hx => (head_fa X N S).2.2 x (P.free x hx)
  con := fun x y hy => by
    have q := (ex_ok S.more).co _ (P.con x y hy)
    unfold conB at q
    split at q
    · rename_i u hu
      obtain ⟨v, r, z⟩ := repKB_ok (G := d.ge K) y u q
      exact ⟨u, v, PySem.W.mg_of X N hu, r, z⟩
    · cases q
  cl := fun i q hq => by
    rw [P.cls, List.getElem?_map] at hq
    obtain ⟨c, e1, e2⟩ := Option.map_eq_some_iff.mp hq
    subst e2
    have hc := List.mem_of_getElem? e1
    rw [HdD.ge_cls e1]
    refine ⟨(head_fa X N S).2.1 c hc, fun ne => ?_⟩
    have b := (ex_ok S.more).cl c hc
    unfold clB at b
    have ne2 : c.flds.isEmpty = false := by
      cases z : c.flds with
      | nil => exact absurd z ne
      | cons _ _ => rfl
    rw [ne2, Bool.false_or] at b
    simp only [Bool.and_eq_true, decide_eq_true_eq] at b
    obtain ⟨⟨⟨b1, b2⟩, b3⟩, b4⟩ := b
    obtain ⟨fd, F⟩ := S.t.d.defs (d := c.dd) (List.mem_append_right _ (List.mem_map.mpr ⟨c, List.mem_filter.mpr ⟨hc, by rw [ne2]; rfl⟩, rfl⟩))
    have F : FunD K "__init__" (c.name ++ ".__init__") c.params c.body c.scope [] [] (He.fAd K (c.name, some "__init__")) fd := F
    obtain ⟨s1, s2, s3, s4⟩ := T.cs c hc ne
    have hB : Binds K fd c.N [] := F.bindsN fun kV doc pm an cdv ct us hl => T.cb c hc ne kV doc pm an cdv ct us hl
    refine ⟨oexB_ok b1, _, fd, c.N, b2, b3, hB, fun P w base => ?_⟩
    have := init_ok (P := P) (w := w) (mg := mg) (base := base) (CX := L2.CX P w) (k := 0) (l := numb 1 c.flds) F s1 (by rw [numb_len]; exact s2) (initB_ok s3) (by
      intro z
      have z2 := congrArg List.length z
      rw [numb_len] at z2
      exact ne (List.length_eq_zero_iff.mp z2)) (by rw [numb_len]; exact s4) (fun j q hq => numb_snd _ _ j q hq) (oexB_ok b1) (fun q hq => by
      have h1 : q.1 ∈ c.flds := by rw [← numb_fst c.flds 1]; exact List.mem_map.mpr ⟨q, hq, rfl⟩
      exact of_decide_eq_true (List.all_eq_true.mp b4 q.1 h1))
    rw [numb_fst] at this
    exact this
  hh := fun _ => rfl
  xok := fun _ _ _ z => nomatch z
theorem nodup_at : ∀ {l : List Str} {f : Str → Addr} {x y : Str}, noDup (l.map f) = true → x ∈ l → y ∈ l → f x = f y → x = y
  | a :: r, f, x, y, h, hx, hy, e => by
    unfold noDup at h
    rw [List.map_cons] at h
    obtain ⟨h1, h2⟩ := Bool.and_eq_true_iff.mp h
    have no : f a ∉ r.map f := by simpa using h1
    rcases List.mem_cons.mp hx with hx1 | hx1
    · rcases List.mem_cons.mp hy with hy1 | hy1
      · rw [hx1, hy1]
      · exact absurd (by rw [← hx1, e]; exact List.mem_map.mpr ⟨y, hy1, rfl⟩) no
    · rcases List.mem_cons.mp hy with hy1 | hy1
      · exact absurd (by rw [← hy1, ← e]; exact List.mem_map.mpr ⟨x, hx1, rfl⟩) no
      · exact nodup_at h2 hx1 hy1 e
theorem head_lam {base : Heap} (S : He.SaysX d.fa d.ds [] d.tf d.ex w h K) (T : TxtOk d) (P : PgIs d p) (B : ∀ q ∈ d.cs K, LamX.TabB base mg q.1 q.2) : LamD p K mg base (d.ge K) := by
  intro k f hk hl oc od fd osl lk
  rw [P.fns] at hk
  have hf := List.mem_of_getElem? hk
  obtain ⟨hm, hq⟩ := T.lm f hf hl
  rw [HdD.ge_fn hk] at lk
  obtain ⟨fd', F, _⟩ := head_fn S T hf
  obtain ⟨oc', od', dV, kV, doc, pm, an, cdv, ct, osl', rfl, lk2, hcd, _, _⟩ := F.ex
  rw [lk] at lk2
  have efd : fd = PySem.W.fnOf f.name f.qual f.params f.body f.scope dV kV doc pm an cdv ct := by
    have z := Option.some.inj lk2
    injection z with _ _ z _
    injection z
  obtain ⟨c, hc⟩ := He.codeIn_ref hcd
  have ec : fd.code = .ref c := by rw [efd]; exact hc
  have e1 : He.codeOf K (f.name, none) = c := He.codeOf_eq (p := (f.name, none)) lk ec
  have e2 : He.cT K (f.name, none) = (c, (He.cT K (f.name, none)).2) := by
    unfold He.cT
    rw [e1]
  have mem : (f.name, none) ∈ d.tf := List.mem_map.mpr ⟨f.name, hm, rfl⟩
  refine ⟨c, (He.cT K (f.name, none)).2, ec, ?_, ?_, ?_⟩
  · have := B _ (List.mem_map.mpr ⟨_, mem, rfl⟩)
    rw [e2] at this
    exact this
  · rw [hq]
    exact List.mem_map.mpr ⟨f.name, hm, rfl⟩
  · intro y hy hy1
    obtain ⟨x, hx, rfl⟩ := List.mem_map.mp hy
    have : x = f.name := nodup_at (f := fun x => (He.cT K (x, none)).2) (ex_ok S.more).nd hx hm hy1
    rw [this, hq]
/-- the def that catches -/
structure FltT (d : HdD) (ff : FnI) (cc : ClI) : Prop where
  f : ff ∈ d.fns
  c : cc ∈ d.cls
  e1 : d.fl.name = ff.name
  e2 : ff.qual = ff.name
  e3 : d.fl.params = ff.params
  e4 : d.fl.body = ff.body
  e5 : d.fl.scope = ff.scope
  e6 : ff.ps = [d.fl.a]
  e7 : ff.N = [d.fl.a, d.fl.fo, d.fl.e]
  e8 : d.fl.cn = cc.name
  pat : ∃ (j : Nat) (p0 p00 p1 p2 p3 p4 p5 p6 p7 p8 p9 : Pos), d.fl.body = [.Assign [.Name d.fl.fo p0] (.Constant .none j p00) p1, .Try [.Expr (.Call (.Name d.fl.a p2) [] [] p3) p4] [.ExceptHandler (some (.Name d.fl.cn p5)) (some d.fl.e) (d.fl.b₀ :: d.fl.suite) p6] [] [] p7, .Return (some (.Name d.fl.fo p8)) p9]
  ha : d.fl.scope.names.lookup d.fl.a = some .local
  hf : d.fl.scope.names.lookup d.fl.fo = some .local
  he : d.fl.scope.names.lookup d.fl.e = some .local
  hc : d.fl.scope.names.lookup d.fl.cn = some .globalImplicit
  d1 : nmOk d.fl.a = true
  d2 : nmOk d.fl.fo = true
  d3 : nmOk d.fl.cn = true
theorem head_flt (X : K.In h) (N : h.Ns mainGlobals mg) (S : He.SaysX d.fa d.ds [] d.tf d.ex w h K) (T : TxtOk d) {ff : FnI} {cc : ClI} (L : FltT d ff cc) : FltD K mg (d.ge K) d.sf d.fl where
  pat := L.pat
  fn := by
    obtain ⟨fd, F, B⟩ := head_fn S T L.f
    refine ⟨He.ga K ff.name, He.ga K cc.name, fd, by rw [L.e1]; exact (head_fa X N S).1 ff L.f, by rw [L.e8]; exact (head_fa X N S).2.1 cc L.c, ?_, by rw [← L.e6]; exact B, fun c hc => ?_⟩
    · rw [L.e1, L.e3, L.e4, L.e5]
      have := F
      rw [L.e2] at this
      exact this
    · have hl := T.sf c hc
      have e := List.getElem?_eq_getElem hl
      rw [HdD.ge_cls e, ← L.e8]
      exact (ex_ok S.more).ct c _ e hc
  sc := by
    have := T.sc ff L.f
    rw [L.e7, L.e6] at this
    rw [L.e5]
    exact this
  ha := L.ha
  hf := L.hf
  he := L.he
  hc := L.hc
  d1 := L.d1
  d2 := L.d2
  d3 := L.d3
/-- all defs keep their promises -/
theorem head_all {base : Heap} {P : Program} (X : K.In h) (N : h.Ns mainGlobals mg) (S : He.SaysX d.fa d.ds [] d.tf d.ex w h K) (T : TxtOk d) (I : PgIs d p) {ff : FnI} {cc : ClI} (L : FltT d ff cc) (B : ∀ q ∈ d.cs K, LamX.TabB base mg q.1 q.2) (n : Nat) {k : Nat} {f : FnI} (hk : d.fns[k]? = some f) :
    ∃ fd, (∀ us : List Value, us.length = f.ps.length → ∀ s : Shared, BindsTo s fd ⟨us, []⟩ (f.ps.zip us)) ∧ FnQ (d.ge K) true P w K mg base (L2.CX P w) (n + 2) (He.ga K f.name) fd f.ps (spF (d.ge K) f.ps.length ((p.top d.fl d.sf).call n k)) := by
  obtain ⟨fd, F, _⟩ := head_fn S T (List.mem_of_getElem? hk)
  refine ⟨fd, fun us hl s => F.bindsA (ps := f.ps) (fun kV doc pm an cdv ct us hl => T.bd f (List.mem_of_getElem? hk) kV doc pm an cdv ct us hl) s us hl, ?_⟩
  have A := all_ok (P := P) (w := w) (base := base) (head_pg X N S T I) rfl I.rep (head_lam S T I B) (head_flt X N S T L) (fun c hc => by
    rw [I.sub]
    have hl := T.sf c hc
    have e := List.getElem?_eq_getElem hl
    exact xokB_ok T e (pg_fl I e) ((ex_ok S.more).xo c _ e hc)) n k f fd (by rw [I.fns]; exact hk)
  rw [HdD.ge_fn hk] at A
  exact A F
end
end Ev

namespace Ev
open PySem PySem.Spec PyProof.Rows L2
/-! ## a law's end: where no repr is under way -/
abbrev emptyO : Obj := { cls := .none, data := .fields #[] }
/-- the tables are told of -/
def tabH (ts : List Addr) : Hp := fun b => if b ∈ ts then some (.tbl #[]) else none
/-- .. and one thing more -/
def moreH (ts : List Addr) (a : Addr) (u : HO) : Hp := fun b => if b = a then some u else tabH ts b
theorem tabH_in {ts : List Addr} {b : Addr} (h : b ∈ ts) : tabH ts b = some (.tbl #[]) := if_pos h
theorem tabH_out {ts : List Addr} {b : Addr} (h : b ∉ ts) : tabH ts b = none := if_neg h
theorem tabH_cases (ts : List Addr) (b : Addr) : (b ∈ ts ∧ tabH ts b = some (.tbl #[])) ∨ (b ∉ ts ∧ tabH ts b = none) := by
  by_cases q : b ∈ ts
  · exact .inl ⟨q, tabH_in q⟩
  · exact .inr ⟨q, tabH_out q⟩
section
variable {P : Program} {w : World} {K : PySem.W.Frag} {mg mb : Str → Option Value} {k : Nat} {fa a : Addr} {cs : List (Addr × Addr)} {fd : FuncData} {x : Str} {sp : Sp} {s : Shared} {vs : List Value} {ns : List Int} {G : Ge}
/-- what stands at the law's call -/
structure Call0 (K : PySem.W.Frag) (mg mb : Str → Option Value) (cs : List (Addr × Addr)) (s : Shared) (a : Addr) (vs : List Value) (ns : List Int) : Prop where
  kin : K.In s.heap
  gl : s.heap.Ns mainGlobals mg
  nb : s.heap.Ns builtinsNs mb
  boot : ∀ x : Str, x ≠ "__name__" → mb x = bootBuiltins x
  lim : s.heap.NoLimit
  gens : s.gens = #[]
  tab : ∀ p ∈ cs, s.heap.get? p.2 = some emptyO
  tk : ∀ p ∈ cs, K.lookup p.2 = none
  hd : ∀ p ∈ cs, PySem.W.CodeHd s.heap p.1 p.2
  bm : ∃ (bm : Addr) (ob : Obj), mg "__builtins__" = some (.ref bm) ∧ bm ≠ builtinsNs ∧ s.heap.get? bm = some ob ∧ ob.cls = .type "module" ∧ ob.dict = some builtinsNs ∧ ob.data = .plain
  lst : s.heap.get? a = some { cls := .type "list", data := .seq vs.toArray }
  iv : IntsAre vs ns
  few : ns.length ≤ sizeLine
def tabs (cs : List (Addr × Addr)) : List Addr := cs.map (·.2)
theorem mem_tabs {p : Addr × Addr} (h : p ∈ cs) : p.2 ∈ tabs cs := List.mem_map.mpr ⟨p, h, rfl⟩
theorem Call0.empty (C : Call0 K mg mb cs s a vs ns) {b : Addr} (h : b ∈ tabs cs) : s.heap.get? b = some emptyO := by
  obtain ⟨p, hp, rfl⟩ := List.mem_map.mp h
  exact C.tab p hp
theorem Call0.ne (C : Call0 K mg mb cs s a vs ns) : a ∉ tabs cs := fun z => by
  have q := C.empty z
  rw [C.lst] at q
  have q2 : Data.seq vs.toArray _ = Data.fields #[] := congrArg Obj.data (Option.some.inj q)
  cases q2
/-- an abstract heap for the call: tables, at most the script -/
structure Heap0 (P : Program) (w : World) (K : PySem.W.Frag) (cs : List (Addr × Addr)) (s : Shared) (a : Addr) (H : Hp) : Prop where
  t : ∀ b ∈ tabs cs, H b = some (.tbl #[])
  o : ∀ b u, H b = some u → b ∈ tabs cs ∨ (b = a ∧ ∃ ob xs, u = .frz ob (.lst xs))
  ok : HOk P w H s.heap
  k : H a ≠ none → K.lookup a = none
theorem Call0.pick (C : Call0 K mg mb cs s a vs ns) : ∃ H, Heap0 P w K cs s a H ∧ SqL K H a (ns.map V.int) := by
  have hv : Vals (ns.map V.int) vs := vals_ints C.iv
  have hlen : vs.length = ns.length := C.iv.length
  have tok : ∀ b u, tabH (tabs cs) b = some u → ∀ H, ObjOk P w H s.heap b u := fun b u h H => by
    rcases tabH_cases (tabs cs) b with ⟨q, e⟩ | ⟨_, e⟩
    · rw [e] at h
      cases h
      exact C.empty q
    · rw [e] at h
      cases h
  cases hk : K.lookup a with
  | some ob =>
    have e := C.kin a ob hk
    rw [C.lst] at e
    cases e
    refine ⟨tabH (tabs cs), ⟨fun b h => tabH_in h, fun b u h => ?_, fun b u h => tok b u h _, fun h => absurd (tabH_out C.ne) h⟩, .inr ⟨_, vs.toArray, _, hk, rfl, rfl, rfl, ?_, by simpa using hv⟩⟩
    · rcases tabH_cases (tabs cs) b with ⟨q, _⟩ | ⟨_, e⟩
      · exact .inl q
      · rw [e] at h; cases h
    · rw [List.size_toArray, hlen]
      exact C.few
  | none =>
    have same : ∀ b, b ≠ a → moreH (tabs cs) a (.frz { cls := .type "list", data := .seq vs.toArray } (.lst (ns.map V.int))) b = tabH (tabs cs) b := fun b h => if_neg h
    refine ⟨moreH (tabs cs) a (.frz { cls := .type "list", data := .seq vs.toArray } (.lst (ns.map V.int))), ⟨fun b h => ?_, fun b u h => ?_, fun b u h => ?_, fun _ => hk⟩, .inl (.inr ⟨_, if_pos rfl⟩)⟩
    · rw [same b fun z => C.ne (z ▸ h)]
      exact tabH_in h
    · by_cases q : b = a
      · have e : some (HO.frz _ _) = some u := (if_pos q).symm.trans h
        exact .inr ⟨q, _, _, (Option.some.inj e).symm⟩
      · rw [same b q] at h
        rcases tabH_cases (tabs cs) b with ⟨q2, _⟩ | ⟨_, e⟩
        · exact .inl q2
        · rw [e] at h; cases h
    · by_cases q : b = a
      · have e : some (HO.frz _ _) = some u := (if_pos q).symm.trans h
        cases e
        rw [q]
        exact ⟨C.lst, by rw [List.length_map]; exact C.few, vs, _, hv, C.lst⟩
      · rw [same b q] at h
        exact tok b u h _
theorem end_call (C : Call0 K mg mb cs s a vs ns) (hn : L2H.RoomH k callerA) (hG : G.hot = none)
    (F : ∀ base : Heap, K.In base → base.Ns mainGlobals mg → (∀ p ∈ cs, LamX.TabB base mg p.1 p.2) → ∃ fd, (∀ u : Value, BindsTo s fd ⟨[u], []⟩ [(x, u)]) ∧ FnQ G true P w K mg base (L2.CX P w) k fa fd [x] sp)
    (hs : ∀ H : Hp, (∀ b ∈ tabs cs, H b = some (.tbl #[])) → (∀ b u, H b = some u → b ∈ tabs cs ∨ (b = a ∧ ∃ ob xs, u = .frz ob (.lst xs))) → SqL K H a (ns.map V.int) → sp [.ref a] H (fun v _ => v = .bl true) fun _ _ _ => False) :
    codeAny (model P w) callerA (.call (.ref fa) ⟨[.ref a], []⟩) (fun r s' => r = .ok (.ret (.bool true)) ∧ OldK s.heap s'.heap ∧ s'.os = s.os ∧ AllBare s'.gens) s := by
  obtain ⟨H, hH, hq⟩ := C.pick (P := P) (w := w)
  have vis : ∀ {b : Addr} {o : Obj}, s.heap.get? b = some o → (∀ xs m, o.data ≠ .seq xs m) → o.data ≠ .fields #[] → (hidT s.heap H).get? b = some o := fun {b o} e h1 h2 => hidT_get e (by
    cases q : H b with
    | none => rfl
    | some u =>
      rcases hH.o b u q with z | ⟨z, _⟩
      · rw [C.empty z] at e
        cases e
        exact absurd rfl h2
      · rw [z, C.lst] at e
        cases e
        exact absurd rfl (h1 _ _))
  have nsv : ∀ {b : Addr} {m : Str → Option Value}, s.heap.Ns b m → (hidT s.heap H).Ns b m := fun {b m} ⟨o, es, ep, e, hd, r⟩ => ⟨o, es, ep, vis e (fun _ _ z => by rw [hd] at z; cases z) (fun z => by rw [hd] at z; cases z), hd, r⟩
  have kin : K.In (hidT s.heap H) := fun b o e => hidT_get (C.kin b o e) (by
    cases q : H b with
    | none => rfl
    | some u =>
      rcases hH.o b u q with z | ⟨z, _⟩
      · obtain ⟨p, hp, rfl⟩ := List.mem_map.mp z
        rw [C.tk p hp] at e
        cases e
      · rw [z] at q e
        rw [hH.k (by rw [q]; simp)] at e
        cases e)
  have mod : L2.Mod K mg (hidT s.heap H) := ⟨kin, nsv C.gl, ⟨mb, nsv C.nb, C.boot⟩, let ⟨m, h1, h2⟩ := C.lim; ⟨m, nsv h1, h2⟩⟩
  have tb : ∀ p ∈ cs, LamX.TabB (hidT s.heap H) mg p.1 p.2 := fun p hp => by
    refine ⟨?_, ?_, fun z => ?_⟩
    · obtain ⟨o, us, z1, z2, z3, z4, z5, z6, z7, e1, r1, r2, r3, rest⟩ := C.hd p hp
      exact ⟨o, us, z1, z2, z3, z4, z5, z6, z7, vis e1 (fun _ _ z => by rw [r2] at z; cases z) (fun z => by rw [r2] at z; cases z; simp at r3), r1, r2, r3, rest⟩
    · obtain ⟨bm, ob, b1, b2, b3, b4, b5, b6⟩ := C.bm
      refine ⟨bm, ob, b1, b2, fun q => ?_, fun q => ?_, vis b3 (fun _ _ z => by rw [b6] at z; cases z) (fun z => by rw [b6] at z; cases z), b4, b5, b6⟩
      · obtain ⟨o, es, ep, e, hd, _⟩ := C.gl
        rw [q, e] at b3
        cases b3
        rw [hd] at b6
        cases b6
      · rw [q, C.tab p hp] at b3
        cases b3
        cases b6
    · obtain ⟨o, es, ep, e, hd, _⟩ := C.gl
      rw [z, C.tab p hp] at e
      cases e
      cases hd
  have e0 : Env0 P w K mg (hidT s.heap H) callerA [] s H := ⟨rfl, mod, fun b o e => of_hidT e, Nat.le_of_eq (hidT_size _ _), trivial, fun b hb => absurd (show b ∈ ([] : List Addr) from hb) (by simp), hH.ok, .of_eq C.gens⟩
  obtain ⟨fd, hb, Q⟩ := F _ kin (nsv C.gl) tb
  have hot : HotQ G callerA [] H s := by
    unfold HotQ
    rw [hG]
    rfl
  refine codeAny_mono (Q.go callerA [] s H [.ref a] [.ref a] _ _ hn (fun _ => rfl) hot e0 (hb _) (.cons rfl .nil) (hs H hH.t hH.o hq)) fun r s' h => ?_
  match r, h with
  | .error e, h =>
    obtain ⟨_, _, _, _, _, _, _, _, _, _, _, _, z⟩ := h
    exact z.elim
  | .ok .next, h => exact False.elim h
  | .ok .brk, h => exact False.elim h
  | .ok .cont, h => exact False.elim h
  | .ok (.ret u), h =>
    obtain ⟨v, H', os, bare, un, ok', r', q⟩ := h
    have q : v = .bl true := q
    subst q
    obtain rfl : u = Value.bool true := r'
    have kept : ∀ b o, b ∉ tabs cs → s.heap.get? b = some o → s'.heap.get? b = some o := fun b o nb e => by
      cases q : H b with
      | none => exact un.keep b o e q (fun z => absurd (show b ∈ ([] : List Addr) from z) (by simp)) (by simp)
      | some u =>
        rcases hH.o b u q with z | ⟨_, ob, xs, z⟩
        · exact absurd z nb
        · subst z
          obtain ⟨e1, _⟩ := hH.ok b _ q
          obtain ⟨e2, _⟩ := ok' b _ (un.frzs b ob _ q)
          rw [e] at e1
          cases e1
          exact e2
    refine ⟨rfl, ⟨fun b o e => ?_, fun b o e => ?_⟩, os, bare⟩
    · by_cases hb : b ∈ tabs cs
      · obtain ⟨p, hp, ep⟩ := List.mem_map.mp hb
        obtain ⟨more, z⟩ := un.tbls b #[] (hH.t b hb)
        have grown : s'.heap.get? b = some { cls := .none, data := .fields (#[] ++ more) } := ok' b _ z
        rw [C.empty hb] at e
        cases e
        have ct := ((C.hd p hp).tab (C.tab p hp)).isCodeTable
        rw [ep] at ct
        exact .inr (.inl ⟨ct, rfl, #[], more, rfl, grown⟩)
      · exact .inl (kept b o hb e)
    · by_cases hb : b ∈ tabs cs
      · obtain ⟨more, z⟩ := un.tbls b #[] (hH.t b hb)
        exact ⟨_, ok' b _ z⟩
      · exact ⟨o, kept b o hb e⟩
end
end Ev
namespace Ev
open PySem PySem.Spec PyProof.Rows L2
theorem tabs_empty {T : List (Addr × Str)} {H : Hp} (h : ∀ y ∈ T, H y.1 = some (.tbl #[])) : LamX.Tabs T H := fun y hy => by
  refine ⟨#[], h y hy, ?_, fun pos cv z => ?_⟩
  · trivial
  · cases z
theorem law_ev {l : PySem.W.OpenLaw} {n : Nat} {q : Program} {loose : List Str} {XP : (Str → Option Value) → Heap → Prop} {dr : DefRec} {d : HdD} {p : Pg} {ff f : FnI} {cc : ClI} {k N : Nat} {x : Str}
    (hn : l.most = some n) (hn2 : n ≤ sizeLine) (hdf : dr.params.defaults = []) (T : TxtOk d) (I : PgIs d p) (L : FltT d ff cc) (hk : d.fns[k]? = some f) (hf : dr.name = f.name) (hps : f.ps = [x]) (hr : L2H.RoomH (N + 2) callerA)
    (plain : ∀ ns : List Int, ns.length ≤ n → (∀ z ∈ ns, Builtin.Int.intBits z ≤ 1048576) → ∃ outs, (p.top d.fl d.sf).call N k [⟨.frz, .scr ns⟩] = .ok false (.bl true) outs) :
    PySem.W.WalkO q loose XP (He.hookX 8 d.fa d.ds [] d.tf d.ex).says l.row.toRowW dr [] (fun f vs => PySem.call f vs) := by
  refine Att.attach_callB hn hdf fun w s₀ s₁ mg mb fa o pm cd doc a vs ns G Y ho hd hcd hmg hobj hints hlen hbits hg => ?_
  obtain ⟨K, X, S⟩ := Y
  have C : Call0 K mg mb (d.cs K) s₁ a vs ns := ⟨X, G.T.g, G.T.b, G.T.builtins, G.T.nolimit, hg, fun r hr => by
      obtain ⟨z, hz, rfl⟩ := List.mem_map.mp hr
      exact S.empty z hz, fun r hr => by
      obtain ⟨z, hz, rfl⟩ := List.mem_map.mp hr
      exact S.out z hz, fun r hr => by
      obtain ⟨z, hz, rfl⟩ := List.mem_map.mp hr
      exact PySem.W.codeHd_of_K X (S.hd z hz), G.T.bmain, hobj, hints, Nat.le_trans hlen hn2⟩
  have efa : fa = He.ga K f.name := by
    have e1 := (head_fa X G.T.g S).1 f (List.mem_of_getElem? hk)
    rw [hf, e1] at hmg
    injection hmg with hmg
    injection hmg with hmg
    exact hmg.symm
  subst efa
  refine end_call (x := x) (k := N + 2) (G := d.ge K) (sp := spF (d.ge K) f.ps.length ((p.top d.fl d.sf).call N k)) C hr rfl (fun base b1 b2 b3 => ?_) (fun H h1 h2 h3 => ?_)
  · obtain ⟨fd, h1, h2⟩ := head_all (P := l.prog) (w := w) X G.T.g S T I L b3 N hk
    refine ⟨fd, fun u => ?_, ?_⟩
    · have := h1 [u] (by rw [hps]; rfl) s₁
      rw [hps] at this
      exact this
    · rw [← hps]
      exact h2
  · obtain ⟨outs, e⟩ := plain ns hlen hbits
    refine ⟨by rw [hps]; rfl, fun b => H b ≠ none ∧ b ∉ tabs (d.cs K), fun _ => False, [⟨.frz, .scr ns⟩], ⟨rfl, fun i y hy => ?_, fun i j y z ne hy hz my mz => ?_, fun _ _ z => z, fun b hb => hb.1, fun _ z => z.elim, tabs_empty fun y hy => ?_, fun r hr => absurd hr (by simp [Z0]), fun b hb => absurd hb (by simp [Z0]), fun b ws hb => ?_⟩, ?_⟩
    · match i, hy with
      | 0, hy =>
        cases hy
        refine ⟨.ref a, rfl, .scr ?_⟩
        rcases h3 with h3 | ⟨o2, its, m, z1, z2, z3, z4, z5, z6⟩
        · refine .inl ⟨⟨?_, C.ne⟩, h3⟩
          rcases h3 with h3 | ⟨_, h3⟩ <;> rw [h3] <;> simp
        · exact .inr fun H' => .inr ⟨o2, its, m, z1, z2, z3, z4, z5, z6⟩
      | j + 1, hy => simp at hy
    · match i, hy with
      | 0, hy => cases hy; exact absurd rfl my
      | j + 1, hy => simp at hy
    · obtain ⟨z, hz, rfl⟩ := List.mem_map.mp hy
      exact h1 _ (mem_tabs (p := He.cT K (z, none)) (List.mem_map.mpr ⟨(z, none), List.mem_map.mpr ⟨z, hz, rfl⟩, rfl⟩))
    · rcases h2 b _ hb with z | ⟨_, ob, xs, z⟩
      · rw [h1 b z] at hb; cases hb
      · cases z
    · rw [e]
      intro F' M' H' v s st
      obtain ⟨u, r, e0, w0, _, _⟩ := st.wt
      cases e0
      cases (show Rep (d.ge K) F' H' (.bl true) v from w0)
      rfl
end Ev
namespace Ev
open PySem
theorem lookup_in {α : Type} : ∀ {l : List (Str × α)} {x : Str} {y : α}, l.lookup x = some y → (x, y) ∈ l
  | [], _, _, h => by cases h
  | (z, u) :: r, x, y, h => by
    rw [List.lookup_cons] at h
    cases q : x == z with
    | true =>
      simp only [q] at h
      cases h
      rw [beq_iff_eq.mp q]
      exact List.mem_cons_self
    | false =>
      simp only [q] at h
      exact List.mem_cons_of_mem _ (lookup_in h)
end Ev

namespace Ev
open PySem PySem.Spec PyProof.Rows
/-! ## what is reckoned: rules for what runs on data -/
section
variable {α β : Type}
theorem bind_ok {a : α} {ρ : En} {f : α → En → R β} : (R.ok a ρ).bind f = f a ρ := (rfl)
theorem bind_exc {c as} {f : α → En → R β} : (R.exc c as : R α).bind f = .exc c as := (rfl)
theorem toS_ok {a : α} {ρ : En} {f : α → En → Rs} : (R.ok a ρ).toS f = f a ρ := (rfl)
theorem toS_exc {c as} {f : α → En → Rs} : (R.exc c as : R α).toS f = .exc c as := (rfl)
theorem seq_nx {ρ k} : (Rs.nx ρ).seq k = k ρ := (rfl)
theorem seq_rt {o ρ k} : (Rs.rt o ρ).seq k = .rt o ρ := (rfl)
theorem seq_bk {ρ k} : (Rs.bk ρ).seq k = .bk ρ := (rfl)
theorem seq_ct {ρ k} : (Rs.ct ρ).seq k = .ct ρ := (rfl)
theorem seq_exc {c as k} : (Rs.exc c as).seq k = .exc c as := (rfl)
theorem loop_nx {ρ k} : (Rs.nx ρ).loop k = k ρ := (rfl)
theorem loop_ct {ρ k} : (Rs.ct ρ).loop k = k ρ := (rfl)
theorem loop_bk {ρ k} : (Rs.bk ρ).loop k = .nx ρ := (rfl)
theorem loop_rt {o ρ k} : (Rs.rt o ρ).loop k = .rt o ρ := (rfl)
theorem loop_exc {c as k} : (Rs.exc c as).loop k = .exc c as := (rfl)
theorem nox_ok {a : α} {ρ : En} : (R.ok a ρ).nox = .ok a ρ := (rfl)
end
/-! ### slots -/
def varR (i : Nat) (ρ : En) : Option (Option Val) → R Opd
  | some (some ⟨.frz, d⟩) => .ok (.v false d) ρ
  | some (some ⟨_, _⟩) => .ok (.ali i) ρ
  | _ => .stuck
theorem sVar_at (i : Nat) (ρ : En) : sVar i ρ = varR i ρ ρ[i]? := by
  unfold sVar varR
  cases ρ[i]? with
  | none => rfl
  | some y =>
    cases y with
    | none => rfl
    | some x => obtain ⟨m, d⟩ := x; cases m <;> rfl
theorem varR_frz {i ρ d} : varR i ρ (some (some ⟨.frz, d⟩)) = .ok (.v false d) ρ := (rfl)
theorem varR_own {i ρ d} : varR i ρ (some (some ⟨.own, d⟩)) = .ok (.ali i) ρ := (rfl)
theorem sLit_at (d : D) (ρ : En) : sLit d ρ = .ok (.v false d) ρ := (rfl)
theorem get_0 {α : Type} {a : α} {l : List α} : (a :: l)[0]? = some a := (rfl)
theorem get_s {α : Type} {a : α} {l : List α} {n : Nat} : (a :: l)[n + 1]? = l[n]? := (rfl)
theorem set_0 {α : Type} {a b : α} {l : List α} : (a :: l).set 0 b = b :: l := (rfl)
theorem set_s {α : Type} {a b : α} {l : List α} {n : Nat} : (a :: l).set (n + 1) b = a :: l.set n b := (rfl)
def slotO : Option (Option Val) → Option D
  | some (some x) => some x.d
  | _ => none
theorem der_v {b d ρ} : der (.v b d) ρ = some d := (rfl)
theorem der_ali {i ρ} : der (.ali i) ρ = slotO ρ[i]? := by
  show slotD ρ i = _
  unfold slotD slotO
  rfl
theorem slotO_s {m d} : slotO (some (some ⟨m, d⟩)) = some d := (rfl)
def frzO (i : Nat) (ρ : En) : Option (Option Val) → Option (D × En)
  | some (some ⟨.own, d⟩) => some (d, ρ.set i (some ⟨.frz, d⟩))
  | some (some ⟨.frz, d⟩) => some (d, ρ)
  | _ => none
theorem frz1_v {b d ρ} : frz1 (.v b d) ρ = some (d, ρ) := (rfl)
theorem frz1_ali {i ρ} : frz1 (.ali i) ρ = frzO i ρ ρ[i]? := by
  unfold frz1 frzO
  rfl
theorem frzO_own {i ρ d} : frzO i ρ (some (some ⟨.own, d⟩)) = some (d, ρ.set i (some ⟨.frz, d⟩)) := (rfl)
theorem frzO_frz {i ρ d} : frzO i ρ (some (some ⟨.frz, d⟩)) = some (d, ρ) := (rfl)
theorem frzs_nil {ρ} : frzs [] ρ = some ([], ρ) := (rfl)
def frzC (d : D) : Option (List D × En) → Option (List D × En)
  | some (ds, ρ) => some (d :: ds, ρ)
  | none => none
theorem frzC_some {d ds ρ} : frzC d (some (ds, ρ)) = some (d :: ds, ρ) := (rfl)
theorem frzs_v {b d os ρ} : frzs (.v b d :: os) ρ = frzC d (frzs os ρ) := by
  show (match frzs os ρ with
    | some (ds, ρ2) => some (d :: ds, ρ2)
    | none => none) = _
  cases frzs os ρ <;> rfl
def frzD (os : List Opd) : Option (D × En) → Option (List D × En)
  | some (d, ρ) => frzC d (frzs os ρ)
  | none => none
theorem frzD_some {os d ρ} : frzD os (some (d, ρ)) = frzC d (frzs os ρ) := (rfl)
theorem frzs_ali {i os ρ} : frzs (.ali i :: os) ρ = frzD os (frzO i ρ ρ[i]?) := by
  rw [← frz1_ali]
  show (match frz1 (.ali i) ρ with
    | some (d, ρ1) => (match frzs os ρ1 with
      | some (ds, ρ2) => some (d :: ds, ρ2)
      | none => none)
    | none => none) = frzD os (frz1 (.ali i) ρ)
  cases frz1 (.ali i) ρ with
  | none => rfl
  | some q =>
    obtain ⟨d, ρ1⟩ := q
    show (match frzs os ρ1 with
      | some (ds, ρ2) => some (d :: ds, ρ2)
      | none => none) = frzC d (frzs os ρ1)
    cases frzs os ρ1 <;> rfl
theorem sArgs_nil {ρ} : sArgs [] ρ = .ok [] ρ := (rfl)
theorem sArgs_cons {f fs ρ} : sArgs (f :: fs) ρ = (f ρ).bind fun o ρ1 => (sArgs fs ρ1).bind fun os ρ2 => .ok (o :: os) ρ2 := (rfl)
/-! ### operators -/
def fin (ρ : En) : Option (Bool × D) → R Opd
  | some (b, d) => .ok (.v b d) ρ
  | none => .stuck
theorem fin_some {ρ b d} : fin ρ (some (b, d)) = .ok (.v b d) ρ := (rfl)
def op1K (h : D → Option (Bool × D)) (ρ : En) : Option D → R Opd
  | some x => fin ρ (h x)
  | none => .stuck
theorem op1K_some {h ρ x} : op1K h ρ (some x) = fin ρ (h x) := (rfl)
def op2K (h : D → D → Option (Bool × D)) (ρ : En) : Option D → Option D → R Opd
  | some x, some y => fin ρ (h x y)
  | _, _ => .stuck
theorem op2K_some {h ρ x y} : op2K h ρ (some x) (some y) = fin ρ (h x y) := (rfl)
theorem sOp1_at {h f ρ} : sOp (op1 h) [f] ρ = (f ρ).bind fun o ρ1 => op1K h ρ1 (der o ρ1) := by
  unfold sOp sArgs sArgs
  cases f ρ with
  | ok o ρ1 =>
    simp only [bind_ok, ders]
    cases der o ρ1 with
    | none => rfl
    | some x =>
      show (match op1 h [x] with | some (b, d) => R.ok (Opd.v b d) ρ1 | none => .stuck) = fin ρ1 (h x)
      show (match h x with | some (b, d) => R.ok (Opd.v b d) ρ1 | none => .stuck) = fin ρ1 (h x)
      cases h x <;> rfl
  | exc c as => rfl
  | stuck => rfl
theorem sOp2_at {h f g ρ} : sOp (op2 h) [f, g] ρ = (f ρ).bind fun o ρ1 => (g ρ1).bind fun p ρ2 => op2K h ρ2 (der o ρ2) (der p ρ2) := by
  unfold sOp sArgs sArgs sArgs
  cases f ρ with
  | ok o ρ1 =>
    simp only [bind_ok]
    cases g ρ1 with
    | ok p ρ2 =>
      simp only [bind_ok, ders]
      cases der o ρ2 with
      | none => rfl
      | some x =>
        cases der p ρ2 with
        | none => rfl
        | some y =>
          show (match h x y with | some (b, d) => R.ok (Opd.v b d) ρ2 | none => .stuck) = fin ρ2 (h x y)
          cases h x y <;> rfl
    | exc c as => rfl
    | stuck => rfl
  | exc c as => rfl
  | stuck => rfl
/-- any operator -/
def opNK (op : List D → Option (Bool × D)) (ρ : En) : Option (List D) → R Opd
  | some ds => fin ρ (op ds)
  | none => .stuck
theorem opNK_some {op ρ ds} : opNK op ρ (some ds) = fin ρ (op ds) := (rfl)
theorem sOpN_at (op : List D → Option (Bool × D)) (fs) (ρ) : sOp op fs ρ = (sArgs fs ρ).bind fun os ρ1 => opNK op ρ1 (ders os ρ1) := by
  unfold sOp
  cases sArgs fs ρ with
  | ok os ρ1 =>
    show (match ders os ρ1 with
      | some ds => (match op ds with | some (b, d) => R.ok (Opd.v b d) ρ1 | none => .stuck)
      | none => .stuck) = opNK op ρ1 (ders os ρ1)
    cases ders os ρ1 with
    | none => rfl
    | some ds =>
      show (match op ds with | some (b, d) => R.ok (Opd.v b d) ρ1 | none => .stuck) = fin ρ1 (op ds)
      cases op ds <;> rfl
  | exc c as => rfl
  | stuck => rfl
theorem sOpIsi_at {f g ρ} : sOp opIsi [f, g] ρ = (sArgs [f, g] ρ).bind fun os ρ1 => opNK opIsi ρ1 (ders os ρ1) := sOpN_at _ _ _
theorem sOpSl0_at {f ρ} : sOp opSl0 [f] ρ = (sArgs [f] ρ).bind fun os ρ1 => opNK opSl0 ρ1 (ders os ρ1) := sOpN_at _ _ _
theorem sOpSl1_at {f g ρ} : sOp opSl1 [f, g] ρ = (sArgs [f, g] ρ).bind fun os ρ1 => opNK opSl1 ρ1 (ders os ρ1) := sOpN_at _ _ _
theorem sOpSl2_at {f g ρ} : sOp opSl2 [f, g] ρ = (sArgs [f, g] ρ).bind fun os ρ1 => opNK opSl2 ρ1 (ders os ρ1) := sOpN_at _ _ _
theorem sOpSl3_at {f g h ρ} : sOp opSl3 [f, g, h] ρ = (sArgs [f, g, h] ρ).bind fun os ρ1 => opNK opSl3 ρ1 (ders os ρ1) := sOpN_at _ _ _
theorem ders_nil {ρ} : ders [] ρ = some [] := (rfl)
def dersC : Option D → Option (List D) → Option (List D)
  | some d, some ds => some (d :: ds)
  | _, _ => none
theorem dersC_some {d ds} : dersC (some d) (some ds) = some (d :: ds) := (rfl)
theorem ders_cons {o os ρ} : ders (o :: os) ρ = dersC (der o ρ) (ders os ρ) := by
  show (match der o ρ with
    | some d => (match ders os ρ with | some ds => some (d :: ds) | none => none)
    | none => none) = _
  cases der o ρ with
  | none => rfl
  | some d => cases ders os ρ <;> rfl
/-! ### tests -/
def truF (ρ : En) : Option Bool → R Bool
  | some b => .ok b ρ
  | none => .stuck
theorem truF_some {ρ b} : truF ρ (some b) = .ok b ρ := (rfl)
def truK (ρ : En) : Option D → R Bool
  | some d => truF ρ (truth d)
  | none => .stuck
theorem truK_some {ρ d} : truK ρ (some d) = truF ρ (truth d) := (rfl)
theorem sTruth_at {f ρ} : sTruth f ρ = (f ρ).bind fun o ρ1 => truK ρ1 (der o ρ1) := by
  unfold sTruth
  cases f ρ with
  | ok o ρ1 =>
    show (match der o ρ1 with
      | some d => (match truth d with | some b => R.ok b ρ1 | none => .stuck)
      | none => .stuck) = truK ρ1 (der o ρ1)
    cases der o ρ1 with
    | none => rfl
    | some d =>
      show (match truth d with | some b => R.ok b ρ1 | none => .stuck) = truF ρ1 (truth d)
      cases truth d <;> rfl
  | exc c as => rfl
  | stuck => rfl
theorem sTNot_at {c ρ} : sTNot c ρ = (c ρ).bind fun b ρ1 => .ok (!b) ρ1 := (rfl)
theorem sTAnd_at {c d ρ} : sTAnd c d ρ = (c ρ).bind fun b ρ1 => if b then d ρ1 else .ok false ρ1 := (rfl)
theorem sTOr_at {c d ρ} : sTOr c d ρ = (c ρ).bind fun b ρ1 => if b then .ok true ρ1 else d ρ1 := (rfl)
theorem sIte_at {c f g ρ} : sIte c f g ρ = (c ρ).bind fun b ρ1 => if b then f ρ1 else g ρ1 := (rfl)
def andK (o : Opd) (ρ : En) (g : En → R Opd) : Option D → R Opd
  | some d => (match truth d with
    | some true => g ρ
    | some false => .ok o ρ
    | none => .stuck)
  | none => .stuck
def orK (o : Opd) (ρ : En) (g : En → R Opd) : Option D → R Opd
  | some d => (match truth d with
    | some true => .ok o ρ
    | some false => g ρ
    | none => .stuck)
  | none => .stuck
theorem sAnd_at {f g ρ} : sAnd f g ρ = (f ρ).bind fun o ρ1 => andK o ρ1 g (der o ρ1) := by
  unfold sAnd
  cases f ρ with
  | ok o ρ1 =>
    show (match der o ρ1 with
      | some d => (match truth d with
        | some true => g ρ1
        | some false => .ok o ρ1
        | none => .stuck)
      | none => .stuck) = andK o ρ1 g (der o ρ1)
    cases der o ρ1 <;> rfl
  | exc c as => rfl
  | stuck => rfl
theorem sOr_at {f g ρ} : sOr f g ρ = (f ρ).bind fun o ρ1 => orK o ρ1 g (der o ρ1) := by
  unfold sOr
  cases f ρ with
  | ok o ρ1 =>
    show (match der o ρ1 with
      | some d => (match truth d with
        | some true => .ok o ρ1
        | some false => g ρ1
        | none => .stuck)
      | none => .stuck) = orK o ρ1 g (der o ρ1)
    cases der o ρ1 <;> rfl
  | exc c as => rfl
  | stuck => rfl
theorem andK_bl {o ρ g b} : andK o ρ g (some (.bl b)) = if b then g ρ else .ok o ρ := by cases b <;> rfl
theorem orK_bl {o ρ g b} : orK o ρ g (some (.bl b)) = if b then .ok o ρ else g ρ := by cases b <;> rfl
def notK (ρ : En) : Option D → R Opd
  | some d => (match truth d with
    | some b => .ok (.v false (.bl (!b))) ρ
    | none => .stuck)
  | none => .stuck
theorem sNot_at {f ρ} : sNot f ρ = (f ρ).bind fun o ρ1 => notK ρ1 (der o ρ1) := by
  unfold sNot
  cases f ρ with
  | ok o ρ1 =>
    show (match der o ρ1 with
      | some d => (match truth d with | some b => R.ok (Opd.v false (.bl (!b))) ρ1 | none => .stuck)
      | none => .stuck) = notK ρ1 (der o ρ1)
    cases der o ρ1 <;> rfl
  | exc c as => rfl
  | stuck => rfl
theorem notK_bl {ρ b} : notK ρ (some (.bl b)) = .ok (.v false (.bl (!b))) ρ := (rfl)
theorem truth_bl {b} : truth (.bl b) = some b := (rfl)
theorem truth_int {i} : truth (.int i) = some (i != 0) := (rfl)
theorem truth_lst {xs} : truth (.lst xs) = some (!xs.isEmpty) := (rfl)
theorem truth_tup {xs} : truth (.tup xs) = some (!xs.isEmpty) := (rfl)
theorem truth_non : truth .non = some false := (rfl)
def chK (p q : Int → Int → Bool) (h : En → R Opd) (ρ : En) : Option D → Option D → R Opd
  | some (.int i), some (.int j) => if p i j then (h ρ).bind fun o ρ2 => match der o ρ2 with
      | some (.int k) => .ok (.v false (.bl (q j k))) ρ2
      | _ => .stuck
    else .ok (.v false (.bl false)) ρ
  | _, _ => .stuck
abbrev iLt (i j : Int) : Bool := decide (i < j)
abbrev iLe (i j : Int) : Bool := decide (i ≤ j)
abbrev iGt (i j : Int) : Bool := decide (j < i)
abbrev iGe (i j : Int) : Bool := decide (j ≤ i)
theorem sChain_at {p q f g h ρ} : sChain p q f g h ρ = (f ρ).bind fun o ρ1 => (g ρ1).bind fun o2 ρ2 => chK p q h ρ2 (der o ρ2) (der o2 ρ2) := by
  unfold sChain sArgs sArgs sArgs
  cases f ρ with
  | ok o ρ1 =>
    simp only [bind_ok]
    cases g ρ1 with
    | ok p2 ρ2 =>
      simp only [bind_ok, ders]
      cases der o ρ2 with
      | none => rfl
      | some x =>
        cases der p2 ρ2 with
        | none => cases x <;> rfl
        | some y =>
          cases x <;> first
            | rfl
            | cases y <;> rfl
    | exc c as => rfl
    | stuck => rfl
  | exc c as => rfl
  | stuck => rfl
theorem chK_int {p q h ρ i j} : chK p q h ρ (some (.int i)) (some (.int j)) = if p i j then (h ρ).bind fun o ρ2 => match der o ρ2 with
      | some (.int k) => .ok (.v false (.bl (q j k))) ρ2
      | _ => .stuck
    else .ok (.v false (.bl false)) ρ := (rfl)
/-! ### statements -/
theorem sNil_at {ρ} : sNil ρ = .nx ρ := (rfl)
theorem sSeq_at {s t ρ} : sSeq s t ρ = (s ρ).seq t := (rfl)
theorem sIf_at {c s t ρ} : sIf c s t ρ = (c ρ).toS fun b ρ1 => if b then s ρ1 else t ρ1 := (rfl)
theorem sRet_at {f ρ} : sRet f ρ = (f ρ).toS fun o ρ1 => .rt o ρ1 := (rfl)
theorem sDrop_at {f ρ} : sDrop f ρ = (f ρ).toS fun _ ρ1 => .nx ρ1 := (rfl)
def setF (i : Nat) : Option (D × En) → Rs
  | some (d, ρ) => .nx (ρ.set i (some ⟨.frz, d⟩))
  | none => .stuck
def setK (i : Nat) (o : Opd) (ρ : En) : Rs := match o with
  | .v true d => .nx (ρ.set i (some ⟨.own, d⟩))
  | .v false d => .nx (ρ.set i (some ⟨.frz, d⟩))
  | .ali j => setF i (frzO j ρ ρ[j]?)
theorem setF_some {i d ρ} : setF i (some (d, ρ)) = .nx (ρ.set i (some ⟨.frz, d⟩)) := (rfl)
theorem setK_own {i d ρ} : setK i (.v true d) ρ = .nx (ρ.set i (some ⟨.own, d⟩)) := (rfl)
theorem setK_frz {i d ρ} : setK i (.v false d) ρ = .nx (ρ.set i (some ⟨.frz, d⟩)) := (rfl)
theorem setK_ali {i j ρ} : setK i (.ali j) ρ = setF i (frzO j ρ ρ[j]?) := (rfl)
theorem sSet_at {i f ρ} : sSet i f ρ = (f ρ).toS fun o ρ1 => setK i o ρ1 := by
  unfold sSet
  cases f ρ with
  | ok o ρ1 =>
    show (match bindS i o ρ1 with | some ρ2 => Rs.nx ρ2 | none => .stuck) = setK i o ρ1
    cases o with
    | v b d => cases b <;> rfl
    | ali j =>
      show (match (match frz1 (.ali j) ρ1 with | some (d, ρ1) => some (ρ1.set i (some ⟨.frz, d⟩)) | none => none) with | some ρ2 => Rs.nx ρ2 | none => .stuck) = setF i (frzO j ρ1 ρ1[j]?)
      rw [frz1_ali]
      cases frzO j ρ1 ρ1[j]? <;> rfl
  | exc c as => rfl
  | stuck => rfl
def augK (i : Nat) (g : Int → Int → Int) (f : En → R Opd) (ρ : En) : Option (Option Val) → Rs
  | some (some ⟨.frz, .int j⟩) => (f ρ).toS fun o ρ1 => (match o with
    | .v _ (.int k) => .nx (ρ1.set i (some ⟨.frz, .int (g j k)⟩))
    | _ => .stuck)
  | _ => .stuck
theorem sAug_at {i g f ρ} : sAug i g f ρ = augK i g f ρ ρ[i]? := by
  unfold sAug augK
  rfl
theorem augK_int {i g f ρ j} : augK i g f ρ (some (some ⟨.frz, .int j⟩)) = (f ρ).toS fun o ρ1 => (match o with
    | .v _ (.int k) => .nx (ρ1.set i (some ⟨.frz, .int (g j k)⟩))
    | _ => .stuck) := (rfl)
/-! ### displays -/
def tupK : Option (List D × En) → R Opd
  | some (ds, ρ) => if ds.length ≤ sizeLine then .ok (.v false (.tup ds)) ρ else .stuck
  | none => .stuck
def lstK : Option (List D × En) → R Opd
  | some (ds, ρ) => if ds.length ≤ sizeLine then .ok (.v true (.lst ds)) ρ else .stuck
  | none => .stuck
theorem tupK_some {ds ρ} : tupK (some (ds, ρ)) = if ds.length ≤ sizeLine then .ok (.v false (.tup ds)) ρ else .stuck := (rfl)
theorem lstK_some {ds ρ} : lstK (some (ds, ρ)) = if ds.length ≤ sizeLine then .ok (.v true (.lst ds)) ρ else .stuck := (rfl)
theorem sTup_at {fs ρ} : sTup fs ρ = (sArgs fs ρ).bind fun os ρ1 => tupK (frzs os ρ1) := by
  unfold sTup
  cases sArgs fs ρ with
  | ok os ρ1 =>
    show (match frzs os ρ1 with
      | some (ds, ρ2) => if ds.length ≤ sizeLine then R.ok (Opd.v false (.tup ds)) ρ2 else .stuck
      | none => .stuck) = tupK (frzs os ρ1)
    cases frzs os ρ1 <;> rfl
  | exc c as => rfl
  | stuck => rfl
theorem sLst_at {fs ρ} : sLst fs ρ = (sArgs fs ρ).bind fun os ρ1 => lstK (frzs os ρ1) := by
  unfold sLst
  cases sArgs fs ρ with
  | ok os ρ1 =>
    show (match frzs os ρ1 with
      | some (ds, ρ2) => if ds.length ≤ sizeLine then R.ok (Opd.v true (.lst ds)) ρ2 else .stuck
      | none => .stuck) = lstK (frzs os ρ1)
    cases frzs os ρ1 <;> rfl
  | exc c as => rfl
  | stuck => rfl
theorem sNewD_at {d ρ} : sNewD d ρ = .ok (.v true d) ρ := (rfl)
theorem size_lit : sizeLine = 16777216 := by decide
/-! ### calls -/
def pinL (l : List Nat) (j : Nat) : Bool := l.contains j
theorem pinL_at {l : List Nat} {j : Nat} : pinL l j = l.contains j := (rfl)
def normC (pin : Nat → Bool) (j : Nat) (o : Opd) : Option (List Opd × En) → Option (List Opd × En)
  | some (os, ρ) => (match o with
    | .v false d => some (.v false d :: os, ρ)
    | .v true d => if pin j then some (.v true d :: os, ρ) else some (.v false d :: os, ρ)
    | .ali i => if pin j && !(os.any (isAli i)) then some (.ali i :: os, ρ) else match frzO i ρ ρ[i]? with
        | some (d, ρ2) => some (.v false d :: os, ρ2)
        | none => none)
  | none => none
theorem normA_nil {pin j ρ} : normA pin j [] ρ = some ([], ρ) := (rfl)
theorem normA_cons {pin j o os ρ} : normA pin j (o :: os) ρ = normC pin j o (normA pin (j + 1) os ρ) := by
  conv => lhs; unfold normA
  cases normA pin (j + 1) os ρ with
  | none => rfl
  | some q =>
    obtain ⟨os', ρ1⟩ := q
    cases o with
    | v b d => cases b <;> rfl
    | ali i =>
      show (if pin j && !(os'.any (isAli i)) then some (Opd.ali i :: os', ρ1) else match frz1 (.ali i) ρ1 with
        | some (d', ρ2) => some (.v false d' :: os', ρ2)
        | none => none) = _
      rw [frz1_ali]
      rfl
theorem normC_frz {pin j d os ρ} : normC pin j (.v false d) (some (os, ρ)) = some (.v false d :: os, ρ) := (rfl)
theorem normC_own {pin j d os ρ} : normC pin j (.v true d) (some (os, ρ)) = if pin j then some (.v true d :: os, ρ) else some (.v false d :: os, ρ) := (rfl)
theorem normC_ali {pin j i os ρ} : normC pin j (.ali i) (some (os, ρ)) = if pin j && !(os.any (isAli i)) then some (.ali i :: os, ρ) else match frzO i ρ ρ[i]? with
        | some (d, ρ2) => some (.v false d :: os, ρ2)
        | none => none := (rfl)
def argO : Option (Option Val) → Option Val
  | some (some ⟨.own, d⟩) => some ⟨.own, d⟩
  | some (some ⟨.frz, d⟩) => some ⟨.frz, d⟩
  | _ => none
theorem argV_frz {d ρ} : argV (.v false d) ρ = some ⟨.frz, d⟩ := (rfl)
theorem argV_ownP {d ρ} : argV (.v true d) ρ = some ⟨.own, d⟩ := (rfl)
theorem argV_ali {i ρ} : argV (.ali i) ρ = argO ρ[i]? := by
  unfold argV argO
  rfl
theorem argO_own {d} : argO (some (some ⟨.own, d⟩)) = some ⟨.own, d⟩ := (rfl)
theorem argO_frz {d} : argO (some (some ⟨.frz, d⟩)) = some ⟨.frz, d⟩ := (rfl)
def argC : Option Val → Option (List Val) → Option (List Val)
  | some x, some xs => some (x :: xs)
  | _, _ => none
theorem argC_some {x xs} : argC (some x) (some xs) = some (x :: xs) := (rfl)
theorem argsV_nil {ρ} : argsV [] ρ = some [] := (rfl)
theorem argsV_cons {o os ρ} : argsV (o :: os) ρ = argC (argV o ρ) (argsV os ρ) := by
  conv => lhs; unfold argsV
  unfold argC
  cases argV o ρ with
  | none => rfl
  | some x => cases argsV os ρ <;> rfl
theorem outsOf_nil {j ρ} : outsOf j [] ρ = [] := (rfl)
theorem outsOf_v {j b d os ρ} : outsOf j (.v b d :: os) ρ = outsOf (j + 1) os ρ := (rfl)
def outsK (j i : Nat) (r : List (Nat × Nat)) : Option (Option Val) → List (Nat × Nat)
  | some (some ⟨.own, _⟩) => (j, i) :: r
  | _ => r
theorem outsOf_ali {j i os ρ} : outsOf j (.ali i :: os) ρ = outsK j i (outsOf (j + 1) os ρ) ρ[i]? := by
  show (match ρ[i]? with
    | some (some ⟨.own, _⟩) => (j, i) :: outsOf (j + 1) os ρ
    | _ => outsOf (j + 1) os ρ) = _
  unfold outsK
  rfl
theorem outsK_own {j i r d} : outsK j i r (some (some ⟨.own, d⟩)) = (j, i) :: r := (rfl)
theorem putOuts_nil {outs ρ} : putOuts outs [] ρ = ρ := (rfl)
def optJ (o : Option (Option Val)) : Option Val := match o with
  | some y => y
  | none => none
theorem putOuts_cons {outs k i r ρ} : putOuts outs ((k, i) :: r) ρ = (putOuts outs r ρ).set i (optJ outs[k]?) := (rfl)
theorem optJ_some {y} : optJ (some y) = y := (rfl)
def callR (os : List (Nat × Nat)) (ρ : En) : Rf → R Opd
  | .ok b d outs => .ok (.v b d) (putOuts outs os ρ)
  | .exc c as => .exc c as
  | .stuck => .stuck
theorem callR_ok {os ρ b d outs} : callR os ρ (.ok b d outs) = .ok (.v b d) (putOuts outs os ρ) := (rfl)
theorem callR_exc {os ρ c as} : callR os ρ (.exc c as) = .exc c as := (rfl)
def callA (φ : List Val → Rf) (os : List Opd) (ρ : En) : Option (List Val) → R Opd
  | some as => if ((outsOf 0 os ρ).map (·.2)).Nodup then callR (outsOf 0 os ρ) ρ (φ as) else .stuck
  | none => .stuck
def callN (φ : List Val → Rf) : Option (List Opd × En) → R Opd
  | some (os, ρ) => callA φ os ρ (argsV os ρ)
  | none => .stuck
theorem callA_some {φ os ρ as} : callA φ os ρ (some as) = if ((outsOf 0 os ρ).map (·.2)).Nodup then callR (outsOf 0 os ρ) ρ (φ as) else .stuck := (rfl)
theorem callN_some {φ os ρ} : callN φ (some (os, ρ)) = callA φ os ρ (argsV os ρ) := (rfl)
theorem sCall_at {pin φ fs ρ} : sCall pin φ fs ρ = (sArgs fs ρ).bind fun os ρ1 => callN φ (normA pin 0 os ρ1) := by
  unfold sCall
  cases sArgs fs ρ with
  | ok os ρ1 =>
    simp only [bind_ok]
    cases normA pin 0 os ρ1 with
    | none => rfl
    | some q =>
      obtain ⟨os', ρ2⟩ := q
      simp only [callN_some]
      cases argsV os' ρ2 with
      | none => rfl
      | some as =>
        simp only [callA_some]
        split
        · cases φ as <;> rfl
        · rfl
  | exc c as => rfl
  | stuck => rfl
/-! ### the end of a run -/
theorem endRun_nx {np pin as ρ} : endRun np pin as (.nx ρ) = .ok false .non (outE np pin as ρ) := (rfl)
theorem endRun_v {np pin as b d ρ} : endRun np pin as (.rt (.v b d) ρ) = .ok b d (outE np pin as ρ) := (rfl)
theorem endRun_exc {np pin as c es} : endRun np pin as (.exc c es) = .exc c es := (rfl)
def endO (np : Nat) (pin : List Nat) (as : List Val) (i : Nat) (ρ : En) : Option (Option Val) → Rf
  | some (some ⟨.own, d⟩) => if pin.contains i then .ok false d (outE np pin as (ρ.set i (some ⟨.frz, d⟩))) else .ok true d (outE np pin as ρ)
  | some (some ⟨.frz, d⟩) => .ok false d (outE np pin as ρ)
  | _ => .stuck
theorem endRun_ali {np pin as i ρ} : endRun np pin as (.rt (.ali i) ρ) = endO np pin as i ρ ρ[i]? := by
  unfold endRun
  dsimp only
  rw [frz1_ali]
  cases ρ[i]? with
  | none => simp only [frzO, endO]; split <;> rfl
  | some y =>
    cases y with
    | none => simp only [frzO, endO]; split <;> rfl
    | some x =>
      obtain ⟨m, d⟩ := x
      cases m
      · simp only [frzO, endO]; split <;> rfl
      · simp only [frzO, endO]
      · simp only [frzO, endO]; split <;> rfl
theorem endO_frz {np pin as i ρ d} : endO np pin as i ρ (some (some ⟨.frz, d⟩)) = .ok false d (outE np pin as ρ) := (rfl)
theorem endO_own {np pin as i ρ d} : endO np pin as i ρ (some (some ⟨.own, d⟩)) = if pin.contains i then .ok false d (outE np pin as (ρ.set i (some ⟨.frz, d⟩))) else .ok true d (outE np pin as ρ) := (rfl)
def outV (pin : List Nat) (as : List Val) (ρ : En) (j : Nat) : Option Val := if pin.contains j then optJ ρ[j]? else as[j]?
theorem outE_0 {pin as ρ} : outE 0 pin as ρ = [] := (rfl)
theorem outE_1 {pin as ρ} : outE 1 pin as ρ = [outV pin as ρ 0] := (rfl)
theorem outE_2 {pin as ρ} : outE 2 pin as ρ = [outV pin as ρ 0, outV pin as ρ 1] := (rfl)
theorem outE_3 {pin as ρ} : outE 3 pin as ρ = [outV pin as ρ 0, outV pin as ρ 1, outV pin as ρ 2] := (rfl)
theorem outE_4 {pin as ρ} : outE 4 pin as ρ = [outV pin as ρ 0, outV pin as ρ 1, outV pin as ρ 2, outV pin as ρ 3] := (rfl)
theorem outE_5 {pin as ρ} : outE 5 pin as ρ = [outV pin as ρ 0, outV pin as ρ 1, outV pin as ρ 2, outV pin as ρ 3, outV pin as ρ 4] := (rfl)
theorem outE_6 {pin as ρ} : outE 6 pin as ρ = [outV pin as ρ 0, outV pin as ρ 1, outV pin as ρ 2, outV pin as ρ 3, outV pin as ρ 4, outV pin as ρ 5] := (rfl)
theorem outV_at {pin as ρ j} : outV pin as ρ j = if pin.contains j then optJ ρ[j]? else as[j]? := (rfl)
end Ev

namespace Ev
open PySem PySem.Spec PyProof.Rows
/-! ## walks, loops, comprehensions -/
def seqK (ρ : En) : Option (Bool × List D) → R (List D)
  | some (_, xs) => .ok xs ρ
  | none => .stuck
theorem seqK_some {ρ b xs} : seqK ρ (some (b, xs)) = .ok xs ρ := (rfl)
def sqK : Option (D × En) → R (List D)
  | some (d, ρ) => seqK ρ (seqB d)
  | none => .stuck
theorem sqK_some {d ρ} : sqK (some (d, ρ)) = seqK ρ (seqB d) := (rfl)
theorem seqB_lst {xs} : seqB (.lst xs) = some (true, xs) := (rfl)
theorem seqB_tup {xs} : seqB (.tup xs) = some (false, xs) := (rfl)
theorem seqB_ktp {xs} : seqB (.ktp xs) = some (false, xs) := (rfl)
theorem seqB_scr {ns} : seqB (.scr ns) = some (true, ns.map .int) := (rfl)
theorem wSq_at {f ρ} : wSq f ρ = (f ρ).bind fun o ρ1 => sqK (frz1 o ρ1) := by
  unfold wSq
  cases f ρ with
  | ok o ρ1 =>
    simp only [bind_ok]
    cases frz1 o ρ1 with
    | none => rfl
    | some q =>
      obtain ⟨d, ρ2⟩ := q
      show (match seqB d with | some (_, xs) => R.ok xs ρ2 | none => .stuck) = seqK ρ2 (seqB d)
      cases seqB d <;> rfl
  | exc c as => rfl
  | stuck => rfl
def rg1K (ρ : En) : Option D → R (List D)
  | some (.int j) => if -(2 ^ 62) ≤ j ∧ j < 2 ^ 62 then .ok (rgD 0 j.toNat 1) ρ else .stuck
  | _ => .stuck
theorem rg1K_int {ρ j} : rg1K ρ (some (.int j)) = if -(2 ^ 62) ≤ j ∧ j < 2 ^ 62 then .ok (rgD 0 j.toNat 1) ρ else .stuck := (rfl)
theorem wRg1_at {f ρ} : wRg1 f ρ = (f ρ).bind fun o ρ1 => rg1K ρ1 (der o ρ1) := by
  unfold wRg1 sArgs sArgs
  cases f ρ with
  | ok o ρ1 =>
    simp only [bind_ok, ders]
    cases der o ρ1 with
    | none => rfl
    | some x => cases x <;> rfl
  | exc c as => rfl
  | stuck => rfl
def rg2K (ρ : En) : Option D → Option D → R (List D)
  | some (.int i), some (.int j) => if -(2 ^ 62) ≤ i ∧ i < 2 ^ 62 ∧ -(2 ^ 62) ≤ j ∧ j < 2 ^ 62 then .ok (rgD i (j - i).toNat 1) ρ else .stuck
  | _, _ => .stuck
theorem rg2K_int {ρ i j} : rg2K ρ (some (.int i)) (some (.int j)) = if -(2 ^ 62) ≤ i ∧ i < 2 ^ 62 ∧ -(2 ^ 62) ≤ j ∧ j < 2 ^ 62 then .ok (rgD i (j - i).toNat 1) ρ else .stuck := (rfl)
theorem wRg2_at {f g ρ} : wRg2 f g ρ = (f ρ).bind fun o ρ1 => (g ρ1).bind fun p ρ2 => rg2K ρ2 (der o ρ2) (der p ρ2) := by
  unfold wRg2 sArgs sArgs sArgs
  cases f ρ with
  | ok o ρ1 =>
    simp only [bind_ok]
    cases g ρ1 with
    | ok p ρ2 =>
      simp only [bind_ok, ders]
      cases der o ρ2 with
      | none => rfl
      | some x =>
        cases der p ρ2 with
        | none => cases x <;> rfl
        | some y =>
          cases x <;> first
            | rfl
            | cases y <;> rfl
    | exc c as => rfl
    | stuck => rfl
  | exc c as => rfl
  | stuck => rfl
def zip2 (ρ : En) : Option (Bool × List D) → Option (Bool × List D) → R (List D)
  | some (k, xs), some (j, ys) => if k = j then .ok (zipD xs ys) ρ else .stuck
  | _, _ => .stuck
theorem zip2_some {ρ k xs j ys} : zip2 ρ (some (k, xs)) (some (j, ys)) = if k = j then .ok (zipD xs ys) ρ else .stuck := (rfl)
def zipK : Option (List D × En) → R (List D)
  | some ([x, y], ρ) => zip2 ρ (seqB x) (seqB y)
  | _ => .stuck
theorem zipK_some {x y ρ} : zipK (some ([x, y], ρ)) = zip2 ρ (seqB x) (seqB y) := (rfl)
theorem wZip_at {f g ρ} : wZip f g ρ = (sArgs [f, g] ρ).bind fun os ρ1 => zipK (frzs os ρ1) := by
  unfold wZip
  cases sArgs [f, g] ρ with
  | ok os ρ1 =>
    simp only [bind_ok]
    cases frzs os ρ1 with
    | none => rfl
    | some q =>
      obtain ⟨ds, ρ2⟩ := q
      match ds with
      | [] => rfl
      | [x] => rfl
      | [x, y] =>
        show (match seqB x, seqB y with | some (k, xs), some (j, ys) => if k = j then R.ok (zipD xs ys) ρ2 else .stuck | _, _ => .stuck) = zip2 ρ2 (seqB x) (seqB y)
        cases seqB x with
        | none => rfl
        | some a => cases seqB y <;> rfl
      | _ :: _ :: _ :: _ => rfl
  | exc c as => rfl
  | stuck => rfl
/-! ### targets -/
theorem bd_nm {i d ρ} : (Tgt.nm i).bd d ρ = some (ρ.set i (some ⟨.frz, d⟩)) := (rfl)
theorem bd_tup {is ds ρ} : (Tgt.tp is).bd (.tup ds) ρ = bNames is ds ρ := (rfl)
theorem bd_ktp {is ds ρ} : (Tgt.tp is).bd (.ktp ds) ρ = bNames is ds ρ := (rfl)
theorem bNames_nil {ρ} : bNames [] [] ρ = some ρ := (rfl)
theorem bNames_cons {i is d ds ρ} : bNames (i :: is) (d :: ds) ρ = bNames is ds (ρ.set i (some ⟨.frz, d⟩)) := (rfl)
/-! ### loops -/
def lpB (body : SS) : Option En → Rs
  | some ρ => body ρ
  | none => .stuck
theorem lpB_some {body ρ} : lpB body (some ρ) = body ρ := (rfl)
theorem loopS_nil {bd body ρ} : loopS bd body [] ρ = .nx ρ := (rfl)
theorem loopS_cons {bd body x xs ρ} : loopS bd body (x :: xs) ρ = (lpB body (bd x ρ)).loop (loopS bd body xs) := by
  show (match bd x ρ with | some ρ1 => (body ρ1).loop (loopS bd body xs) | none => .stuck) = _
  cases bd x ρ <;> rfl
theorem sFor_at {w t b ρ} : sFor w t b ρ = (w ρ).toS fun xs ρ1 => loopS t.bd b xs ρ1 := (rfl)
theorem loopS_inv {bd : D → En → Option En} {body : SS} (I : Nat → En → Prop) {xs : List D} {ρ : En} (h : ∀ (j : Nat) x ρ, xs[j]? = some x → I j ρ → ∃ ρ', lpB body (bd x ρ) = .nx ρ' ∧ I (j + 1) ρ') (h0 : I 0 ρ) : ∃ ρ', loopS bd body xs ρ = .nx ρ' ∧ I xs.length ρ' := by
  induction xs generalizing ρ I with
  | nil => exact ⟨ρ, rfl, h0⟩
  | cons x xs ih =>
    obtain ⟨ρ1, e1, h1⟩ := h 0 x ρ rfl h0
    obtain ⟨ρ2, e2, h2⟩ := ih (fun j => I (j + 1)) (fun j y ρ hy hi => h (j + 1) y ρ hy hi) h1
    exact ⟨ρ2, by rw [loopS_cons, e1]; exact e2, h2⟩
theorem sWhile_at {n c s ρ} : sWhile (n + 1) c s ρ = (c ρ).toS fun b ρ1 => if b then (s ρ1).loop (sWhile n c s) else .nx ρ1 := (rfl)
/-! ### comprehensions -/
def lcF (vs : List Nat) : Option (D × En) → R (Option D)
  | some (d, ρ) => .ok (some d) (wipeE ρ vs)
  | none => .stuck
theorem lcF_some {vs d ρ} : lcF vs (some (d, ρ)) = .ok (some d) (wipeE ρ vs) := (rfl)
def lcB (tt : STe) (f : En → R Opd) (vs : List Nat) : Option En → R (Option D)
  | some ρ1 => (tt ρ1).nox.bind fun b ρ2 => if b then (f ρ2).nox.bind fun o ρ3 => lcF vs (frz1 o ρ3) else .ok none (wipeE ρ2 vs)
  | none => .stuck
theorem lcB_some {tt f vs ρ1} : lcB tt f vs (some ρ1) = (tt ρ1).nox.bind fun b ρ2 => if b then (f ρ2).nox.bind fun o ρ3 => lcF vs (frz1 o ρ3) else .ok none (wipeE ρ2 vs) := (rfl)
def lcN (bd : D → En → Option En) (tt : STe) (f : En → R Opd) (vs : List Nat) (xs acc : List D) (ρ : En) : Option D → R (List D)
  | some d => if acc.length < sizeLine then lcS bd tt f vs xs (acc ++ [d]) ρ else .stuck
  | none => lcS bd tt f vs xs acc ρ
theorem lcS_cons {bd tt f vs x xs acc ρ} : lcS bd tt f vs (x :: xs) acc ρ = (lcB tt f vs (bd x ρ)).bind fun y ρ' => lcN bd tt f vs xs acc ρ' y := by
  show (match bd x ρ with
    | some ρ1 => (tt ρ1).nox.bind fun b ρ2 => if b then (f ρ2).nox.bind fun o ρ3 => match frz1 o ρ3 with
        | some (d, ρ4) => if acc.length < sizeLine then lcS bd tt f vs xs (acc ++ [d]) (wipeE ρ4 vs) else .stuck
        | none => .stuck
      else lcS bd tt f vs xs acc (wipeE ρ2 vs)
    | none => .stuck) = _
  cases bd x ρ with
  | none => rfl
  | some ρ1 =>
    simp only [lcB_some]
    cases (tt ρ1).nox with
    | ok b ρ2 =>
      simp only [bind_ok]
      cases b with
      | false => rfl
      | true =>
        simp only [if_true]
        cases (f ρ2).nox with
        | ok o ρ3 =>
          simp only [bind_ok]
          cases frz1 o ρ3 with
          | none => rfl
          | some q => rfl
        | exc c as => rfl
        | stuck => rfl
    | exc c as => rfl
    | stuck => rfl
def lcE (vs : List Nat) (ρ2 : En) : R (List D) → R Opd
  | .ok ds ρ3 => .ok (.v true (.lst ds)) (restE ρ2 ρ3 vs)
  | _ => .stuck
theorem lcE_ok {vs ρ2 ds ρ3} : lcE vs ρ2 (.ok ds ρ3) = .ok (.v true (.lst ds)) (restE ρ2 ρ3 vs) := (rfl)
def lcH (t : Tgt) (tt : STe) (f : En → R Opd) (vs : List Nat) (xs : List D) : Option En → R Opd
  | some ρ2 => lcE vs ρ2 (lcS t.bd tt f vs xs [] (wipeE ρ2 vs))
  | none => .stuck
theorem lcH_some {t tt f vs xs ρ2} : lcH t tt f vs xs (some ρ2) = lcE vs ρ2 (lcS t.bd tt f vs xs [] (wipeE ρ2 vs)) := (rfl)
theorem sLc_at {w t tt f vs ρ} : sLc w t tt f vs ρ = (w ρ).bind fun xs ρ1 => lcH t tt f vs xs (hideS vs ρ1) := by
  unfold sLc
  cases w ρ with
  | ok xs ρ1 =>
    simp only [bind_ok]
    cases hideS vs ρ1 with
    | none => rfl
    | some ρ2 =>
      show (match lcS t.bd tt f vs xs [] (wipeE ρ2 vs) with
        | .ok ds ρ3 => R.ok (Opd.v true (.lst ds)) (restE ρ2 ρ3 vs)
        | _ => .stuck) = lcE vs ρ2 (lcS t.bd tt f vs xs [] (wipeE ρ2 vs))
      cases lcS t.bd tt f vs xs [] (wipeE ρ2 vs) <;> rfl
  | exc c as => rfl
  | stuck => rfl
theorem sYes_at {ρ} : sYes ρ = .ok true ρ := (rfl)
/-- each item by itself -/
theorem lcS_map {bd : D → En → Option En} {tt : STe} {f : En → R Opd} {vs : List Nat} {ρ : En} {xs : List D} {acc : List D} (g : D → Option D) (h : ∀ x ∈ xs, lcB tt f vs (bd x ρ) = .ok (g x) ρ) (hl : acc.length + xs.length ≤ sizeLine) : lcS bd tt f vs xs acc ρ = .ok (acc ++ xs.filterMap g) ρ := by
  induction xs generalizing acc with
  | nil => show R.ok acc ρ = _; simp
  | cons x xs ih =>
    rw [lcS_cons, h x List.mem_cons_self, bind_ok]
    have h' : ∀ y ∈ xs, lcB tt f vs (bd y ρ) = .ok (g y) ρ := fun y hy => h y (List.mem_cons_of_mem _ hy)
    have hl2 : acc.length + (xs.length + 1) ≤ sizeLine := hl
    cases e : g x with
    | none =>
      show lcS bd tt f vs xs acc ρ = _
      rw [ih h' (by omega), List.filterMap_cons, e]
    | some d =>
      show (if acc.length < sizeLine then lcS bd tt f vs xs (acc ++ [d]) ρ else .stuck) = _
      rw [if_pos (by omega), ih h' (by rw [List.length_append]; simp; omega), List.filterMap_cons, e]
      simp
/-- .. with a state -/
theorem lcS_inv {bd : D → En → Option En} {tt : STe} {f : En → R Opd} {vs : List Nat} {ρ : En} {xs : List D} {acc : List D} (I : Nat → List D → En → Prop) (h : ∀ (j : Nat) x acc ρ, xs[j]? = some x → I j acc ρ → ∃ y ρ', lcB tt f vs (bd x ρ) = .ok y ρ' ∧ I (j + 1) (acc ++ y.toList) ρ') (h0 : I 0 acc ρ) (hl : acc.length + xs.length ≤ sizeLine) :
    ∃ ds ρ', lcS bd tt f vs xs acc ρ = .ok ds ρ' ∧ I xs.length ds ρ' ∧ ds.length ≤ acc.length + xs.length := by
  induction xs generalizing acc ρ I with
  | nil => exact ⟨acc, ρ, rfl, h0, by simp⟩
  | cons x xs ih =>
    obtain ⟨y, ρ1, e1, h1⟩ := h 0 x acc ρ rfl h0
    have hl2 : acc.length + (xs.length + 1) ≤ sizeLine := hl
    have yl : y.toList.length ≤ 1 := by cases y <;> simp
    obtain ⟨ds, ρ2, e2, h2, h3⟩ := ih (acc := acc ++ y.toList) (fun j => I (j + 1)) (fun j y acc ρ hy hi => h (j + 1) y acc ρ hy hi) h1 (by rw [List.length_append]; omega)
    refine ⟨ds, ρ2, ?_, h2, by rw [List.length_append] at h3; simp only [List.length_cons]; omega⟩
    rw [lcS_cons, e1, bind_ok]
    cases y with
    | none =>
      show lcS bd tt f vs xs acc ρ1 = _
      simpa using e2
    | some d =>
      show (if acc.length < sizeLine then lcS bd tt f vs xs (acc ++ [d]) ρ1 else .stuck) = _
      rw [if_pos (by omega)]
      exact e2
theorem hideS_nil {ρ} : hideS [] ρ = some ρ := (rfl)
def hideK (vs : List Nat) (v : Nat) (ρ : En) : Option (Option Val) → Option En
  | some (some ⟨.own, d⟩) => hideS vs (ρ.set v (some ⟨.frz, d⟩))
  | some (some ⟨.lck, _⟩) => none
  | _ => hideS vs ρ
theorem hideS_cons {v vs ρ} : hideS (v :: vs) ρ = hideK vs v ρ ρ[v]? := by
  show (match ρ[v]? with
    | some (some ⟨.own, d⟩) => hideS vs (ρ.set v (some ⟨.frz, d⟩))
    | some (some ⟨.lck, _⟩) => none
    | _ => hideS vs ρ) = _
  unfold hideK
  rfl
theorem hideK_none {vs v ρ} : hideK vs v ρ (some none) = hideS vs ρ := (rfl)
theorem hideK_frz {vs v ρ d} : hideK vs v ρ (some (some ⟨.frz, d⟩)) = hideS vs ρ := (rfl)
theorem hideK_own {vs v ρ d} : hideK vs v ρ (some (some ⟨.own, d⟩)) = hideS vs (ρ.set v (some ⟨.frz, d⟩)) := (rfl)
theorem wipeE_nil {ρ} : wipeE ρ [] = ρ := (rfl)
theorem wipeE_cons {ρ v vs} : wipeE ρ (v :: vs) = (wipeE ρ vs).set v none := (rfl)
theorem restE_nil {ρ2 ρ} : restE ρ2 ρ [] = ρ := (rfl)
theorem restE_cons {ρ2 ρ v vs} : restE ρ2 ρ (v :: vs) = (restE ρ2 ρ vs).set v (optJ ρ2[v]?) := (rfl)
/-! ### methods, stores -/
def mutF (i : Nat) (op : D → List D → Option (D × D)) (ds : List D) (ρ : En) : Option (Option Val) → R Opd
  | some (some ⟨.own, d⟩) => (match op d ds with
    | some (d', r) => .ok (.v false r) (ρ.set i (some ⟨.own, d'⟩))
    | none => .stuck)
  | _ => .stuck
theorem putSlot_at {i op ds ρ} : putSlot i op ds ρ = mutF i op ds ρ ρ[i]? := by
  unfold putSlot mutF
  rfl
def mutP (ρ : En) (i : Nat) : Option (D × D) → R Opd
  | some (d', r) => .ok (.v false r) (ρ.set i (some ⟨.own, d'⟩))
  | none => .stuck
theorem mutP_some {ρ i d' r} : mutP ρ i (some (d', r)) = .ok (.v false r) (ρ.set i (some ⟨.own, d'⟩)) := (rfl)
theorem mutF_own {i op ds ρ d} : mutF i op ds ρ (some (some ⟨.own, d⟩)) = mutP ρ i (op d ds) := by
  show (match op d ds with
    | some (d', r) => R.ok (Opd.v false r) (ρ.set i (some ⟨.own, d'⟩))
    | none => .stuck) = _
  cases op d ds <;> rfl
def mutQ (i : Nat) (op : D → List D → Option (D × D)) : Option (List D × En) → R Opd
  | some (ds, ρ) => mutF i op ds ρ ρ[i]?
  | none => .stuck
theorem mutQ_some {i op ds ρ} : mutQ i op (some (ds, ρ)) = mutF i op ds ρ ρ[i]? := (rfl)
def mutK (i : Nat) (ty : D → Bool) (op : D → List D → Option (D × D)) (fs : List (En → R Opd)) (ρ : En) : Option (Option Val) → R Opd
  | some (some ⟨.own, d0⟩) => if ty d0 then (sArgs fs ρ).bind fun os ρ1 => mutQ i op (frzs os ρ1) else .stuck
  | _ => .stuck
theorem mutK_own {i ty op fs ρ d0} : mutK i ty op fs ρ (some (some ⟨.own, d0⟩)) = if ty d0 then (sArgs fs ρ).bind fun os ρ1 => mutQ i op (frzs os ρ1) else .stuck := (rfl)
theorem sMut_at {i ty op fs ρ} : sMut i ty op fs ρ = mutK i ty op fs ρ ρ[i]? := by
  unfold sMut
  cases ρ[i]? with
  | none => rfl
  | some y =>
    cases y with
    | none => rfl
    | some x =>
      obtain ⟨m, d⟩ := x
      cases m with
      | frz => rfl
      | lck => rfl
      | own =>
        simp only [mutK_own]
        split
        · cases sArgs fs ρ with
          | ok os ρ1 =>
            simp only [bind_ok]
            cases frzs os ρ1 with
            | none => rfl
            | some q =>
              show putSlot i op q.1 q.2 = _
              rw [putSlot_at]
              rfl
          | exc c as => rfl
          | stuck => rfl
        · rfl
theorem isLst_lst {xs} : isLst (.lst xs) = true := (rfl)
def extE (i : Nat) (zs : List D) (ρ : En) : Option (Option Val) → R Opd
  | some (some ⟨.own, .lst xs⟩) => if xs.length + zs.length ≤ sizeLine then .ok (.v false .non) (ρ.set i (some ⟨.own, .lst (xs ++ zs)⟩)) else .stuck
  | _ => .stuck
theorem extE_own {i zs ρ xs} : extE i zs ρ (some (some ⟨.own, .lst xs⟩)) = if xs.length + zs.length ≤ sizeLine then .ok (.v false .non) (ρ.set i (some ⟨.own, .lst (xs ++ zs)⟩)) else .stuck := (rfl)
def extD (i : Nat) (ρ : En) : Option D → R Opd
  | some (.lst zs) => extE i zs ρ ρ[i]?
  | _ => .stuck
theorem extD_lst {i ρ zs} : extD i ρ (some (.lst zs)) = extE i zs ρ ρ[i]? := (rfl)
def extK (i : Nat) (f : En → R Opd) (ρ : En) : Option (Option Val) → R Opd
  | some (some ⟨.own, .lst _⟩) => (f ρ).bind fun o ρ1 => extD i ρ1 (der o ρ1)
  | _ => .stuck
theorem extK_own {i f ρ xs} : extK i f ρ (some (some ⟨.own, .lst xs⟩)) = (f ρ).bind fun o ρ1 => extD i ρ1 (der o ρ1) := (rfl)
theorem sExt_at {i f ρ} : sExt i f ρ = extK i f ρ ρ[i]? := by
  unfold sExt
  cases ρ[i]? with
  | none => rfl
  | some y =>
    cases y with
    | none => rfl
    | some x =>
      obtain ⟨m, d⟩ := x
      cases m with
      | frz => cases d <;> rfl
      | lck => cases d <;> rfl
      | own =>
        cases d with
        | lst xs =>
          simp only [extK_own]
          unfold sArgs sArgs
          cases f ρ with
          | ok o ρ1 =>
            simp only [bind_ok, ders]
            cases der o ρ1 with
            | none => rfl
            | some z => cases z <;> rfl
          | exc c as => rfl
          | stuck => rfl
        | _ => rfl
def pairsK : Option (List D × En) → R Opd
  | some (ds, ρ) => (match pairsD ds with
    | some l => if l.length ≤ 15 then .ok (.v true (.dK (mergeD [] l))) ρ else .stuck
    | none => .stuck)
  | none => .stuck
theorem sDisp_at {fs ρ} : sDisp fs ρ = (sArgs (flat2 fs) ρ).bind fun os ρ1 => pairsK (frzs os ρ1) := by
  unfold sDisp
  cases sArgs (flat2 fs) ρ with
  | ok os ρ1 =>
    simp only [bind_ok]
    cases frzs os ρ1 <;> rfl
  | exc c as => rfl
  | stuck => rfl
theorem flat2_nil : flat2 [] = [] := (rfl)
theorem flat2_cons {f g r} : flat2 ((f, g) :: r) = f :: g :: flat2 r := (rfl)
def putE (i : Nat) (dk dv : D) (ρ : En) : Option (Option Val) → Rs
  | some (some ⟨.own, d⟩) => (match oSetL d [dk, dv] with
    | some (d', _) => .nx (ρ.set i (some ⟨.own, d'⟩))
    | none => .stuck)
  | _ => .stuck
def putQ (ρ : En) (i : Nat) : Option (D × D) → Rs
  | some (d', _) => .nx (ρ.set i (some ⟨.own, d'⟩))
  | none => .stuck
theorem putQ_some {ρ i d' r} : putQ ρ i (some (d', r)) = .nx (ρ.set i (some ⟨.own, d'⟩)) := (rfl)
theorem putE_own {i dk dv ρ d} : putE i dk dv ρ (some (some ⟨.own, d⟩)) = putQ ρ i (oSetL d [dk, dv]) := by
  show (match oSetL d [dk, dv] with
    | some (d', _) => Rs.nx (ρ.set i (some ⟨.own, d'⟩))
    | none => .stuck) = _
  cases oSetL d [dk, dv] <;> rfl
def putD (i : Nat) (dk : D) : Option (D × En) → Rs
  | some (dv, ρ) => putE i dk dv ρ ρ[i]?
  | none => .stuck
theorem putD_some {i dk dv ρ} : putD i dk (some (dv, ρ)) = putE i dk dv ρ ρ[i]? := (rfl)
def putF (i : Nat) (ov : Opd) (ρ : En) : Option D → Rs
  | some dk => putD i dk (frz1 ov ρ)
  | none => .stuck
theorem putF_some {i ov ρ dk} : putF i ov ρ (some dk) = putD i dk (frz1 ov ρ) := (rfl)
def putK (i : Nat) (fv fk : En → R Opd) (ρ : En) : Option (Option Val) → Rs
  | some (some _) => (fv ρ).toS fun ov ρ1 => (fk ρ1).toS fun ok ρ2 => putF i ov ρ2 (der ok ρ2)
  | _ => .stuck
theorem putK_some {i fv fk ρ x} : putK i fv fk ρ (some (some x)) = (fv ρ).toS fun ov ρ1 => (fk ρ1).toS fun ok ρ2 => putF i ov ρ2 (der ok ρ2) := (rfl)
theorem sPut_at {i fv fk ρ} : sPut i fv fk ρ = putK i fv fk ρ ρ[i]? := by
  unfold sPut
  cases ρ[i]? with
  | none => rfl
  | some y =>
    cases y with
    | none => rfl
    | some x =>
      simp only [putK_some]
      unfold sArgs sArgs sArgs
      cases fv ρ with
      | ok ov ρ1 =>
        simp only [bind_ok, toS_ok]
        cases fk ρ1 with
        | ok ok ρ2 =>
          simp only [bind_ok, toS_ok]
          cases der ok ρ2 with
          | none => rfl
          | some dk =>
            simp only [putF_some]
            cases frz1 ov ρ2 with
            | none => rfl
            | some q =>
              show (match q.2[i]? with
                | some (some ⟨.own, d⟩) => (match oSetL d [dk, q.1] with
                  | some (d', _) => Rs.nx (q.2.set i (some ⟨.own, d'⟩))
                  | none => .stuck)
                | _ => .stuck) = putE i dk q.1 q.2 q.2[i]?
              unfold putE
              rfl
        | exc c as => rfl
        | stuck => rfl
      | exc c as => rfl
      | stuck => rfl
/-! ### several names, exceptions -/
def parK (is : List Nat) : Option (List Opd × En) → Rs
  | some (os, ρ) => (match bindVs is os ρ with
    | some ρ3 => .nx ρ3
    | none => .stuck)
  | none => .stuck
theorem sPar_at {is fs ρ} : sPar is fs ρ = (sArgs fs ρ).toS fun os ρ1 => parK is (normB os ρ1) := by
  unfold sPar
  cases sArgs fs ρ with
  | ok os ρ1 =>
    simp only [toS_ok]
    cases normB os ρ1 <;> rfl
  | exc c as => rfl
  | stuck => rfl
def parB : Option En → Rs
  | some ρ => .nx ρ
  | none => .stuck
theorem parB_some {ρ} : parB (some ρ) = .nx ρ := (rfl)
theorem parK_some {is os ρ} : parK is (some (os, ρ)) = parB (bindVs is os ρ) := by
  show (match bindVs is os ρ with | some ρ3 => Rs.nx ρ3 | none => .stuck) = _
  cases bindVs is os ρ <;> rfl
def normBC (o : Opd) : Option (List Opd × En) → Option (List Opd × En)
  | some (os, ρ) => (match o with
    | .v b d => some (.v b d :: os, ρ)
    | .ali i => match frzO i ρ ρ[i]? with
      | some (d, ρ2) => some (.v false d :: os, ρ2)
      | none => none)
  | none => none
theorem normB_nil {ρ} : normB [] ρ = some ([], ρ) := (rfl)
theorem normB_cons {o os ρ} : normB (o :: os) ρ = normBC o (normB os ρ) := by
  conv => lhs; unfold normB
  cases normB os ρ with
  | none => rfl
  | some q =>
    obtain ⟨os', ρ1⟩ := q
    cases o with
    | v b d => rfl
    | ali i =>
      show (match frz1 (.ali i) ρ1 with
        | some (d', ρ2) => some (Opd.v false d' :: os', ρ2)
        | none => none) = _
      rw [frz1_ali]
      rfl
theorem normBC_v {b d os ρ} : normBC (.v b d) (some (os, ρ)) = some (.v b d :: os, ρ) := (rfl)
theorem bindVs_nil {ρ} : bindVs [] [] ρ = some ρ := (rfl)
theorem bindVs_frz {i is d os ρ} : bindVs (i :: is) (.v false d :: os) ρ = bindVs is os (ρ.set i (some ⟨.frz, d⟩)) := (rfl)
theorem bindVs_own {i is d os ρ} : bindVs (i :: is) (.v true d :: os) ρ = bindVs is os (ρ.set i (some ⟨.own, d⟩)) := (rfl)
def setTK (t : Tgt) : Option (D × En) → Rs
  | some (d, ρ) => parB (t.bd d ρ)
  | none => .stuck
theorem setTK_some {t d ρ} : setTK t (some (d, ρ)) = parB (t.bd d ρ) := (rfl)
theorem sSetT_at {t f ρ} : sSetT t f ρ = (f ρ).toS fun o ρ1 => setTK t (frz1 o ρ1) := by
  unfold sSetT
  cases f ρ with
  | ok o ρ1 =>
    simp only [toS_ok]
    cases frz1 o ρ1 with
    | none => rfl
    | some q =>
      show (match t.bd q.1 q.2 with | some ρ3 => Rs.nx ρ3 | none => .stuck) = parB (t.bd q.1 q.2)
      cases t.bd q.1 q.2 <;> rfl
  | exc c as => rfl
  | stuck => rfl
def raiseK (c : Nat) (nms : List Str) : Option (List D × En) → Rs
  | some (ds, _) => if ds.length = nms.length ∧ nms ≠ [] ∧ nms.length ≤ 1000 then .exc c (nms.zip ds).reverse else .stuck
  | none => .stuck
theorem raiseK_some {c nms ds ρ} : raiseK c nms (some (ds, ρ)) = if ds.length = nms.length ∧ nms ≠ [] ∧ nms.length ≤ 1000 then .exc c (nms.zip ds).reverse else .stuck := (rfl)
theorem sRaise_at {c nms fs ρ} : sRaise c nms fs ρ = (sArgs fs ρ).toS fun os ρ1 => raiseK c nms (frzs os ρ1) := by
  unfold sRaise
  cases sArgs fs ρ with
  | ok os ρ1 =>
    simp only [toS_ok]
    cases frzs os ρ1 with
    | none => rfl
    | some q => obtain ⟨ds, ρ2⟩ := q; rfl
  | exc c as => rfl
  | stuck => rfl
end Ev

namespace Ev
open PySem PySem.Spec PyProof.Rows
/-! ## operators upon data that is known -/
theorem eqv_of {x y : D} {p q : PyData} (h1 : toPy x = some p) (h2 : toPy y = some q) (s1 : SeqAt.shaped p = true) (s2 : SeqAt.shaped q = true) : dEqv x y = some (PyData.eqv p q) := by
  unfold dEqv
  rw [h1]
  dsimp only
  rw [h2]
  dsimp only
  rw [s1, s2]
  rfl
theorem dEq_of {x y : D} {b : Bool} (h : dEqv x y = some b) : dEq x y = some (false, .bl b) := by unfold dEq; rw [h]
theorem dNe_of {x y : D} {b : Bool} (h : dEqv x y = some b) : dNe x y = some (false, .bl (!b)) := by unfold dNe; rw [h]
theorem eqv_ii {i j : Int} : dEqv (.int i) (.int j) = some (decide (i = j)) := by
  rw [eqv_of (p := .int i) (q := .int j) rfl rfl rfl rfl]
  show some (i == j) = _
  by_cases h : i = j <;> simp [h]
theorem eq_ii {i j : Int} : dEq (.int i) (.int j) = some (false, .bl (decide (i = j))) := dEq_of eqv_ii
theorem ne_ii {i j : Int} : dNe (.int i) (.int j) = some (false, .bl (!decide (i = j))) := dNe_of eqv_ii
theorem add_ii {i j : Int} : dAdd (.int i) (.int j) = some (false, .int (i + j)) := (rfl)
theorem subt_ii {i j : Int} : dSub (.int i) (.int j) = some (false, .int (i - j)) := (rfl)
theorem neg_i {i : Int} : dNeg (.int i) = some (false, .int (-i)) := (rfl)
theorem mul_ii {i j : Int} (h : mulOk i j = true) : dMul (.int i) (.int j) = some (false, .int (i * j)) := by
  show (if mulOk i j then some (false, D.int (i * j)) else none) = _
  rw [h]; rfl
theorem mod_ii {i j : Int} (h : j ≠ 0) : dMod (.int i) (.int j) = some (false, .int (i.fmod j)) := by
  show (if modOk i j then some (false, D.int (i.fmod j)) else none) = _
  rw [show modOk i j = true from decide_eq_true h]; rfl
theorem div_ii {i j : Int} (h : j ≠ 0) (h2 : j.natAbs < 1073741824) : dDiv (.int i) (.int j) = some (false, .int (i.fdiv j)) := by
  show (if divOk i j || divOkW i j then some (false, D.int (i.fdiv j)) else none) = _
  rw [show divOk i j = true by unfold divOk; rw [decide_eq_true h, decide_eq_true h2]; rfl]; rfl
theorem lt_ii {i j : Int} : dLt (.int i) (.int j) = some (false, .bl (decide (i < j))) := (rfl)
theorem le_ii {i j : Int} : dLe (.int i) (.int j) = some (false, .bl (decide (i ≤ j))) := (rfl)
theorem gt_ii {i j : Int} : dGt (.int i) (.int j) = some (false, .bl (decide (j < i))) := (rfl)
theorem ge_ii {i j : Int} : dGe (.int i) (.int j) = some (false, .bl (decide (j ≤ i))) := (rfl)
theorem small_l {i j : Int} (h : small64 i = true) : mulOk i j = true := by unfold mulOk; rw [h]; simp
theorem small_r {i j : Int} (h : small64 j = true) : mulOk i j = true := by unfold mulOk; rw [h]; simp
theorem small_of {i : Int} (h1 : -(2 ^ 64) < i) (h2 : i < 2 ^ 64) : small64 i = true := by unfold small64; rw [decide_eq_true h1, decide_eq_true h2]; rfl
theorem fInt_i {i : Int} : fInt (.int i) = some (false, .int i) := (rfl)
theorem fLen_l {xs} : fLen (.lst xs) = some (false, .int xs.length) := (rfl)
theorem fLen_t {xs} : fLen (.tup xs) = some (false, .int xs.length) := (rfl)
theorem fLen_k {kvs} : fLen (.dT kvs) = some (false, .int kvs.length) := (rfl)
theorem fTup_l {xs} : fTuple (.lst xs) = some (false, .tup xs) := (rfl)
theorem fTup_t {xs} : fTuple (.tup xs) = some (false, .tup xs) := (rfl)
theorem fList_l {xs} : fList (.lst xs) = some (true, .lst xs) := (rfl)
theorem fList_t {xs} : fList (.tup xs) = some (true, .lst xs) := (rfl)
theorem intsOf_mapP : ∀ r : List Int, intsOf (r.map .int) = some r
  | [] => rfl
  | i :: r => by
    show (match intsOf (r.map .int) with | some ns => some (i :: ns) | none => none) = _
    rw [intsOf_mapP r]
theorem fSum_l {r : List Int} : fSum (.lst (r.map .int)) = some (false, .int r.sum) := by
  show (match intsOf (r.map .int) with | some ns => some (false, D.int ns.sum) | none => none) = _
  rw [intsOf_mapP]
theorem fSum_t {r : List Int} : fSum (.tup (r.map .int)) = some (false, .int r.sum) := by
  show (match intsOf (r.map .int) with | some ns => some (false, D.int ns.sum) | none => none) = _
  rw [intsOf_mapP]
theorem blsOf_map : ∀ r : List Bool, blsOf (r.map .bl) = some r
  | [] => rfl
  | i :: r => by
    show (match blsOf (r.map .bl) with | some ns => some (i :: ns) | none => none) = _
    rw [blsOf_map r]
theorem fAll_l {r : List Bool} : fAll (.lst (r.map .bl)) = some (false, .bl (r.all id)) := by
  show (match blsOf (r.map .bl) with | some ns => some (false, D.bl (ns.all id)) | none => none) = _
  rw [blsOf_map]
theorem isi_ty {d T b} (h : btOf d = some b) : opIsi [d, .ty T] = some (false, .bl (b.sub T)) := by
  show (match btOf d with | some b => some (false, D.bl (b.sub T)) | none => none) = _
  rw [h]
theorem isi_tl {d b} (h : btOf d = some b) : opIsi [d, .tup [.ty .list, .ty .tuple]] = some (false, .bl (b.sub .list || b.sub .tuple)) := by
  show (match btOf d with | some b => (match btsOf [.ty .list, .ty .tuple] with | some bs => some (false, D.bl (bs.any b.sub)) | none => none) | none => none) = _
  rw [h]
  show some (false, D.bl ([Bt.list, Bt.tuple].any b.sub)) = _
  simp
theorem isi_i {i T} : opIsi [.int i, .ty T] = some (false, .bl (Bt.sub .int T)) := isi_ty rfl
theorem isi_t {xs T} : opIsi [.tup xs, .ty T] = some (false, .bl (Bt.sub .tuple T)) := isi_ty rfl
theorem isi_l {xs T} : opIsi [.lst xs, .ty T] = some (false, .bl (Bt.sub .list T)) := isi_ty rfl
theorem isi_s {xs T} : opIsi [.str xs, .ty T] = some (false, .bl (Bt.sub .str T)) := isi_ty rfl
theorem isi_b {xs T} : opIsi [.bl xs, .ty T] = some (false, .bl (Bt.sub .bool T)) := isi_ty rfl
theorem isi_n {T} : opIsi [.non, .ty T] = some (false, .bl (Bt.sub .none T)) := isi_ty rfl
theorem isi_tlt {xs} : opIsi [.tup xs, .tup [.ty .list, .ty .tuple]] = some (false, .bl true) := (isi_tl (b := .tuple) rfl).trans rfl
theorem isi_tll {xs} : opIsi [.lst xs, .tup [.ty .list, .ty .tuple]] = some (false, .bl true) := (isi_tl (b := .list) rfl).trans rfl
theorem is_non {x} : dIs x .non = some (false, .bl (isNon x)) := by cases x <;> rfl
theorem is_bl {x b} : dIs x (.bl b) = some (false, .bl (isBlD x b)) := by cases x <;> rfl
theorem isnot_non {x} : dIsNot x .non = some (false, .bl (!isNon x)) := by cases x <;> rfl
theorem zip_ints {α β γ : Type} (f : α → γ) (g : β → γ) (h : γ → γ → D) : ∀ (a : List α) (b : List β), List.zipWith h (a.map f) (b.map g) = (a.zip b).map fun p => h (f p.1) (g p.2)
  | [], _ => by simp
  | _ :: _, [] => by simp
  | x :: a, y :: b => by simp [zip_ints f g h a b]
theorem zipD_ints (a b : List Int) : zipD (a.map .int) (b.map .int) = (a.zip b).map fun p => .tup [.int p.1, .int p.2] := zip_ints D.int D.int (fun x y => D.tup [x, y]) a b
theorem fmap_map {α : Type} (f : α → D) (g : D → Option D) (h : α → D) (l : List α) (e : ∀ x, g (f x) = some (h x)) : (l.map f).filterMap g = l.map h := by
  induction l with
  | nil => rfl
  | cons a l ih => rw [List.map_cons, List.filterMap_cons, e, ih, List.map_cons]
theorem lcS_each {bd : D → En → Option En} {tt : STe} {f : En → R Opd} {vs : List Nat} {ρ : En} {α : Type} (xs : List α) (ι : α → D) (g : α → Option D) (h : ∀ x ∈ xs, lcB tt f vs (bd (ι x) ρ) = .ok (g x) ρ) (hl : xs.length ≤ sizeLine) : lcS bd tt f vs (xs.map ι) [] ρ = .ok (xs.filterMap g) ρ := by
  have gen : ∀ (xs : List α) (acc : List D), (∀ x ∈ xs, lcB tt f vs (bd (ι x) ρ) = .ok (g x) ρ) → acc.length + xs.length ≤ sizeLine → lcS bd tt f vs (xs.map ι) acc ρ = .ok (acc ++ xs.filterMap g) ρ := fun xs => by
    induction xs with
    | nil => intro acc _ _; show R.ok acc ρ = _; simp
    | cons x xs ih =>
      intro acc h hl
      have hl2 : acc.length + (xs.length + 1) ≤ sizeLine := hl
      have h' : ∀ y ∈ xs, lcB tt f vs (bd (ι y) ρ) = .ok (g y) ρ := fun y hy => h y (List.mem_cons_of_mem _ hy)
      rw [List.map_cons, lcS_cons, h x List.mem_cons_self, bind_ok]
      cases e : g x with
      | none =>
        show lcS bd tt f vs (xs.map ι) acc ρ = _
        rw [ih acc h' (by omega), List.filterMap_cons, e]
      | some d =>
        show (if acc.length < sizeLine then lcS bd tt f vs (xs.map ι) (acc ++ [d]) ρ else .stuck) = _
        rw [if_pos (by omega), ih _ h' (by rw [List.length_append]; simp; omega), List.filterMap_cons, e]
        simp
  have := gen xs [] h (by simpa using hl)
  simpa using this
/-- .. each gives one -/
theorem lcS_mapv {bd : D → En → Option En} {tt : STe} {f : En → R Opd} {vs : List Nat} {ρ : En} {α : Type} (xs : List α) (ι : α → D) (g : α → D) (h : ∀ x ∈ xs, lcB tt f vs (bd (ι x) ρ) = .ok (some (g x)) ρ) (hl : xs.length ≤ sizeLine) : lcS bd tt f vs (xs.map ι) [] ρ = .ok (xs.map g) ρ := by
  rw [lcS_each xs ι (fun x => some (g x)) h hl]
  congr 1
  induction xs with
  | nil => rfl
  | cons a l ih => rw [List.filterMap_cons, List.map_cons, ih (fun x hx => h x (List.mem_cons_of_mem _ hx)) (by simp at hl; omega)]
/-- .. those that are wanted -/
theorem lcS_filter {bd : D → En → Option En} {tt : STe} {f : En → R Opd} {vs : List Nat} {ρ : En} {α : Type} (xs : List α) (ι : α → D) (p : α → Bool) (h : ∀ x ∈ xs, lcB tt f vs (bd (ι x) ρ) = .ok (if p x then some (ι x) else none) ρ) (hl : xs.length ≤ sizeLine) : lcS bd tt f vs (xs.map ι) [] ρ = .ok ((xs.filter p).map ι) ρ := by
  rw [lcS_each xs ι (fun x => if p x then some (ι x) else none) h hl]
  congr 1
  induction xs with
  | nil => rfl
  | cons a l ih =>
    have := ih (fun x hx => h x (List.mem_cons_of_mem _ hx)) (by simp at hl; omega)
    rw [List.filterMap_cons, List.filter_cons]
    cases p a <;> simp [this]
theorem rgD_map (lo : Int) (n : Nat) : rgD lo n 1 = (List.range n).map fun (i : Nat) => D.int (lo + (i : Int) * 1) := (rfl)
theorem rg1K_of {ρ : En} {j : Int} (h : -(2 ^ 62) ≤ j ∧ j < 2 ^ 62) : rg1K ρ (some (.int j)) = .ok (rgD 0 j.toNat 1) ρ := by
  unfold rg1K
  dsimp only
  rw [if_pos h]
theorem rg1K_nat {ρ : En} {n : Nat} (h : n < 1000000) : rg1K ρ (some (.int (n : Int))) = .ok ((List.range n).map fun (i : Nat) => D.int (0 + (i : Int) * 1)) ρ := by
  rw [rg1K_of (by constructor <;> omega), Int.toNat_natCast, rgD_map]
theorem size_big {n : Nat} (h : n < 1000000) : n ≤ sizeLine := by
  rw [size_lit]
  omega
theorem tupK_0 {ρ} : tupK (some ([], ρ)) = .ok (.v false (.tup [])) ρ := by
  rw [tupK_some]
  exact if_pos (size_big (by simp))
theorem lstK_0 {ρ} : lstK (some ([], ρ)) = .ok (.v true (.lst [])) ρ := by
  rw [lstK_some]
  exact if_pos (size_big (by simp))
theorem tupK_1 {x0 : D} {ρ} : tupK (some ([x0], ρ)) = .ok (.v false (.tup [x0])) ρ := by
  rw [tupK_some]
  exact if_pos (size_big (by simp))
theorem lstK_1 {x0 : D} {ρ} : lstK (some ([x0], ρ)) = .ok (.v true (.lst [x0])) ρ := by
  rw [lstK_some]
  exact if_pos (size_big (by simp))
theorem tupK_2 {x0 x1 : D} {ρ} : tupK (some ([x0, x1], ρ)) = .ok (.v false (.tup [x0, x1])) ρ := by
  rw [tupK_some]
  exact if_pos (size_big (by simp))
theorem lstK_2 {x0 x1 : D} {ρ} : lstK (some ([x0, x1], ρ)) = .ok (.v true (.lst [x0, x1])) ρ := by
  rw [lstK_some]
  exact if_pos (size_big (by simp))
theorem tupK_3 {x0 x1 x2 : D} {ρ} : tupK (some ([x0, x1, x2], ρ)) = .ok (.v false (.tup [x0, x1, x2])) ρ := by
  rw [tupK_some]
  exact if_pos (size_big (by simp))
theorem lstK_3 {x0 x1 x2 : D} {ρ} : lstK (some ([x0, x1, x2], ρ)) = .ok (.v true (.lst [x0, x1, x2])) ρ := by
  rw [lstK_some]
  exact if_pos (size_big (by simp))
theorem tupK_4 {x0 x1 x2 x3 : D} {ρ} : tupK (some ([x0, x1, x2, x3], ρ)) = .ok (.v false (.tup [x0, x1, x2, x3])) ρ := by
  rw [tupK_some]
  exact if_pos (size_big (by simp))
theorem lstK_4 {x0 x1 x2 x3 : D} {ρ} : lstK (some ([x0, x1, x2, x3], ρ)) = .ok (.v true (.lst [x0, x1, x2, x3])) ρ := by
  rw [lstK_some]
  exact if_pos (size_big (by simp))
theorem tupK_5 {x0 x1 x2 x3 x4 : D} {ρ} : tupK (some ([x0, x1, x2, x3, x4], ρ)) = .ok (.v false (.tup [x0, x1, x2, x3, x4])) ρ := by
  rw [tupK_some]
  exact if_pos (size_big (by simp))
theorem lstK_5 {x0 x1 x2 x3 x4 : D} {ρ} : lstK (some ([x0, x1, x2, x3, x4], ρ)) = .ok (.v true (.lst [x0, x1, x2, x3, x4])) ρ := by
  rw [lstK_some]
  exact if_pos (size_big (by simp))
theorem tupK_6 {x0 x1 x2 x3 x4 x5 : D} {ρ} : tupK (some ([x0, x1, x2, x3, x4, x5], ρ)) = .ok (.v false (.tup [x0, x1, x2, x3, x4, x5])) ρ := by
  rw [tupK_some]
  exact if_pos (size_big (by simp))
theorem lstK_6 {x0 x1 x2 x3 x4 x5 : D} {ρ} : lstK (some ([x0, x1, x2, x3, x4, x5], ρ)) = .ok (.v true (.lst [x0, x1, x2, x3, x4, x5])) ρ := by
  rw [lstK_some]
  exact if_pos (size_big (by simp))
theorem tupK_7 {x0 x1 x2 x3 x4 x5 x6 : D} {ρ} : tupK (some ([x0, x1, x2, x3, x4, x5, x6], ρ)) = .ok (.v false (.tup [x0, x1, x2, x3, x4, x5, x6])) ρ := by
  rw [tupK_some]
  exact if_pos (size_big (by simp))
theorem lstK_7 {x0 x1 x2 x3 x4 x5 x6 : D} {ρ} : lstK (some ([x0, x1, x2, x3, x4, x5, x6], ρ)) = .ok (.v true (.lst [x0, x1, x2, x3, x4, x5, x6])) ρ := by
  rw [lstK_some]
  exact if_pos (size_big (by simp))
theorem tupK_8 {x0 x1 x2 x3 x4 x5 x6 x7 : D} {ρ} : tupK (some ([x0, x1, x2, x3, x4, x5, x6, x7], ρ)) = .ok (.v false (.tup [x0, x1, x2, x3, x4, x5, x6, x7])) ρ := by
  rw [tupK_some]
  exact if_pos (size_big (by simp))
theorem lstK_8 {x0 x1 x2 x3 x4 x5 x6 x7 : D} {ρ} : lstK (some ([x0, x1, x2, x3, x4, x5, x6, x7], ρ)) = .ok (.v true (.lst [x0, x1, x2, x3, x4, x5, x6, x7])) ρ := by
  rw [lstK_some]
  exact if_pos (size_big (by simp))
theorem tupK_9 {x0 x1 x2 x3 x4 x5 x6 x7 x8 : D} {ρ} : tupK (some ([x0, x1, x2, x3, x4, x5, x6, x7, x8], ρ)) = .ok (.v false (.tup [x0, x1, x2, x3, x4, x5, x6, x7, x8])) ρ := by
  rw [tupK_some]
  exact if_pos (size_big (by simp))
theorem lstK_9 {x0 x1 x2 x3 x4 x5 x6 x7 x8 : D} {ρ} : lstK (some ([x0, x1, x2, x3, x4, x5, x6, x7, x8], ρ)) = .ok (.v true (.lst [x0, x1, x2, x3, x4, x5, x6, x7, x8])) ρ := by
  rw [lstK_some]
  exact if_pos (size_big (by simp))
theorem tupK_10 {x0 x1 x2 x3 x4 x5 x6 x7 x8 x9 : D} {ρ} : tupK (some ([x0, x1, x2, x3, x4, x5, x6, x7, x8, x9], ρ)) = .ok (.v false (.tup [x0, x1, x2, x3, x4, x5, x6, x7, x8, x9])) ρ := by
  rw [tupK_some]
  exact if_pos (size_big (by simp))
theorem lstK_10 {x0 x1 x2 x3 x4 x5 x6 x7 x8 x9 : D} {ρ} : lstK (some ([x0, x1, x2, x3, x4, x5, x6, x7, x8, x9], ρ)) = .ok (.v true (.lst [x0, x1, x2, x3, x4, x5, x6, x7, x8, x9])) ρ := by
  rw [lstK_some]
  exact if_pos (size_big (by simp))
theorem tupK_11 {x0 x1 x2 x3 x4 x5 x6 x7 x8 x9 x10 : D} {ρ} : tupK (some ([x0, x1, x2, x3, x4, x5, x6, x7, x8, x9, x10], ρ)) = .ok (.v false (.tup [x0, x1, x2, x3, x4, x5, x6, x7, x8, x9, x10])) ρ := by
  rw [tupK_some]
  exact if_pos (size_big (by simp))
theorem lstK_11 {x0 x1 x2 x3 x4 x5 x6 x7 x8 x9 x10 : D} {ρ} : lstK (some ([x0, x1, x2, x3, x4, x5, x6, x7, x8, x9, x10], ρ)) = .ok (.v true (.lst [x0, x1, x2, x3, x4, x5, x6, x7, x8, x9, x10])) ρ := by
  rw [lstK_some]
  exact if_pos (size_big (by simp))
theorem tupK_12 {x0 x1 x2 x3 x4 x5 x6 x7 x8 x9 x10 x11 : D} {ρ} : tupK (some ([x0, x1, x2, x3, x4, x5, x6, x7, x8, x9, x10, x11], ρ)) = .ok (.v false (.tup [x0, x1, x2, x3, x4, x5, x6, x7, x8, x9, x10, x11])) ρ := by
  rw [tupK_some]
  exact if_pos (size_big (by simp))
theorem lstK_12 {x0 x1 x2 x3 x4 x5 x6 x7 x8 x9 x10 x11 : D} {ρ} : lstK (some ([x0, x1, x2, x3, x4, x5, x6, x7, x8, x9, x10, x11], ρ)) = .ok (.v true (.lst [x0, x1, x2, x3, x4, x5, x6, x7, x8, x9, x10, x11])) ρ := by
  rw [lstK_some]
  exact if_pos (size_big (by simp))
theorem tupK_13 {x0 x1 x2 x3 x4 x5 x6 x7 x8 x9 x10 x11 x12 : D} {ρ} : tupK (some ([x0, x1, x2, x3, x4, x5, x6, x7, x8, x9, x10, x11, x12], ρ)) = .ok (.v false (.tup [x0, x1, x2, x3, x4, x5, x6, x7, x8, x9, x10, x11, x12])) ρ := by
  rw [tupK_some]
  exact if_pos (size_big (by simp))
theorem lstK_13 {x0 x1 x2 x3 x4 x5 x6 x7 x8 x9 x10 x11 x12 : D} {ρ} : lstK (some ([x0, x1, x2, x3, x4, x5, x6, x7, x8, x9, x10, x11, x12], ρ)) = .ok (.v true (.lst [x0, x1, x2, x3, x4, x5, x6, x7, x8, x9, x10, x11, x12])) ρ := by
  rw [lstK_some]
  exact if_pos (size_big (by simp))
theorem tupK_14 {x0 x1 x2 x3 x4 x5 x6 x7 x8 x9 x10 x11 x12 x13 : D} {ρ} : tupK (some ([x0, x1, x2, x3, x4, x5, x6, x7, x8, x9, x10, x11, x12, x13], ρ)) = .ok (.v false (.tup [x0, x1, x2, x3, x4, x5, x6, x7, x8, x9, x10, x11, x12, x13])) ρ := by
  rw [tupK_some]
  exact if_pos (size_big (by simp))
theorem lstK_14 {x0 x1 x2 x3 x4 x5 x6 x7 x8 x9 x10 x11 x12 x13 : D} {ρ} : lstK (some ([x0, x1, x2, x3, x4, x5, x6, x7, x8, x9, x10, x11, x12, x13], ρ)) = .ok (.v true (.lst [x0, x1, x2, x3, x4, x5, x6, x7, x8, x9, x10, x11, x12, x13])) ρ := by
  rw [lstK_some]
  exact if_pos (size_big (by simp))
theorem tupK_15 {x0 x1 x2 x3 x4 x5 x6 x7 x8 x9 x10 x11 x12 x13 x14 : D} {ρ} : tupK (some ([x0, x1, x2, x3, x4, x5, x6, x7, x8, x9, x10, x11, x12, x13, x14], ρ)) = .ok (.v false (.tup [x0, x1, x2, x3, x4, x5, x6, x7, x8, x9, x10, x11, x12, x13, x14])) ρ := by
  rw [tupK_some]
  exact if_pos (size_big (by simp))
theorem lstK_15 {x0 x1 x2 x3 x4 x5 x6 x7 x8 x9 x10 x11 x12 x13 x14 : D} {ρ} : lstK (some ([x0, x1, x2, x3, x4, x5, x6, x7, x8, x9, x10, x11, x12, x13, x14], ρ)) = .ok (.v true (.lst [x0, x1, x2, x3, x4, x5, x6, x7, x8, x9, x10, x11, x12, x13, x14])) ρ := by
  rw [lstK_some]
  exact if_pos (size_big (by simp))
theorem tupK_16 {x0 x1 x2 x3 x4 x5 x6 x7 x8 x9 x10 x11 x12 x13 x14 x15 : D} {ρ} : tupK (some ([x0, x1, x2, x3, x4, x5, x6, x7, x8, x9, x10, x11, x12, x13, x14, x15], ρ)) = .ok (.v false (.tup [x0, x1, x2, x3, x4, x5, x6, x7, x8, x9, x10, x11, x12, x13, x14, x15])) ρ := by
  rw [tupK_some]
  exact if_pos (size_big (by simp))
theorem lstK_16 {x0 x1 x2 x3 x4 x5 x6 x7 x8 x9 x10 x11 x12 x13 x14 x15 : D} {ρ} : lstK (some ([x0, x1, x2, x3, x4, x5, x6, x7, x8, x9, x10, x11, x12, x13, x14, x15], ρ)) = .ok (.v true (.lst [x0, x1, x2, x3, x4, x5, x6, x7, x8, x9, x10, x11, x12, x13, x14, x15])) ρ := by
  rw [lstK_some]
  exact if_pos (size_big (by simp))
end Ev

set_option maxHeartbeats 0
/-! ## the text: k84 -/
namespace Hd
open PySem PySem.Spec PyProof.Rows L2
def mainB : List Stmt := PySem.Challenge.pw_twentyseven_k84_whole_bits_and_forms.main.body
def noAr : Arguments := ⟨[], [], none, [], [], none, []⟩
def noSc : Scope := ⟨.function, [], false, false, []⟩
def mk (i : Nat) (N ps : List Str) (pin : List Nat) (lam : Bool) : Ev.FnI := match mainB[i]? with
  | some (.FunctionDef name ar body _ _ _ sc ..) => ⟨name, name, ar, body, sc, N, ps, pin, lam⟩
  | _ => ⟨"", "", noAr, [], noSc, N, ps, pin, lam⟩
def mc (i : Nat) (N : List Str) : Ev.ClI := match mainB[i]? with
  | some (.ClassDef name _ _ [.FunctionDef _ ar body _ _ _ sc ..] ..) => ⟨name, N.drop 1, ar, body, sc, N⟩
  | some (.ClassDef name ..) => ⟨name, [], noAr, [], noSc, []⟩
  | _ => ⟨"", [], noAr, [], noSc, []⟩
def f0 : Ev.FnI := mk 19 ["value"] ["value"] [0] false
def f1 : Ev.FnI := mk 21 ["value"] ["value"] [0] false
def f2 : Ev.FnI := mk 22 ["value", "many"] ["value", "many"] [0, 1] false
def f3 : Ev.FnI := mk 24 ["value", "one"] ["value"] [0] false
def f4 : Ev.FnI := mk 25 ["row", "what"] ["row", "what"] [0, 1] false
def f5 : Ev.FnI := mk 26 ["one", "other", "a", "b"] ["one", "other"] [0, 1] false
def f6 : Ev.FnI := mk 27 ["one", "other", "first"] ["one", "other"] [0, 1] false
def f7 : Ev.FnI := mk 28 ["form", "row", "count", "a", "b"] ["form", "row"] [0, 1] false
def f8 : Ev.FnI := mk 29 ["form", "row", "told"] ["form", "row"] [0, 1] false
def f9 : Ev.FnI := mk 30 ["found", "lap", "longer", "row"] [] [] false
def f10 : Ev.FnI := mk 31 ["form", "row"] ["form"] [0] false
def f11 : Ev.FnI := mk 32 ["form"] [] [] false
def f12 : Ev.FnI := mk 33 ["form"] [] [] false
def f13 : Ev.FnI := mk 35 ["script", "fold", "cell"] ["script"] [0] false
def f14 : Ev.FnI := mk 36 ["pen", "many", "cell", "digit", "blend"] ["pen", "many"] [0, 1] false
def f15 : Ev.FnI := mk 37 ["pen", "some"] ["pen", "some"] [0, 1] false
def f16 : Ev.FnI := mk 38 ["told", "due", "at"] ["told", "due"] [0, 1] false
def f17 : Ev.FnI := mk 39 ["call", "found", "e"] ["call"] [0] false
def f18 : Ev.FnI := mk 40 ["e", "found"] ["e"] [0] false
def f19 : Ev.FnI := mk 41 ["e", "found"] ["e"] [0] false
def f20 : Ev.FnI := mk 42 ["some", "count", "found", "lap", "longer", "told", "one"] ["some", "count"] [0, 1] false
def f21 : Ev.FnI := mk 43 ["one", "other", "total", "i", "k"] ["one", "other"] [0, 1] false
def f22 : Ev.FnI := mk 44 ["form", "row", "total", "i", "k"] ["form", "row"] [0, 1] false
def f23 : Ev.FnI := mk 45 [] [] [] false
def f24 : Ev.FnI := mk 46 ["rows", "k", "row"] ["rows"] [0] false
def f25 : Ev.FnI := mk 47 ["form", "row"] [] [] false
def f26 : Ev.FnI := mk 48 ["pen", "rows", "one", "other", "form", "both"] ["pen"] [0] false
def f27 : Ev.FnI := mk 49 ["pen", "row", "bad"] ["pen"] [0] true
def f28 : Ev.FnI := mk 50 ["call", "one", "other"] ["call", "one", "other"] [0, 1, 2] true
def f29 : Ev.FnI := mk 51 ["script", "pen", "odd", "lap", "form", "pairs", "i", "k", "key", "row"] ["script"] [0] false
def fI0 : List Ev.FnI := [f0, f1, f2, f3, f4, f5, f6, f7, f8, f9, f10, f11, f12, f13, f14, f15, f16, f17, f18, f19, f20, f21, f22, f23, f24, f25, f26, f27, f28, f29]
def fI : List Ev.FnI := fI0
def c0 : Ev.ClI := mc 1 []
def c1 : Ev.ClI := mc 2 ["self", "what", "number"]
def c2 : Ev.ClI := mc 3 ["self", "what", "row"]
def c3 : Ev.ClI := mc 4 ["self", "what"]
def c4 : Ev.ClI := mc 5 ["self", "what"]
def c5 : Ev.ClI := mc 6 ["self", "what"]
def c6 : Ev.ClI := mc 7 ["self", "name"]
def c7 : Ev.ClI := mc 8 ["self", "line", "word"]
def c8 : Ev.ClI := mc 9 ["self", "what", "index"]
def c9 : Ev.ClI := mc 10 ["self", "name"]
def c10 : Ev.ClI := mc 11 ["self", "name"]
def c11 : Ev.ClI := mc 12 ["self", "what"]
def c12 : Ev.ClI := mc 13 ["self", "paper"]
def c13 : Ev.ClI := mc 14 ["self", "what", "many", "limit"]
def c14 : Ev.ClI := mc 15 ["self", "promise", "witness"]
def c15 : Ev.ClI := mc 16 []
def c16 : Ev.ClI := mc 17 []
def clI : List Ev.ClI := [c0, c1, c2, c3, c4, c5, c6, c7, c8, c9, c10, c11, c12, c13, c14, c15, c16]
def frees : List Str := ["all", "bool", "int", "isinstance", "len", "list", "range", "repr", "set", "sorted", "str", "sum", "tuple", "zip", "ValueError"]
def lamN : List Str := ["_law_refused", "_law_fault_of"]
def sub (i j : Nat) : Option Bool := if i < 17 ∧ j < 17 then some (decide (i = j) || decide (j = 0)) else none
def sf (i : Nat) : Bool := [1, 2, 3, 4, 5, 6, 7, 8, 9, 10, 11, 12, 13, 14].contains i
def fltOf (f : Ev.FnI) : Ev.FltI := match f.body with
  | [_, .Try _ [.ExceptHandler (some (.Name cn _)) (some e) (b :: su) _] _ _ _, .Return (some (.Name fo _)) _] => ⟨f.name, f.params, f.body, f.scope, "call", fo, e, cn, b, su⟩
  | _ => ⟨"", noAr, [], noSc, "", "", "", "", .Pass ⟨0, 0, 0, 0⟩, []⟩
def flt : Ev.FltI := fltOf f17
def cons : List (Str × Ev.D) := []
def dd : Ev.HdD := ⟨fI, clI, frees, lamN, sub, sf, flt, cons⟩
def tpl : List Nat := [249]
def pg : Ev.Pg := ⟨fI, clI.map fun c => (c.name, c.flds), fun x => cons.lookup x, fun x => frees.contains x, fun p => tpl.contains p.line, 60, true, false, sub, fun _ _ => none⟩
def loose0 : List Str := ["SurfaceError", "BadNumber", "BadRow", "BadTable", "BadPoints", "BadForm", "BadName", "BadText", "NoPlace", "NoName", "TakenName", "Unlike", "NotThere", "TooMany", "NotKept", "NothingToUndo", "NothingToRedo", "is_integer", "is_list", "is_index", "is_bits", "need_bits", "product_of_bits", "bit_product", "value_of_form", "form_value", "all_bits", "is_odd", "odd_forms", "even_forms"]
def loose1 : List Str := ["_law_pen", "_law_draw", "_law_pick", "_law_is", "_law_fault", "_law_kinds", "_law_more_kinds", "_law_tuples", "_law_bits_product", "_law_form_worth", "_law_bit_rows", "_law_bits_sum", "_law_odd_rows", "_law_right", "_law_refused", "_law_fault_of"]
def loose : List Str := loose0 ++ (loose1)
abbrev R : PySem.W.OpenRow := PySem.W.OpenLaw.row PySem.Challenge.rw_twentyseven_k84_whole_bits_and_forms
abbrev hk : PySem.W.Hook := He.hookX 8 dd.fa dd.ds [] dd.tf dd.ex
def ob (s : PySem.W.SharedT) : He.AlX := He.obsX 8 dd.fa dd.ds [] dd.tf dd.ex (HandSHeadRun.getT s)
theorem ob_eq (s : PySem.W.SharedT) : ob s = hk.obs s.abs := He.obsX_eq (HandSHeadRun.getT_eq s)
theorem run (w : World) : HandSHeadRun.RunEq R (PySem.W.view R.prog [51]) hk ob 40000 loose w := by
  intro os
  kernel_rfl
/-! ### of the text -/
def BdOk (x q : Str) (ar : Arguments) (b : List Stmt) (sc : Scope) (ps : List Str) : Prop := ∀ (kV doc pm : Value) (an : Option Addr) (cdv ct : Value) (us : List Value), us.length = ps.length → bindArgs (PySem.W.fnOf x q ar b sc .none kV doc pm an cdv ct) ⟨us, []⟩ = pure (ps.zip us)
theorem fm {α : Type} {P : α → Prop} {a : α} {l : List α} (h : P a) (t : ∀ x ∈ l, P x) : ∀ x ∈ a :: l, P x := fun x hx => (List.mem_cons.mp hx).elim (fun e => e ▸ h) (t x)
theorem fn {α : Type} {P : α → Prop} : ∀ x ∈ ([] : List α), P x := fun x hx => absurd hx (by simp)
theorem fa {α : Type} {P : α → Prop} {l m : List α} (h : ∀ x ∈ l, P x) (t : ∀ x ∈ m, P x) : ∀ x ∈ l ++ m, P x := fun x hx => (List.mem_append.mp hx).elim (h x) (t x)
theorem b0 : BdOk f0.name f0.qual f0.params f0.body f0.scope f0.ps := fun kV doc pm an cdv ct us hl => match us, (show us.length = 1 from hl) with
  | [_], _ => by kernel_rfl
theorem b1 : BdOk f1.name f1.qual f1.params f1.body f1.scope f1.ps := fun kV doc pm an cdv ct us hl => match us, (show us.length = 1 from hl) with
  | [_], _ => by kernel_rfl
theorem b2 : BdOk f2.name f2.qual f2.params f2.body f2.scope f2.ps := fun kV doc pm an cdv ct us hl => match us, (show us.length = 2 from hl) with
  | [_, _], _ => by kernel_rfl
theorem b3 : BdOk f3.name f3.qual f3.params f3.body f3.scope f3.ps := fun kV doc pm an cdv ct us hl => match us, (show us.length = 1 from hl) with
  | [_], _ => by kernel_rfl
theorem b4 : BdOk f4.name f4.qual f4.params f4.body f4.scope f4.ps := fun kV doc pm an cdv ct us hl => match us, (show us.length = 2 from hl) with
  | [_, _], _ => by kernel_rfl
theorem b5 : BdOk f5.name f5.qual f5.params f5.body f5.scope f5.ps := fun kV doc pm an cdv ct us hl => match us, (show us.length = 2 from hl) with
  | [_, _], _ => by kernel_rfl
theorem b6 : BdOk f6.name f6.qual f6.params f6.body f6.scope f6.ps := fun kV doc pm an cdv ct us hl => match us, (show us.length = 2 from hl) with
  | [_, _], _ => by kernel_rfl
theorem b7 : BdOk f7.name f7.qual f7.params f7.body f7.scope f7.ps := fun kV doc pm an cdv ct us hl => match us, (show us.length = 2 from hl) with
  | [_, _], _ => by kernel_rfl
theorem b8 : BdOk f8.name f8.qual f8.params f8.body f8.scope f8.ps := fun kV doc pm an cdv ct us hl => match us, (show us.length = 2 from hl) with
  | [_, _], _ => by kernel_rfl
theorem b9 : BdOk f9.name f9.qual f9.params f9.body f9.scope f9.ps := fun kV doc pm an cdv ct us hl => match us, (show us.length = 0 from hl) with
  | [], _ => by kernel_rfl
theorem b10 : BdOk f10.name f10.qual f10.params f10.body f10.scope f10.ps := fun kV doc pm an cdv ct us hl => match us, (show us.length = 1 from hl) with
  | [_], _ => by kernel_rfl
theorem b11 : BdOk f11.name f11.qual f11.params f11.body f11.scope f11.ps := fun kV doc pm an cdv ct us hl => match us, (show us.length = 0 from hl) with
  | [], _ => by kernel_rfl
theorem b12 : BdOk f12.name f12.qual f12.params f12.body f12.scope f12.ps := fun kV doc pm an cdv ct us hl => match us, (show us.length = 0 from hl) with
  | [], _ => by kernel_rfl
theorem b13 : BdOk f13.name f13.qual f13.params f13.body f13.scope f13.ps := fun kV doc pm an cdv ct us hl => match us, (show us.length = 1 from hl) with
  | [_], _ => by kernel_rfl
theorem b14 : BdOk f14.name f14.qual f14.params f14.body f14.scope f14.ps := fun kV doc pm an cdv ct us hl => match us, (show us.length = 2 from hl) with
  | [_, _], _ => by kernel_rfl
theorem b15 : BdOk f15.name f15.qual f15.params f15.body f15.scope f15.ps := fun kV doc pm an cdv ct us hl => match us, (show us.length = 2 from hl) with
  | [_, _], _ => by kernel_rfl
theorem b16 : BdOk f16.name f16.qual f16.params f16.body f16.scope f16.ps := fun kV doc pm an cdv ct us hl => match us, (show us.length = 2 from hl) with
  | [_, _], _ => by kernel_rfl
theorem b17 : BdOk f17.name f17.qual f17.params f17.body f17.scope f17.ps := fun kV doc pm an cdv ct us hl => match us, (show us.length = 1 from hl) with
  | [_], _ => by kernel_rfl
theorem b18 : BdOk f18.name f18.qual f18.params f18.body f18.scope f18.ps := fun kV doc pm an cdv ct us hl => match us, (show us.length = 1 from hl) with
  | [_], _ => by kernel_rfl
theorem b19 : BdOk f19.name f19.qual f19.params f19.body f19.scope f19.ps := fun kV doc pm an cdv ct us hl => match us, (show us.length = 1 from hl) with
  | [_], _ => by kernel_rfl
theorem b20 : BdOk f20.name f20.qual f20.params f20.body f20.scope f20.ps := fun kV doc pm an cdv ct us hl => match us, (show us.length = 2 from hl) with
  | [_, _], _ => by kernel_rfl
theorem b21 : BdOk f21.name f21.qual f21.params f21.body f21.scope f21.ps := fun kV doc pm an cdv ct us hl => match us, (show us.length = 2 from hl) with
  | [_, _], _ => by kernel_rfl
theorem b22 : BdOk f22.name f22.qual f22.params f22.body f22.scope f22.ps := fun kV doc pm an cdv ct us hl => match us, (show us.length = 2 from hl) with
  | [_, _], _ => by kernel_rfl
theorem b23 : BdOk f23.name f23.qual f23.params f23.body f23.scope f23.ps := fun kV doc pm an cdv ct us hl => match us, (show us.length = 0 from hl) with
  | [], _ => by kernel_rfl
theorem b24 : BdOk f24.name f24.qual f24.params f24.body f24.scope f24.ps := fun kV doc pm an cdv ct us hl => match us, (show us.length = 1 from hl) with
  | [_], _ => by kernel_rfl
theorem b25 : BdOk f25.name f25.qual f25.params f25.body f25.scope f25.ps := fun kV doc pm an cdv ct us hl => match us, (show us.length = 0 from hl) with
  | [], _ => by kernel_rfl
theorem b26 : BdOk f26.name f26.qual f26.params f26.body f26.scope f26.ps := fun kV doc pm an cdv ct us hl => match us, (show us.length = 1 from hl) with
  | [_], _ => by kernel_rfl
theorem b27 : BdOk f27.name f27.qual f27.params f27.body f27.scope f27.ps := fun kV doc pm an cdv ct us hl => match us, (show us.length = 1 from hl) with
  | [_], _ => by kernel_rfl
theorem b28 : BdOk f28.name f28.qual f28.params f28.body f28.scope f28.ps := fun kV doc pm an cdv ct us hl => match us, (show us.length = 3 from hl) with
  | [_, _, _], _ => by kernel_rfl
theorem b29 : BdOk f29.name f29.qual f29.params f29.body f29.scope f29.ps := fun kV doc pm an cdv ct us hl => match us, (show us.length = 1 from hl) with
  | [_], _ => by kernel_rfl
theorem cb0 : c0.flds = [] := by rfl
theorem cb1 : BdOk "__init__" (c1.name ++ ".__init__") c1.params c1.body c1.scope c1.N := fun kV doc pm an cdv ct us hl => match us, (show us.length = 3 from hl) with
  | [_, _, _], _ => by kernel_rfl
theorem cb2 : BdOk "__init__" (c2.name ++ ".__init__") c2.params c2.body c2.scope c2.N := fun kV doc pm an cdv ct us hl => match us, (show us.length = 3 from hl) with
  | [_, _, _], _ => by kernel_rfl
theorem cb3 : BdOk "__init__" (c3.name ++ ".__init__") c3.params c3.body c3.scope c3.N := fun kV doc pm an cdv ct us hl => match us, (show us.length = 2 from hl) with
  | [_, _], _ => by kernel_rfl
theorem cb4 : BdOk "__init__" (c4.name ++ ".__init__") c4.params c4.body c4.scope c4.N := fun kV doc pm an cdv ct us hl => match us, (show us.length = 2 from hl) with
  | [_, _], _ => by kernel_rfl
theorem cb5 : BdOk "__init__" (c5.name ++ ".__init__") c5.params c5.body c5.scope c5.N := fun kV doc pm an cdv ct us hl => match us, (show us.length = 2 from hl) with
  | [_, _], _ => by kernel_rfl
theorem cb6 : BdOk "__init__" (c6.name ++ ".__init__") c6.params c6.body c6.scope c6.N := fun kV doc pm an cdv ct us hl => match us, (show us.length = 2 from hl) with
  | [_, _], _ => by kernel_rfl
theorem cb7 : BdOk "__init__" (c7.name ++ ".__init__") c7.params c7.body c7.scope c7.N := fun kV doc pm an cdv ct us hl => match us, (show us.length = 3 from hl) with
  | [_, _, _], _ => by kernel_rfl
theorem cb8 : BdOk "__init__" (c8.name ++ ".__init__") c8.params c8.body c8.scope c8.N := fun kV doc pm an cdv ct us hl => match us, (show us.length = 3 from hl) with
  | [_, _, _], _ => by kernel_rfl
theorem cb9 : BdOk "__init__" (c9.name ++ ".__init__") c9.params c9.body c9.scope c9.N := fun kV doc pm an cdv ct us hl => match us, (show us.length = 2 from hl) with
  | [_, _], _ => by kernel_rfl
theorem cb10 : BdOk "__init__" (c10.name ++ ".__init__") c10.params c10.body c10.scope c10.N := fun kV doc pm an cdv ct us hl => match us, (show us.length = 2 from hl) with
  | [_, _], _ => by kernel_rfl
theorem cb11 : BdOk "__init__" (c11.name ++ ".__init__") c11.params c11.body c11.scope c11.N := fun kV doc pm an cdv ct us hl => match us, (show us.length = 2 from hl) with
  | [_, _], _ => by kernel_rfl
theorem cb12 : BdOk "__init__" (c12.name ++ ".__init__") c12.params c12.body c12.scope c12.N := fun kV doc pm an cdv ct us hl => match us, (show us.length = 2 from hl) with
  | [_, _], _ => by kernel_rfl
theorem cb13 : BdOk "__init__" (c13.name ++ ".__init__") c13.params c13.body c13.scope c13.N := fun kV doc pm an cdv ct us hl => match us, (show us.length = 4 from hl) with
  | [_, _, _, _], _ => by kernel_rfl
theorem cb14 : BdOk "__init__" (c14.name ++ ".__init__") c14.params c14.body c14.scope c14.N := fun kV doc pm an cdv ct us hl => match us, (show us.length = 3 from hl) with
  | [_, _, _], _ => by kernel_rfl
theorem cb15 : c15.flds = [] := by rfl
theorem cb16 : c16.flds = [] := by rfl
theorem bI0 : ∀ f ∈ fI0, BdOk f.name f.qual f.params f.body f.scope f.ps := fm b0 <| fm b1 <| fm b2 <| fm b3 <| fm b4 <| fm b5 <| fm b6 <| fm b7 <| fm b8 <| fm b9 <| fm b10 <| fm b11 <| fm b12 <| fm b13 <| fm b14 <| fm b15 <| fm b16 <| fm b17 <| fm b18 <| fm b19 <| fm b20 <| fm b21 <| fm b22 <| fm b23 <| fm b24 <| fm b25 <| fm b26 <| fm b27 <| fm b28 <| fm b29 <| fn
theorem bI : ∀ f ∈ fI, BdOk f.name f.qual f.params f.body f.scope f.ps := bI0
theorem cbI : ∀ c ∈ clI, c.flds ≠ [] → BdOk "__init__" (c.name ++ ".__init__") c.params c.body c.scope c.N := fm (fun z => absurd cb0 z) <| fm (fun _ => cb1) <| fm (fun _ => cb2) <| fm (fun _ => cb3) <| fm (fun _ => cb4) <| fm (fun _ => cb5) <| fm (fun _ => cb6) <| fm (fun _ => cb7) <| fm (fun _ => cb8) <| fm (fun _ => cb9) <| fm (fun _ => cb10) <| fm (fun _ => cb11) <| fm (fun _ => cb12) <| fm (fun _ => cb13) <| fm (fun _ => cb14) <| fm (fun z => absurd cb15 z) <| fm (fun z => absurd cb16 z) <| fn
theorem scI : (fI.all fun f => Ev.scopeB f.N f.ps f.scope) = true := by decide +kernel
theorem lmI : (fI.all fun f => !f.lam || (lamN.contains f.name && decide (f.qual = f.name))) = true := by decide +kernel
theorem csI : (clI.all fun c => c.flds.isEmpty || (Ev.scopeB c.N c.N c.scope && decide (c.N.length = c.flds.length + 1) && Ev.initB c.N c.scope 1 c.body c.flds && decide (c.flds.length ≤ 800))) = true := by decide +kernel
theorem txt : Ev.TxtOk dd where
  sc := fun f hf => Ev.scopeB_ok (List.all_eq_true.mp scI f hf)
  bd := bI
  lm := fun f hf hl => by
    have q := List.all_eq_true.mp lmI f hf
    rw [hl] at q
    exact (by simpa using q : f.name ∈ lamN ∧ f.qual = f.name)
  cs := fun c hc ne => by
    have q := List.all_eq_true.mp csI c hc
    have e : c.flds.isEmpty = false := by
      cases z : c.flds with
      | nil => exact absurd z ne
      | cons _ _ => rfl
    rw [e, Bool.false_or] at q
    simp only [Bool.and_eq_true, decide_eq_true_eq] at q
    exact ⟨Ev.scopeB_ok q.1.1.1, q.1.1.2, q.1.2, q.2⟩
  cb := cbI
  sb := fun i j b h => by
    unfold dd sub at h
    dsimp only at h
    split at h
    · rename_i q; exact q.2
    · cases h
  sf := fun i h => by
    have q : i ∈ [1, 2, 3, 4, 5, 6, 7, 8, 9, 10, 11, 12, 13, 14] := by simpa [dd, sf] using h
    have q2 : ∀ j ∈ [1, 2, 3, 4, 5, 6, 7, 8, 9, 10, 11, 12, 13, 14], j < clI.length := by decide +kernel
    exact q2 i q
theorem pgIs : Ev.PgIs dd pg where
  fns := rfl
  cls := rfl
  free := fun x h => by simpa [pg, dd] using h
  con := fun x y h => Ev.lookup_in h
  sub := rfl
  rep := rfl
theorem fltT : Ev.FltT dd f17 c0 where
  f := List.mem_of_getElem? (i := 17) (by rfl)
  c := List.mem_of_getElem? (i := 0) (by rfl)
  e1 := by kernel_rfl
  e2 := by kernel_rfl
  e3 := by kernel_rfl
  e4 := by kernel_rfl
  e5 := by kernel_rfl
  e6 := by kernel_rfl
  e7 := by kernel_rfl
  e8 := by kernel_rfl
  pat := ⟨_, _, _, _, _, _, _, _, _, _, _, _, by rfl⟩
  ha := by kernel_rfl
  hf := by kernel_rfl
  he := by kernel_rfl
  hc := by kernel_rfl
  d1 := by kernel_rfl
  d2 := by kernel_rfl
  d3 := by kernel_rfl
def pt : Ev.Pg := pg.top flt sf
end Hd

set_option maxHeartbeats 4000000
/-! ## the text as what it does -/
namespace Hd
open PySem PySem.Spec PyProof.Rows Ev
def cl (t : Bool) (n : Nat) : Nat → List Val → Rf := if t then pt.call n else pg.lamP.call n
theorem cl_t {n} : cl true n = pt.call n := by
  unfold cl
  rw [if_pos rfl]
theorem cl_f {n} : cl false n = pg.lamP.call n := by
  unfold cl
  rw [if_neg (by simp)]
theorem call_t {m k : Nat} {f : FnI} {s : SS} (hk : fI[k]? = some f) (h : (cf (pt.tb m (pt.call m)) 60).b (f.ce false) f.body = some s) (as : List Val) : pt.call (m + 1) k as = fnRun f.N.length f.ps.length f.pin s as := by
  show (match fI[k]? with
    | some f => (match (cf (pt.tb m (pt.call m)) 60).b (f.ce false) f.body with
      | some s => fnRun f.N.length f.ps.length f.pin s as
      | none => .stuck)
    | none => .stuck) = _
  rw [hk]
  dsimp only
  rw [h]
theorem call_l {m k : Nat} {f : FnI} {s : SS} (hk : fI[k]? = some f) (h : (cf (pg.lamP.tb m (pg.lamP.call m)) 60).b (f.ce false) f.body = some s) (as : List Val) : pg.lamP.call (m + 1) k as = fnRun f.N.length f.ps.length f.pin s as := by
  show (match fI[k]? with
    | some f => (match (cf (pg.lamP.tb m (pg.lamP.call m)) 60).b (f.ce false) f.body with
      | some s => fnRun f.N.length f.ps.length f.pin s as
      | none => .stuck)
    | none => .stuck) = _
  rw [hk]
  dsimp only
  rw [h]
theorem call_h {m k : Nat} {f : FnI} {s : SS} (hk : fI[k]? = some f) (h : (cf (pg.hotP.tb m (pg.hotP.call m)) 60).b (f.ce true) f.body = some s) (as : List Val) : pg.hotP.call (m + 1) k as = fnRun f.N.length f.ps.length f.pin s as := by
  show (match fI[k]? with
    | some f => (match (cf (pg.hotP.tb m (pg.hotP.call m)) 60).b (f.ce true) f.body with
      | some s => fnRun f.N.length f.ps.length f.pin s as
      | none => .stuck)
    | none => .stuck) = _
  rw [hk]
  dsimp only
  rw [h]
def csu (C : Nat → List Val → Rf) : SS := (sSeq (sSet 1 (sCall (pinL [0]) (C 18) [(sVar 2)]))
  (sSeq (sSet 1 (sIte (sTAnd (sTruth (sOp (op2 dEq) [(sOp (op1 fLen) [(sVar 1)]), (sLit (.int 1))])) (sTruth (sOp (opIsx sub) [(sVar 2), (sLit (.ty .value))]))) (sOp (op2 dIx) [(sVar 1), (sLit (.int 0))]) (sTup [(sLit (.str "several")), (sOp (op1 fLen) [(sVar 1)])])))
  sNil))
/-- is_integer -/
theorem r0 (s : SS) (x0 : Val) : fnRun f0.N.length f0.ps.length f0.pin s [x0] = Ev.endRun 1 [0] [x0] (s [some x0]) := by kernel_rfl
theorem h0 : fI[0]? = some f0 := by kernel_rfl
def g0 (C : Nat → List Val → Rf) : SS := (sSeq (sRet (sAnd (sOp opIsi [(sVar 0), (sLit (.ty .int))]) (sNot (sOp opIsi [(sVar 0), (sLit (.ty .bool))]))))
  sNil)
theorem tk0 (m : Nat) (C : Nat → List Val → Rf) : (cf (pt.tb (m + 2) C) 60).b (f0.ce false) f0.body = some (g0 C) := by kernel_rfl
theorem lk0 (n : Nat) (C : Nat → List Val → Rf) : (cf (pg.lamP.tb n C) 60).b (f0.ce false) f0.body = some (g0 C) := by kernel_rfl
theorem q0 (t : Bool) (m : Nat) (x0 : Val) : cl t (m + 3) 0 [x0] = Ev.endRun 1 [0] [x0] (g0 (cl t (m + 2)) [some x0]) := by
  cases t
  · simp only [cl_f]
    rw [call_l h0 (lk0 (m + 2) _), r0]
  · simp only [cl_t]
    rw [call_t h0 (tk0 m _), r0]
/-- is_list -/
theorem r1 (s : SS) (x0 : Val) : fnRun f1.N.length f1.ps.length f1.pin s [x0] = Ev.endRun 1 [0] [x0] (s [some x0]) := by kernel_rfl
theorem h1 : fI[1]? = some f1 := by kernel_rfl
def g1 (C : Nat → List Val → Rf) : SS := (sSeq (sRet (sOp opIsi [(sVar 0), (sTup [(sLit (.ty .list)), (sLit (.ty .tuple))])]))
  sNil)
theorem tk1 (m : Nat) (C : Nat → List Val → Rf) : (cf (pt.tb (m + 2) C) 60).b (f1.ce false) f1.body = some (g1 C) := by kernel_rfl
theorem lk1 (n : Nat) (C : Nat → List Val → Rf) : (cf (pg.lamP.tb n C) 60).b (f1.ce false) f1.body = some (g1 C) := by kernel_rfl
theorem q1 (t : Bool) (m : Nat) (x0 : Val) : cl t (m + 3) 1 [x0] = Ev.endRun 1 [0] [x0] (g1 (cl t (m + 2)) [some x0]) := by
  cases t
  · simp only [cl_f]
    rw [call_l h1 (lk1 (m + 2) _), r1]
  · simp only [cl_t]
    rw [call_t h1 (tk1 m _), r1]
/-- is_index -/
theorem r2 (s : SS) (x0 : Val) (x1 : Val) : fnRun f2.N.length f2.ps.length f2.pin s [x0, x1] = Ev.endRun 2 [0, 1] [x0, x1] (s [some x0, some x1]) := by kernel_rfl
theorem h2 : fI[2]? = some f2 := by kernel_rfl
def g2 (C : Nat → List Val → Rf) : SS := (sSeq (sRet (sAnd (sCall (pinL [0]) (C 0) [(sVar 0)]) (sChain iLe iLt (sLit (.int 0)) (sVar 0) (sVar 1))))
  sNil)
theorem tk2 (m : Nat) (C : Nat → List Val → Rf) : (cf (pt.tb (m + 2) C) 60).b (f2.ce false) f2.body = some (g2 C) := by kernel_rfl
theorem lk2 (n : Nat) (C : Nat → List Val → Rf) : (cf (pg.lamP.tb n C) 60).b (f2.ce false) f2.body = some (g2 C) := by kernel_rfl
theorem q2 (t : Bool) (m : Nat) (x0 : Val) (x1 : Val) : cl t (m + 3) 2 [x0, x1] = Ev.endRun 2 [0, 1] [x0, x1] (g2 (cl t (m + 2)) [some x0, some x1]) := by
  cases t
  · simp only [cl_f]
    rw [call_l h2 (lk2 (m + 2) _), r2]
  · simp only [cl_t]
    rw [call_t h2 (tk2 m _), r2]
/-- is_bits -/
theorem r3 (s : SS) (x0 : Val) : fnRun f3.N.length f3.ps.length f3.pin s [x0] = Ev.endRun 1 [0] [x0] (s [some x0, none]) := by kernel_rfl
theorem h3 : fI[3]? = some f3 := by kernel_rfl
def g3 (C : Nat → List Val → Rf) : SS := (sSeq (sRet (sAnd (sCall (pinL [0]) (C 1) [(sVar 0)]) (sAnd (sOp (op2 dEq) [(sOp (op1 fLen) [(sVar 0)]), (sLit (.int 6))]) (sOp (op1 fAll) [(sLc (wSq (sVar 0)) (.nm 1) sYes (sCall (pinL [0, 1]) (C 2) [(sVar 1), (sLit (.int 2))]) [1])]))))
  sNil)
theorem tk3 (m : Nat) (C : Nat → List Val → Rf) : (cf (pt.tb (m + 2) C) 60).b (f3.ce false) f3.body = some (g3 C) := by kernel_rfl
theorem lk3 (n : Nat) (C : Nat → List Val → Rf) : (cf (pg.lamP.tb n C) 60).b (f3.ce false) f3.body = some (g3 C) := by kernel_rfl
theorem q3 (t : Bool) (m : Nat) (x0 : Val) : cl t (m + 3) 3 [x0] = Ev.endRun 1 [0] [x0] (g3 (cl t (m + 2)) [some x0, none]) := by
  cases t
  · simp only [cl_f]
    rw [call_l h3 (lk3 (m + 2) _), r3]
  · simp only [cl_t]
    rw [call_t h3 (tk3 m _), r3]
/-- need_bits -/
theorem r4 (s : SS) (x0 : Val) (x1 : Val) : fnRun f4.N.length f4.ps.length f4.pin s [x0, x1] = Ev.endRun 2 [0, 1] [x0, x1] (s [some x0, some x1]) := by kernel_rfl
theorem h4 : fI[4]? = some f4 := by kernel_rfl
def g4 (C : Nat → List Val → Rf) : SS := (sSeq (sIf (sTNot (sTruth (sCall (pinL [0]) (C 3) [(sVar 0)]))) (sSeq (sRaise 2 ["what", "row"] [(sVar 1), (sVar 0)])
  sNil) sNil)
  (sSeq (sRet (sOp (op1 fTuple) [(sVar 0)]))
  sNil))
theorem tk4 (m : Nat) (C : Nat → List Val → Rf) : (cf (pt.tb (m + 2) C) 60).b (f4.ce false) f4.body = some (g4 C) := by kernel_rfl
theorem lk4 (n : Nat) (C : Nat → List Val → Rf) : (cf (pg.lamP.tb n C) 60).b (f4.ce false) f4.body = some (g4 C) := by kernel_rfl
theorem q4 (t : Bool) (m : Nat) (x0 : Val) (x1 : Val) : cl t (m + 3) 4 [x0, x1] = Ev.endRun 2 [0, 1] [x0, x1] (g4 (cl t (m + 2)) [some x0, some x1]) := by
  cases t
  · simp only [cl_f]
    rw [call_l h4 (lk4 (m + 2) _), r4]
  · simp only [cl_t]
    rw [call_t h4 (tk4 m _), r4]
/-- product_of_bits -/
theorem r5 (s : SS) (x0 : Val) (x1 : Val) : fnRun f5.N.length f5.ps.length f5.pin s [x0, x1] = Ev.endRun 2 [0, 1] [x0, x1] (s [some x0, some x1, none, none]) := by kernel_rfl
theorem h5 : fI[5]? = some f5 := by kernel_rfl
def g5 (C : Nat → List Val → Rf) : SS := (sSeq (sRet (sOp (op2 dMod) [(sOp (op2 dAdd) [(sOp (op2 dMul) [(sOp (op1 fSum) [(sVar 0)]), (sOp (op1 fSum) [(sVar 1)])]), (sOp (op1 fSum) [(sLc (wZip (sVar 0) (sVar 1)) (.tp [2, 3]) sYes (sOp (op2 dMul) [(sVar 2), (sVar 3)]) [2, 3])])]), (sLit (.int 2))]))
  sNil)
theorem tk5 (m : Nat) (C : Nat → List Val → Rf) : (cf (pt.tb (m + 2) C) 60).b (f5.ce false) f5.body = some (g5 C) := by kernel_rfl
theorem lk5 (n : Nat) (C : Nat → List Val → Rf) : (cf (pg.lamP.tb n C) 60).b (f5.ce false) f5.body = some (g5 C) := by kernel_rfl
theorem q5 (t : Bool) (m : Nat) (x0 : Val) (x1 : Val) : cl t (m + 3) 5 [x0, x1] = Ev.endRun 2 [0, 1] [x0, x1] (g5 (cl t (m + 2)) [some x0, some x1, none, none]) := by
  cases t
  · simp only [cl_f]
    rw [call_l h5 (lk5 (m + 2) _), r5]
  · simp only [cl_t]
    rw [call_t h5 (tk5 m _), r5]
/-- bit_product -/
theorem r6 (s : SS) (x0 : Val) (x1 : Val) : fnRun f6.N.length f6.ps.length f6.pin s [x0, x1] = Ev.endRun 2 [0, 1] [x0, x1] (s [some x0, some x1, none]) := by kernel_rfl
theorem h6 : fI[6]? = some f6 := by kernel_rfl
def g6 (C : Nat → List Val → Rf) : SS := (sSeq (sSet 2 (sCall (pinL [0, 1]) (C 4) [(sVar 0), (sLit (.str "one"))]))
  (sSeq (sRet (sCall (pinL [0, 1]) (C 5) [(sVar 2), (sCall (pinL [0, 1]) (C 4) [(sVar 1), (sLit (.str "other"))])]))
  sNil))
theorem tk6 (m : Nat) (C : Nat → List Val → Rf) : (cf (pt.tb (m + 2) C) 60).b (f6.ce false) f6.body = some (g6 C) := by kernel_rfl
theorem lk6 (n : Nat) (C : Nat → List Val → Rf) : (cf (pg.lamP.tb n C) 60).b (f6.ce false) f6.body = some (g6 C) := by kernel_rfl
theorem q6 (t : Bool) (m : Nat) (x0 : Val) (x1 : Val) : cl t (m + 3) 6 [x0, x1] = Ev.endRun 2 [0, 1] [x0, x1] (g6 (cl t (m + 2)) [some x0, some x1, none]) := by
  cases t
  · simp only [cl_f]
    rw [call_l h6 (lk6 (m + 2) _), r6]
  · simp only [cl_t]
    rw [call_t h6 (tk6 m _), r6]
/-- value_of_form -/
theorem r7 (s : SS) (x0 : Val) (x1 : Val) : fnRun f7.N.length f7.ps.length f7.pin s [x0, x1] = Ev.endRun 2 [0, 1] [x0, x1] (s [some x0, some x1, none, none, none]) := by kernel_rfl
theorem h7 : fI[7]? = some f7 := by kernel_rfl
def g7 (C : Nat → List Val → Rf) : SS := (sSeq (sSet 2 (sOp (op1 fSum) [(sVar 1)]))
  (sSeq (sRet (sOp (op2 dMod) [(sOp (op2 dAdd) [(sOp (op2 dDiv) [(sOp (op2 dMul) [(sVar 2), (sOp (op2 dSub) [(sVar 2), (sLit (.int 1))])]), (sLit (.int 2))]), (sOp (op1 fSum) [(sLc (wZip (sVar 0) (sVar 1)) (.tp [3, 4]) sYes (sOp (op2 dMul) [(sVar 3), (sVar 4)]) [3, 4])])]), (sLit (.int 2))]))
  sNil))
theorem tk7 (m : Nat) (C : Nat → List Val → Rf) : (cf (pt.tb (m + 2) C) 60).b (f7.ce false) f7.body = some (g7 C) := by kernel_rfl
theorem lk7 (n : Nat) (C : Nat → List Val → Rf) : (cf (pg.lamP.tb n C) 60).b (f7.ce false) f7.body = some (g7 C) := by kernel_rfl
theorem q7 (t : Bool) (m : Nat) (x0 : Val) (x1 : Val) : cl t (m + 3) 7 [x0, x1] = Ev.endRun 2 [0, 1] [x0, x1] (g7 (cl t (m + 2)) [some x0, some x1, none, none, none]) := by
  cases t
  · simp only [cl_f]
    rw [call_l h7 (lk7 (m + 2) _), r7]
  · simp only [cl_t]
    rw [call_t h7 (tk7 m _), r7]
/-- form_value -/
theorem r8 (s : SS) (x0 : Val) (x1 : Val) : fnRun f8.N.length f8.ps.length f8.pin s [x0, x1] = Ev.endRun 2 [0, 1] [x0, x1] (s [some x0, some x1, none]) := by kernel_rfl
theorem h8 : fI[8]? = some f8 := by kernel_rfl
def g8 (C : Nat → List Val → Rf) : SS := (sSeq (sSet 2 (sCall (pinL [0, 1]) (C 4) [(sVar 0), (sLit (.str "form"))]))
  (sSeq (sRet (sCall (pinL [0, 1]) (C 7) [(sVar 2), (sCall (pinL [0, 1]) (C 4) [(sVar 1), (sLit (.str "row"))])]))
  sNil))
theorem tk8 (m : Nat) (C : Nat → List Val → Rf) : (cf (pt.tb (m + 2) C) 60).b (f8.ce false) f8.body = some (g8 C) := by kernel_rfl
theorem lk8 (n : Nat) (C : Nat → List Val → Rf) : (cf (pg.lamP.tb n C) 60).b (f8.ce false) f8.body = some (g8 C) := by kernel_rfl
theorem q8 (t : Bool) (m : Nat) (x0 : Val) (x1 : Val) : cl t (m + 3) 8 [x0, x1] = Ev.endRun 2 [0, 1] [x0, x1] (g8 (cl t (m + 2)) [some x0, some x1, none]) := by
  cases t
  · simp only [cl_f]
    rw [call_l h8 (lk8 (m + 2) _), r8]
  · simp only [cl_t]
    rw [call_t h8 (tk8 m _), r8]
/-- all_bits -/
theorem r9 (s : SS) : fnRun f9.N.length f9.ps.length f9.pin s [] = Ev.endRun 0 [] [] (s [none, none, none, none]) := by kernel_rfl
theorem h9 : fI[9]? = some f9 := by kernel_rfl
def g9 (C : Nat → List Val → Rf) : SS := (sSeq (sSet 0 (sLst [(sTup [])]))
  (sSeq (sFor (wRg1 (sLit (.int 6))) (.nm 1) (sSeq (sSet 2 (sLst []))
  (sSeq (sFor (wSq (sVar 0)) (.nm 3) (sSeq (sDrop (sExt 2 (sLst [(sOp (op2 dAdd) [(sVar 3), (sTup [(sLit (.int 0))])]), (sOp (op2 dAdd) [(sVar 3), (sTup [(sLit (.int 1))])])])))
  sNil))
  (sSeq (sSet 0 (sVar 2))
  sNil))))
  (sSeq (sRet (sVar 0))
  sNil)))
theorem tk9 (m : Nat) (C : Nat → List Val → Rf) : (cf (pt.tb (m + 2) C) 60).b (f9.ce false) f9.body = some (g9 C) := by kernel_rfl
theorem lk9 (n : Nat) (C : Nat → List Val → Rf) : (cf (pg.lamP.tb n C) 60).b (f9.ce false) f9.body = some (g9 C) := by kernel_rfl
theorem q9 (t : Bool) (m : Nat) : cl t (m + 3) 9 [] = Ev.endRun 0 [] [] (g9 (cl t (m + 2)) [none, none, none, none]) := by
  cases t
  · simp only [cl_f]
    rw [call_l h9 (lk9 (m + 2) _), r9]
  · simp only [cl_t]
    rw [call_t h9 (tk9 m _), r9]
/-- is_odd -/
theorem r10 (s : SS) (x0 : Val) : fnRun f10.N.length f10.ps.length f10.pin s [x0] = Ev.endRun 1 [0] [x0] (s [some x0, none]) := by kernel_rfl
theorem h10 : fI[10]? = some f10 := by kernel_rfl
def g10 (C : Nat → List Val → Rf) : SS := (sSeq (sRet (sOp (op2 dEq) [(sOp (op1 fSum) [(sLc (wSq (sCall (pinL []) (C 9) [])) (.nm 1) sYes (sOp (op2 dSub) [(sLit (.int 1)), (sCall (pinL [0, 1]) (C 7) [(sVar 0), (sVar 1)])]) [1])]), (sLit (.int 28))]))
  sNil)
theorem tk10 (m : Nat) (C : Nat → List Val → Rf) : (cf (pt.tb (m + 2) C) 60).b (f10.ce false) f10.body = some (g10 C) := by kernel_rfl
theorem lk10 (n : Nat) (C : Nat → List Val → Rf) : (cf (pg.lamP.tb n C) 60).b (f10.ce false) f10.body = some (g10 C) := by kernel_rfl
theorem q10 (t : Bool) (m : Nat) (x0 : Val) : cl t (m + 3) 10 [x0] = Ev.endRun 1 [0] [x0] (g10 (cl t (m + 2)) [some x0, none]) := by
  cases t
  · simp only [cl_f]
    rw [call_l h10 (lk10 (m + 2) _), r10]
  · simp only [cl_t]
    rw [call_t h10 (tk10 m _), r10]
/-- odd_forms -/
theorem r11 (s : SS) : fnRun f11.N.length f11.ps.length f11.pin s [] = Ev.endRun 0 [] [] (s [none]) := by kernel_rfl
theorem h11 : fI[11]? = some f11 := by kernel_rfl
def g11 (C : Nat → List Val → Rf) : SS := (sSeq (sRet (sOp (op1 fTuple) [(sLc (wSq (sCall (pinL []) (C 9) [])) (.nm 0) (sTruth (sCall (pinL [0]) (C 10) [(sVar 0)])) (sVar 0) [0])]))
  sNil)
theorem tk11 (m : Nat) (C : Nat → List Val → Rf) : (cf (pt.tb (m + 2) C) 60).b (f11.ce false) f11.body = some (g11 C) := by kernel_rfl
theorem lk11 (n : Nat) (C : Nat → List Val → Rf) : (cf (pg.lamP.tb n C) 60).b (f11.ce false) f11.body = some (g11 C) := by kernel_rfl
theorem q11 (t : Bool) (m : Nat) : cl t (m + 3) 11 [] = Ev.endRun 0 [] [] (g11 (cl t (m + 2)) [none]) := by
  cases t
  · simp only [cl_f]
    rw [call_l h11 (lk11 (m + 2) _), r11]
  · simp only [cl_t]
    rw [call_t h11 (tk11 m _), r11]
/-- even_forms -/
theorem r12 (s : SS) : fnRun f12.N.length f12.ps.length f12.pin s [] = Ev.endRun 0 [] [] (s [none]) := by kernel_rfl
theorem h12 : fI[12]? = some f12 := by kernel_rfl
def g12 (C : Nat → List Val → Rf) : SS := (sSeq (sRet (sOp (op1 fTuple) [(sLc (wSq (sCall (pinL []) (C 9) [])) (.nm 0) (sTNot (sTruth (sCall (pinL [0]) (C 10) [(sVar 0)]))) (sVar 0) [0])]))
  sNil)
theorem tk12 (m : Nat) (C : Nat → List Val → Rf) : (cf (pt.tb (m + 2) C) 60).b (f12.ce false) f12.body = some (g12 C) := by kernel_rfl
theorem lk12 (n : Nat) (C : Nat → List Val → Rf) : (cf (pg.lamP.tb n C) 60).b (f12.ce false) f12.body = some (g12 C) := by kernel_rfl
theorem q12 (t : Bool) (m : Nat) : cl t (m + 3) 12 [] = Ev.endRun 0 [] [] (g12 (cl t (m + 2)) [none]) := by
  cases t
  · simp only [cl_f]
    rw [call_l h12 (lk12 (m + 2) _), r12]
  · simp only [cl_t]
    rw [call_t h12 (tk12 m _), r12]
/-- _law_pen -/
theorem r13 (s : SS) (x0 : Val) : fnRun f13.N.length f13.ps.length f13.pin s [x0] = Ev.endRun 1 [0] [x0] (s [some x0, none, none]) := by kernel_rfl
theorem h13 : fI[13]? = some f13 := by kernel_rfl
def g13 (C : Nat → List Val → Rf) : SS := (sSeq (sSet 1 (sLit (.int 0)))
  (sSeq (sFor (wSq (sVar 0)) (.nm 2) (sSeq (sSet 1 (sOp (op2 dMod) [(sOp (op1 fInt) [(sOp (op2 dAdd) [(sOp (op2 dMul) [(sVar 1), (sLit (.int 47))]), (sVar 2)])]), (sLit (.int 1000000007))]))
  sNil))
  (sSeq (sRet (sDisp [((sLit (.str "cells")), (sOp (op1 fList) [(sVar 0)])), ((sLit (.str "at")), (sLit (.int 0))), ((sLit (.str "digits")), (sLit (.int 0))), ((sLit (.str "count")), (sLit (.int 0))), ((sLit (.str "fold")), (sVar 1))]))
  sNil)))
theorem tk13 (m : Nat) (C : Nat → List Val → Rf) : (cf (pt.tb (m + 2) C) 60).b (f13.ce false) f13.body = some (g13 C) := by kernel_rfl
theorem lk13 (n : Nat) (C : Nat → List Val → Rf) : (cf (pg.lamP.tb n C) 60).b (f13.ce false) f13.body = some (g13 C) := by kernel_rfl
theorem q13 (t : Bool) (m : Nat) (x0 : Val) : cl t (m + 3) 13 [x0] = Ev.endRun 1 [0] [x0] (g13 (cl t (m + 2)) [some x0, none, none]) := by
  cases t
  · simp only [cl_f]
    rw [call_l h13 (lk13 (m + 2) _), r13]
  · simp only [cl_t]
    rw [call_t h13 (tk13 m _), r13]
/-- _law_draw -/
theorem r14 (s : SS) (x0 : Val) (x1 : Val) : fnRun f14.N.length f14.ps.length f14.pin s [x0, x1] = Ev.endRun 2 [0, 1] [x0, x1] (s [some x0, some x1, none, none, none]) := by kernel_rfl
theorem h14 : fI[14]? = some f14 := by kernel_rfl
def g14 (C : Nat → List Val → Rf) : SS := (sSeq (sPut 0 (sOp (op2 dAdd) [(sOp (op2 dIx) [(sVar 0), (sLit (.str "count"))]), (sLit (.int 1))]) (sLit (.str "count")))
  (sSeq (sIf (sTAnd (sTruth (sOp (op2 dEq) [(sOp (op2 dIx) [(sVar 0), (sLit (.str "digits"))]), (sLit (.int 0))])) (sTruth (sOp (op2 dLt) [(sOp (op2 dIx) [(sVar 0), (sLit (.str "at"))]), (sOp (op1 fLen) [(sOp (op2 dIx) [(sVar 0), (sLit (.str "cells"))])])]))) (sSeq (sSet 2 (sOp (op2 dIx) [(sOp (op2 dIx) [(sVar 0), (sLit (.str "cells"))]), (sOp (op2 dIx) [(sVar 0), (sLit (.str "at"))])]))
  (sSeq (sPut 0 (sOp (op2 dAdd) [(sOp (op2 dIx) [(sVar 0), (sLit (.str "at"))]), (sLit (.int 1))]) (sLit (.str "at")))
  (sSeq (sIf (sTruth (sOp (op2 dGe) [(sVar 2), (sOp (op2 dPow) [(sLit (.int 10)), (sLit (.int 18))])])) (sSeq (sPut 0 (sOp (op2 dSub) [(sVar 2), (sOp (op2 dPow) [(sLit (.int 10)), (sLit (.int 18))])]) (sLit (.str "digits")))
  sNil) (sSeq (sPut 0 (sOp (op2 dMod) [(sOp (op1 fInt) [(sOp (op2 dAdd) [(sOp (op2 dMul) [(sOp (op2 dIx) [(sVar 0), (sLit (.str "fold"))]), (sLit (.int 69069))]), (sVar 2)])]), (sLit (.int 2147483587))]) (sLit (.str "fold")))
  sNil))
  sNil))) sNil)
  (sSeq (sIf (sTruth (sOp (op2 dGt) [(sOp (op2 dIx) [(sVar 0), (sLit (.str "digits"))]), (sLit (.int 0))])) (sSeq (sSet 3 (sOp (op2 dMod) [(sOp (op1 fInt) [(sOp (op2 dIx) [(sVar 0), (sLit (.str "digits"))])]), (sVar 1)]))
  (sSeq (sPut 0 (sOp (op2 dDiv) [(sOp (op2 dIx) [(sVar 0), (sLit (.str "digits"))]), (sVar 1)]) (sLit (.str "digits")))
  (sSeq (sRet (sVar 3))
  sNil))) sNil)
  (sSeq (sSet 4 (sOp (op2 dMod) [(sOp (op1 fInt) [(sOp (op2 dAdd) [(sOp (op2 dAdd) [(sOp (op2 dMul) [(sOp (op2 dIx) [(sVar 0), (sLit (.str "fold"))]), (sLit (.int 48271))]), (sOp (op2 dMul) [(sOp (op2 dIx) [(sVar 0), (sLit (.str "count"))]), (sLit (.int 7919))])]), (sLit (.int 13))])]), (sLit (.int 2147483647))]))
  (sSeq (sSet 4 (sOp (op2 dMod) [(sOp (op1 fInt) [(sOp (op2 dAdd) [(sOp (op2 dAdd) [(sOp (op2 dMul) [(sVar 4), (sVar 4)]), (sOp (op2 dMul) [(sLit (.int 31)), (sVar 4)])]), (sOp (op2 dIx) [(sVar 0), (sLit (.str "count"))])])]), (sLit (.int 2147483629))]))
  (sSeq (sPut 0 (sOp (op2 dMod) [(sOp (op1 fInt) [(sOp (op2 dAdd) [(sOp (op2 dMul) [(sVar 4), (sLit (.int 16807))]), (sLit (.int 7))])]), (sLit (.int 2147483647))]) (sLit (.str "fold")))
  (sSeq (sRet (sOp (op2 dMod) [(sOp (op1 fInt) [(sOp (op2 dDiv) [(sVar 4), (sLit (.int 64))])]), (sVar 1)]))
  sNil)))))))
theorem tk14 (m : Nat) (C : Nat → List Val → Rf) : (cf (pt.tb (m + 2) C) 60).b (f14.ce false) f14.body = some (g14 C) := by kernel_rfl
theorem lk14 (n : Nat) (C : Nat → List Val → Rf) : (cf (pg.lamP.tb n C) 60).b (f14.ce false) f14.body = some (g14 C) := by kernel_rfl
theorem q14 (t : Bool) (m : Nat) (x0 : Val) (x1 : Val) : cl t (m + 3) 14 [x0, x1] = Ev.endRun 2 [0, 1] [x0, x1] (g14 (cl t (m + 2)) [some x0, some x1, none, none, none]) := by
  cases t
  · simp only [cl_f]
    rw [call_l h14 (lk14 (m + 2) _), r14]
  · simp only [cl_t]
    rw [call_t h14 (tk14 m _), r14]
/-- _law_pick -/
theorem r15 (s : SS) (x0 : Val) (x1 : Val) : fnRun f15.N.length f15.ps.length f15.pin s [x0, x1] = Ev.endRun 2 [0, 1] [x0, x1] (s [some x0, some x1]) := by kernel_rfl
theorem h15 : fI[15]? = some f15 := by kernel_rfl
def g15 (C : Nat → List Val → Rf) : SS := (sSeq (sRet (sOp (op2 dIx) [(sVar 1), (sCall (pinL [0, 1]) (C 14) [(sVar 0), (sOp (op1 fLen) [(sVar 1)])])]))
  sNil)
theorem tk15 (m : Nat) (C : Nat → List Val → Rf) : (cf (pt.tb (m + 2) C) 60).b (f15.ce false) f15.body = some (g15 C) := by kernel_rfl
theorem lk15 (n : Nat) (C : Nat → List Val → Rf) : (cf (pg.lamP.tb n C) 60).b (f15.ce false) f15.body = some (g15 C) := by kernel_rfl
theorem q15 (t : Bool) (m : Nat) (x0 : Val) (x1 : Val) : cl t (m + 3) 15 [x0, x1] = Ev.endRun 2 [0, 1] [x0, x1] (g15 (cl t (m + 2)) [some x0, some x1]) := by
  cases t
  · simp only [cl_f]
    rw [call_l h15 (lk15 (m + 2) _), r15]
  · simp only [cl_t]
    rw [call_t h15 (tk15 m _), r15]
/-- _law_is -/
theorem r16 (s : SS) (x0 : Val) (x1 : Val) : fnRun f16.N.length f16.ps.length f16.pin s [x0, x1] = Ev.endRun 2 [0, 1] [x0, x1] (s [some x0, some x1, none]) := by kernel_rfl
theorem h16 : fI[16]? = some f16 := by kernel_rfl
def g16 (C : Nat → List Val → Rf) : SS := (sSeq (sIf (sTruth (sOp opIsi [(sVar 1), (sLit (.ty .tuple))])) (sSeq (sIf (sTOr (sTNot (sTruth (sOp opIsi [(sVar 0), (sLit (.ty .tuple))]))) (sTruth (sOp (op2 dNe) [(sOp (op1 fLen) [(sVar 0)]), (sOp (op1 fLen) [(sVar 1)])]))) (sSeq (sRet (sLit (.bl false)))
  sNil) sNil)
  (sSeq (sRet (sOp (op2 dEq) [(sLc (wRg1 (sOp (op1 fLen) [(sVar 1)])) (.nm 2) (sTNot (sTruth (sCall (pinL [0, 1]) (C 16) [(sOp (op2 dIx) [(sVar 0), (sVar 2)]), (sOp (op2 dIx) [(sVar 1), (sVar 2)])]))) (sVar 2) [2]), (sLst [])]))
  sNil)) sNil)
  (sSeq (sIf (sTruth (sOp (op2 dIs) [(sVar 1), (sLit .non)])) (sSeq (sRet (sOp (op2 dIs) [(sVar 0), (sLit .non)]))
  sNil) sNil)
  (sSeq (sIf (sTruth (sOp (op2 dIs) [(sVar 1), (sLit (.bl true))])) (sSeq (sRet (sOp (op2 dIs) [(sVar 0), (sLit (.bl true))]))
  sNil) sNil)
  (sSeq (sIf (sTruth (sOp (op2 dIs) [(sVar 1), (sLit (.bl false))])) (sSeq (sRet (sOp (op2 dIs) [(sVar 0), (sLit (.bl false))]))
  sNil) sNil)
  (sSeq (sIf (sTruth (sOp opIsi [(sVar 1), (sLit (.ty .str))])) (sSeq (sRet (sAnd (sOp opIsi [(sVar 0), (sLit (.ty .str))]) (sOp (op2 dEq) [(sVar 0), (sVar 1)])))
  sNil) sNil)
  (sSeq (sRet (sAnd (sOp opIsi [(sVar 0), (sLit (.ty .int))]) (sAnd (sNot (sOp opIsi [(sVar 0), (sLit (.ty .bool))])) (sOp (op2 dEq) [(sVar 0), (sVar 1)]))))
  sNil))))))
theorem tk16 (m : Nat) (C : Nat → List Val → Rf) : (cf (pt.tb (m + 2) C) 60).b (f16.ce false) f16.body = some (g16 C) := by kernel_rfl
theorem lk16 (n : Nat) (C : Nat → List Val → Rf) : (cf (pg.lamP.tb n C) 60).b (f16.ce false) f16.body = some (g16 C) := by kernel_rfl
theorem q16 (t : Bool) (m : Nat) (x0 : Val) (x1 : Val) : cl t (m + 3) 16 [x0, x1] = Ev.endRun 2 [0, 1] [x0, x1] (g16 (cl t (m + 2)) [some x0, some x1, none]) := by
  cases t
  · simp only [cl_f]
    rw [call_l h16 (lk16 (m + 2) _), r16]
  · simp only [cl_t]
    rw [call_t h16 (tk16 m _), r16]
/-- _law_kinds -/
theorem r18 (s : SS) (x0 : Val) : fnRun f18.N.length f18.ps.length f18.pin s [x0] = Ev.endRun 1 [0] [x0] (s [some x0, none]) := by kernel_rfl
theorem h18 : fI[18]? = some f18 := by kernel_rfl
def hc18 (C : Nat → List Val → Rf) : SS := (sSeq (sSet 1 (sLst []))
  (sSeq (sIf (sTruth (sOp (opIsx sub) [(sVar 0), (sLit (.cl 1))])) (sSeq (sDrop (sMut 1 isLst oApp [(sTup [(sLit (.str "number")), (sAttr pg.fl "what" (sVar 0)), (sOp (op1 fRepr) [(sAttr pg.fl "number" (sVar 0))])])]))
  sNil) sNil)
  (sSeq (sIf (sTruth (sOp (opIsx sub) [(sVar 0), (sLit (.cl 2))])) (sSeq (sDrop (sMut 1 isLst oApp [(sTup [(sLit (.str "row")), (sAttr pg.fl "what" (sVar 0)), (sOp (op1 fRepr) [(sAttr pg.fl "row" (sVar 0))])])]))
  sNil) sNil)
  (sSeq (sIf (sTruth (sOp (opIsx sub) [(sVar 0), (sLit (.cl 3))])) (sSeq (sDrop (sMut 1 isLst oApp [(sTup [(sLit (.str "table")), (sAttr pg.fl "what" (sVar 0))])]))
  sNil) sNil)
  (sSeq (sIf (sTruth (sOp (opIsx sub) [(sVar 0), (sLit (.cl 4))])) (sSeq (sDrop (sMut 1 isLst oApp [(sTup [(sLit (.str "points")), (sAttr pg.fl "what" (sVar 0))])]))
  sNil) sNil)
  (sSeq (sIf (sTruth (sOp (opIsx sub) [(sVar 0), (sLit (.cl 5))])) (sSeq (sDrop (sMut 1 isLst oApp [(sTup [(sLit (.str "form")), (sAttr pg.fl "what" (sVar 0))])]))
  sNil) sNil)
  (sSeq (sIf (sTruth (sOp (opIsx sub) [(sVar 0), (sLit (.cl 6))])) (sSeq (sDrop (sMut 1 isLst oApp [(sTup [(sLit (.str "badname")), (sOp (op1 fRepr) [(sAttr pg.fl "name" (sVar 0))])])]))
  sNil) sNil)
  (sSeq (sIf (sTruth (sOp (opIsx sub) [(sVar 0), (sLit (.cl 7))])) (sSeq (sDrop (sMut 1 isLst oApp [(sTup [(sLit (.str "text")), (sAttr pg.fl "line" (sVar 0)), (sAttr pg.fl "word" (sVar 0))])]))
  sNil) sNil)
  (sSeq (sIf (sTruth (sOp (opIsx sub) [(sVar 0), (sLit (.cl 8))])) (sSeq (sDrop (sMut 1 isLst oApp [(sTup [(sLit (.str "place")), (sAttr pg.fl "what" (sVar 0)), (sOp (op1 fRepr) [(sAttr pg.fl "index" (sVar 0))])])]))
  sNil) sNil)
  (sSeq (sRet (sOp (op2 dAdd) [(sVar 1), (sCall (pinL [0]) (C 19) [(sVar 0)])]))
  sNil))))))))))
theorem hk18 (n : Nat) (C : Nat → List Val → Rf) : (cf (pg.hotP.tb n C) 60).b (f18.ce true) f18.body = some (hc18 C) := by kernel_rfl
theorem hq18 (n : Nat) (x0 : Val) : pg.hotP.call (n + 1) 18 [x0] = Ev.endRun 1 [0] [x0] (hc18 (pg.hotP.call n) [some x0, none]) := by
  rw [call_h h18 (hk18 n _), r18]
/-- _law_more_kinds -/
theorem r19 (s : SS) (x0 : Val) : fnRun f19.N.length f19.ps.length f19.pin s [x0] = Ev.endRun 1 [0] [x0] (s [some x0, none]) := by kernel_rfl
theorem h19 : fI[19]? = some f19 := by kernel_rfl
def hc19 (C : Nat → List Val → Rf) : SS := (sSeq (sSet 1 (sLst []))
  (sSeq (sIf (sTruth (sOp (opIsx sub) [(sVar 0), (sLit (.cl 9))])) (sSeq (sDrop (sMut 1 isLst oApp [(sTup [(sLit (.str "noname")), (sOp (op1 fRepr) [(sAttr pg.fl "name" (sVar 0))])])]))
  sNil) sNil)
  (sSeq (sIf (sTruth (sOp (opIsx sub) [(sVar 0), (sLit (.cl 10))])) (sSeq (sDrop (sMut 1 isLst oApp [(sTup [(sLit (.str "taken")), (sOp (op1 fRepr) [(sAttr pg.fl "name" (sVar 0))])])]))
  sNil) sNil)
  (sSeq (sIf (sTruth (sOp (opIsx sub) [(sVar 0), (sLit (.cl 11))])) (sSeq (sDrop (sMut 1 isLst oApp [(sTup [(sLit (.str "unlike")), (sAttr pg.fl "what" (sVar 0))])]))
  sNil) sNil)
  (sSeq (sIf (sTruth (sOp (opIsx sub) [(sVar 0), (sLit (.cl 12))])) (sSeq (sDrop (sMut 1 isLst oApp [(sTup [(sLit (.str "notthere")), (sAttr pg.fl "paper" (sVar 0))])]))
  sNil) sNil)
  (sSeq (sIf (sTruth (sOp (opIsx sub) [(sVar 0), (sLit (.cl 13))])) (sSeq (sDrop (sMut 1 isLst oApp [(sTup [(sLit (.str "many")), (sAttr pg.fl "what" (sVar 0)), (sAttr pg.fl "many" (sVar 0)), (sAttr pg.fl "limit" (sVar 0))])]))
  sNil) sNil)
  (sSeq (sIf (sTruth (sOp (opIsx sub) [(sVar 0), (sLit (.cl 14))])) (sSeq (sDrop (sMut 1 isLst oApp [(sTup [(sLit (.str "kept")), (sAttr pg.fl "promise" (sVar 0)), (sAttr pg.fl "witness" (sVar 0))])]))
  sNil) sNil)
  (sSeq (sIf (sTruth (sOp (opIsx sub) [(sVar 0), (sLit (.cl 15))])) (sSeq (sDrop (sMut 1 isLst oApp [(sTup [(sLit (.str "undo"))])]))
  sNil) sNil)
  (sSeq (sIf (sTruth (sOp (opIsx sub) [(sVar 0), (sLit (.cl 16))])) (sSeq (sDrop (sMut 1 isLst oApp [(sTup [(sLit (.str "redo"))])]))
  sNil) sNil)
  (sSeq (sRet (sVar 1))
  sNil))))))))))
theorem hk19 (n : Nat) (C : Nat → List Val → Rf) : (cf (pg.hotP.tb n C) 60).b (f19.ce true) f19.body = some (hc19 C) := by kernel_rfl
theorem hq19 (n : Nat) (x0 : Val) : pg.hotP.call (n + 1) 19 [x0] = Ev.endRun 1 [0] [x0] (hc19 (pg.hotP.call n) [some x0, none]) := by
  rw [call_h h19 (hk19 n _), r19]
/-- _law_tuples -/
theorem r20 (s : SS) (x0 : Val) (x1 : Val) : fnRun f20.N.length f20.ps.length f20.pin s [x0, x1] = Ev.endRun 2 [0, 1] [x0, x1] (s [some x0, some x1, none, none, none, none, none]) := by kernel_rfl
theorem h20 : fI[20]? = some f20 := by kernel_rfl
def g20 (C : Nat → List Val → Rf) : SS := (sSeq (sSet 2 (sLst [(sTup [])]))
  (sSeq (sFor (wRg1 (sVar 1)) (.nm 3) (sSeq (sSet 4 (sLst []))
  (sSeq (sFor (wSq (sVar 2)) (.nm 5) (sSeq (sDrop (sExt 4 (sLc (wSq (sVar 0)) (.nm 6) sYes (sOp (op2 dAdd) [(sVar 5), (sTup [(sVar 6)])]) [6])))
  sNil))
  (sSeq (sSet 2 (sVar 4))
  sNil))))
  (sSeq (sRet (sVar 2))
  sNil)))
theorem tk20 (m : Nat) (C : Nat → List Val → Rf) : (cf (pt.tb (m + 2) C) 60).b (f20.ce false) f20.body = some (g20 C) := by kernel_rfl
theorem lk20 (n : Nat) (C : Nat → List Val → Rf) : (cf (pg.lamP.tb n C) 60).b (f20.ce false) f20.body = some (g20 C) := by kernel_rfl
theorem q20 (t : Bool) (m : Nat) (x0 : Val) (x1 : Val) : cl t (m + 3) 20 [x0, x1] = Ev.endRun 2 [0, 1] [x0, x1] (g20 (cl t (m + 2)) [some x0, some x1, none, none, none, none, none]) := by
  cases t
  · simp only [cl_f]
    rw [call_l h20 (lk20 (m + 2) _), r20]
  · simp only [cl_t]
    rw [call_t h20 (tk20 m _), r20]
/-- _law_bits_product -/
theorem r21 (s : SS) (x0 : Val) (x1 : Val) : fnRun f21.N.length f21.ps.length f21.pin s [x0, x1] = Ev.endRun 2 [0, 1] [x0, x1] (s [some x0, some x1, none, none, none]) := by kernel_rfl
theorem h21 : fI[21]? = some f21 := by kernel_rfl
def g21 (C : Nat → List Val → Rf) : SS := (sSeq (sSet 2 (sLit (.int 0)))
  (sSeq (sFor (wRg1 (sLit (.int 6))) (.nm 3) (sSeq (sFor (wRg1 (sLit (.int 6))) (.nm 4) (sSeq (sSet 2 (sOp (op2 dAdd) [(sVar 2), (sIte (sTruth (sOp (op2 dNe) [(sVar 3), (sVar 4)])) (sOp (op2 dMul) [(sOp (op2 dIx) [(sVar 0), (sVar 3)]), (sOp (op2 dIx) [(sVar 1), (sVar 4)])]) (sLit (.int 0)))]))
  sNil))
  sNil))
  (sSeq (sRet (sOp (op2 dMod) [(sVar 2), (sLit (.int 2))]))
  sNil)))
theorem tk21 (m : Nat) (C : Nat → List Val → Rf) : (cf (pt.tb (m + 2) C) 60).b (f21.ce false) f21.body = some (g21 C) := by kernel_rfl
theorem lk21 (n : Nat) (C : Nat → List Val → Rf) : (cf (pg.lamP.tb n C) 60).b (f21.ce false) f21.body = some (g21 C) := by kernel_rfl
theorem q21 (t : Bool) (m : Nat) (x0 : Val) (x1 : Val) : cl t (m + 3) 21 [x0, x1] = Ev.endRun 2 [0, 1] [x0, x1] (g21 (cl t (m + 2)) [some x0, some x1, none, none, none]) := by
  cases t
  · simp only [cl_f]
    rw [call_l h21 (lk21 (m + 2) _), r21]
  · simp only [cl_t]
    rw [call_t h21 (tk21 m _), r21]
/-- _law_form_worth -/
theorem r22 (s : SS) (x0 : Val) (x1 : Val) : fnRun f22.N.length f22.ps.length f22.pin s [x0, x1] = Ev.endRun 2 [0, 1] [x0, x1] (s [some x0, some x1, none, none, none]) := by kernel_rfl
theorem h22 : fI[22]? = some f22 := by kernel_rfl
def g22 (C : Nat → List Val → Rf) : SS := (sSeq (sSet 2 (sLit (.int 0)))
  (sSeq (sFor (wRg1 (sLit (.int 6))) (.nm 3) (sSeq (sSet 2 (sOp (op2 dAdd) [(sVar 2), (sOp (op2 dMul) [(sOp (op2 dIx) [(sVar 0), (sVar 3)]), (sOp (op2 dIx) [(sVar 1), (sVar 3)])])]))
  (sSeq (sFor (wRg1 (sVar 3)) (.nm 4) (sSeq (sSet 2 (sOp (op2 dAdd) [(sVar 2), (sOp (op2 dMul) [(sOp (op2 dIx) [(sVar 1), (sVar 3)]), (sOp (op2 dIx) [(sVar 1), (sVar 4)])])]))
  sNil))
  sNil)))
  (sSeq (sRet (sOp (op2 dMod) [(sVar 2), (sLit (.int 2))]))
  sNil)))
theorem tk22 (m : Nat) (C : Nat → List Val → Rf) : (cf (pt.tb (m + 2) C) 60).b (f22.ce false) f22.body = some (g22 C) := by kernel_rfl
theorem lk22 (n : Nat) (C : Nat → List Val → Rf) : (cf (pg.lamP.tb n C) 60).b (f22.ce false) f22.body = some (g22 C) := by kernel_rfl
theorem q22 (t : Bool) (m : Nat) (x0 : Val) (x1 : Val) : cl t (m + 3) 22 [x0, x1] = Ev.endRun 2 [0, 1] [x0, x1] (g22 (cl t (m + 2)) [some x0, some x1, none, none, none]) := by
  cases t
  · simp only [cl_f]
    rw [call_l h22 (lk22 (m + 2) _), r22]
  · simp only [cl_t]
    rw [call_t h22 (tk22 m _), r22]
/-- _law_bit_rows -/
theorem r23 (s : SS) : fnRun f23.N.length f23.ps.length f23.pin s [] = Ev.endRun 0 [] [] (s []) := by kernel_rfl
theorem h23 : fI[23]? = some f23 := by kernel_rfl
def g23 (C : Nat → List Val → Rf) : SS := (sSeq (sRet (sCall (pinL [0, 1]) (C 20) [(sLst [(sLit (.int 0)), (sLit (.int 1))]), (sLit (.int 6))]))
  sNil)
theorem tk23 (m : Nat) (C : Nat → List Val → Rf) : (cf (pt.tb (m + 2) C) 60).b (f23.ce false) f23.body = some (g23 C) := by kernel_rfl
theorem lk23 (n : Nat) (C : Nat → List Val → Rf) : (cf (pg.lamP.tb n C) 60).b (f23.ce false) f23.body = some (g23 C) := by kernel_rfl
theorem q23 (t : Bool) (m : Nat) : cl t (m + 3) 23 [] = Ev.endRun 0 [] [] (g23 (cl t (m + 2)) []) := by
  cases t
  · simp only [cl_f]
    rw [call_l h23 (lk23 (m + 2) _), r23]
  · simp only [cl_t]
    rw [call_t h23 (tk23 m _), r23]
/-- _law_bits_sum -/
theorem r24 (s : SS) (x0 : Val) : fnRun f24.N.length f24.ps.length f24.pin s [x0] = Ev.endRun 1 [0] [x0] (s [some x0, none, none]) := by kernel_rfl
theorem h24 : fI[24]? = some f24 := by kernel_rfl
def g24 (C : Nat → List Val → Rf) : SS := (sSeq (sRet (sOp (op1 fTuple) [(sLc (wRg1 (sLit (.int 6))) (.nm 1) sYes (sOp (op2 dMod) [(sOp (op1 fSum) [(sLc (wSq (sVar 0)) (.nm 2) sYes (sOp (op2 dIx) [(sVar 2), (sVar 1)]) [2])]), (sLit (.int 2))]) [1])]))
  sNil)
theorem tk24 (m : Nat) (C : Nat → List Val → Rf) : (cf (pt.tb (m + 2) C) 60).b (f24.ce false) f24.body = some (g24 C) := by kernel_rfl
theorem lk24 (n : Nat) (C : Nat → List Val → Rf) : (cf (pg.lamP.tb n C) 60).b (f24.ce false) f24.body = some (g24 C) := by kernel_rfl
theorem q24 (t : Bool) (m : Nat) (x0 : Val) : cl t (m + 3) 24 [x0] = Ev.endRun 1 [0] [x0] (g24 (cl t (m + 2)) [some x0, none, none]) := by
  cases t
  · simp only [cl_f]
    rw [call_l h24 (lk24 (m + 2) _), r24]
  · simp only [cl_t]
    rw [call_t h24 (tk24 m _), r24]
/-- _law_odd_rows -/
theorem r25 (s : SS) : fnRun f25.N.length f25.ps.length f25.pin s [] = Ev.endRun 0 [] [] (s [none, none]) := by kernel_rfl
theorem h25 : fI[25]? = some f25 := by kernel_rfl
def g25 (C : Nat → List Val → Rf) : SS := (sSeq (sRet (sOp (op1 fSortX) [(sLc (wSq (sCall (pinL []) (C 23) [])) (.nm 0) (sTruth (sOp (op2 dEq) [(sOp (op1 fLen) [(sLc (wSq (sCall (pinL []) (C 23) [])) (.nm 1) (sTruth (sOp (op2 dEq) [(sCall (pinL [0, 1]) (C 22) [(sVar 0), (sVar 1)]), (sLit (.int 0))])) (sLit (.int 1)) [1])]), (sLit (.int 28))])) (sVar 0) [0])]))
  sNil)
theorem tk25 (m : Nat) (C : Nat → List Val → Rf) : (cf (pt.tb (m + 2) C) 60).b (f25.ce false) f25.body = some (g25 C) := by kernel_rfl
theorem lk25 (n : Nat) (C : Nat → List Val → Rf) : (cf (pg.lamP.tb n C) 60).b (f25.ce false) f25.body = some (g25 C) := by kernel_rfl
theorem q25 (t : Bool) (m : Nat) : cl t (m + 3) 25 [] = Ev.endRun 0 [] [] (g25 (cl t (m + 2)) [none, none]) := by
  cases t
  · simp only [cl_f]
    rw [call_l h25 (lk25 (m + 2) _), r25]
  · simp only [cl_t]
    rw [call_t h25 (tk25 m _), r25]
/-- _law_right -/
theorem r26 (s : SS) (x0 : Val) : fnRun f26.N.length f26.ps.length f26.pin s [x0] = Ev.endRun 1 [0] [x0] (s [some x0, none, none, none, none, none]) := by kernel_rfl
theorem h26 : fI[26]? = some f26 := by kernel_rfl
def g26 (C : Nat → List Val → Rf) : SS := (sSeq (sSet 1 (sCall (pinL []) (C 23) []))
  (sSeq (sPar [2, 3, 4] [(sCall (pinL [0, 1]) (C 15) [(sVar 0), (sVar 1)]), (sCall (pinL [0, 1]) (C 15) [(sVar 0), (sVar 1)]), (sCall (pinL [0, 1]) (C 15) [(sVar 0), (sVar 1)])])
  (sSeq (sIf (sTOr (sTNot (sTruth (sCall (pinL [0, 1]) (C 16) [(sCall (pinL [0, 1]) (C 6) [(sOp (op1 fList) [(sVar 2)]), (sVar 3)]), (sCall (pinL [0, 1]) (C 21) [(sVar 2), (sVar 3)])]))) (sTOr (sTruth (sOp (op2 dNe) [(sCall (pinL [0, 1]) (C 6) [(sVar 3), (sVar 2)]), (sCall (pinL [0, 1]) (C 6) [(sVar 2), (sOp (op1 fList) [(sVar 3)])])])) (sTruth (sOp (op2 dNe) [(sCall (pinL [0, 1]) (C 6) [(sVar 2), (sVar 2)]), (sLit (.int 0))])))) (sSeq (sRet (sLit (.bl false)))
  sNil) sNil)
  (sSeq (sIf (sTNot (sTruth (sCall (pinL [0, 1]) (C 16) [(sCall (pinL [0, 1]) (C 8) [(sOp (op1 fList) [(sVar 4)]), (sVar 2)]), (sCall (pinL [0, 1]) (C 22) [(sVar 4), (sVar 2)])]))) (sSeq (sRet (sLit (.bl false)))
  sNil) sNil)
  (sSeq (sSet 5 (sCall (pinL [0]) (C 24) [(sLst [(sVar 2), (sVar 3)])]))
  (sSeq (sRet (sOp (op2 dEq) [(sCall (pinL [0, 1]) (C 8) [(sVar 4), (sOp (op1 fList) [(sVar 5)])]), (sOp (op2 dMod) [(sOp (op2 dAdd) [(sOp (op2 dAdd) [(sCall (pinL [0, 1]) (C 8) [(sVar 4), (sVar 2)]), (sCall (pinL [0, 1]) (C 8) [(sVar 4), (sVar 3)])]), (sCall (pinL [0, 1]) (C 6) [(sVar 2), (sVar 3)])]), (sLit (.int 2))])]))
  sNil))))))
theorem tk26 (m : Nat) (C : Nat → List Val → Rf) : (cf (pt.tb (m + 2) C) 60).b (f26.ce false) f26.body = some (g26 C) := by kernel_rfl
theorem lk26 (n : Nat) (C : Nat → List Val → Rf) : (cf (pg.lamP.tb n C) 60).b (f26.ce false) f26.body = some (g26 C) := by kernel_rfl
theorem q26 (t : Bool) (m : Nat) (x0 : Val) : cl t (m + 3) 26 [x0] = Ev.endRun 1 [0] [x0] (g26 (cl t (m + 2)) [some x0, none, none, none, none, none]) := by
  cases t
  · simp only [cl_f]
    rw [call_l h26 (lk26 (m + 2) _), r26]
  · simp only [cl_t]
    rw [call_t h26 (tk26 m _), r26]
/-- _law_refused -/
theorem r27 (s : SS) (x0 : Val) : fnRun f27.N.length f27.ps.length f27.pin s [x0] = Ev.endRun 1 [0] [x0] (s [some x0, none, none]) := by kernel_rfl
theorem h27 : fI[27]? = some f27 := by kernel_rfl
def g27 (C L Hc : Nat → List Val → Rf) : SS := (sSeq (sSet 1 (sTup [(sLit (.int 0)), (sLit (.int 1)), (sLit (.int 0)), (sLit (.int 1)), (sLit (.int 1)), (sLit (.int 0))]))
  (sSeq (sSet 2 (sCall (pinL [0, 1]) (C 15) [(sVar 0), (sLst [(sLit .non), (sLit (.int 3)), (sOp opSl2 [(sVar 1), (sLit (.int 5))]), (sOp (op2 dAdd) [(sVar 1), (sTup [(sLit (.int 0))])]), (sOp (op2 dAdd) [(sOp opSl2 [(sVar 1), (sLit (.int 5))]), (sTup [(sLit (.int 2))])]), (sOp (op2 dAdd) [(sOp opSl2 [(sVar 1), (sLit (.int 5))]), (sTup [(sOp (op1 dNeg) [(sLit (.int 1))])])]), (sOp (op2 dAdd) [(sOp opSl2 [(sVar 1), (sLit (.int 5))]), (sTup [(sLit .non)])]), (sOp (op2 dAdd) [(sOp opSl2 [(sVar 1), (sLit (.int 5))]), (sTup [(sLit (.bl true))])]), (sLit (.str "010101"))])]))
  (sSeq (sIf (sTOr (sTruth (sOp (op2 dNe) [(sFault [2] sf (sCall (pinL [0, 1]) (L 6) [(sVar 2), (sVar 2)]) (csu Hc)), (sTup [(sLit (.str "row")), (sLit (.str "one")), (sOp (op1 fRepr) [(sVar 2)])])])) (sTruth (sOp (op2 dNe) [(sCall (pinL [0, 1, 2]) (C 28) [(sLit (.fn 6)), (sVar 1), (sVar 2)]), (sTup [(sLit (.str "row")), (sLit (.str "other")), (sOp (op1 fRepr) [(sVar 2)])])]))) (sSeq (sRet (sLit (.bl false)))
  sNil) sNil)
  (sSeq (sRet (sAnd (sOp (op2 dEq) [(sFault [2] sf (sCall (pinL [0, 1]) (L 8) [(sVar 2), (sVar 2)]) (csu Hc)), (sTup [(sLit (.str "row")), (sLit (.str "form")), (sOp (op1 fRepr) [(sVar 2)])])]) (sOp (op2 dEq) [(sCall (pinL [0, 1, 2]) (C 28) [(sLit (.fn 8)), (sVar 1), (sVar 2)]), (sTup [(sLit (.str "row")), (sLit (.str "row")), (sOp (op1 fRepr) [(sVar 2)])])])))
  sNil))))
theorem tk27 (m : Nat) (C : Nat → List Val → Rf) : (cf (pt.tb (m + 2) C) 60).b (f27.ce false) f27.body = some (g27 C (pg.lamP.call m) (pg.hotP.call m)) := by kernel_rfl
theorem q27 (m : Nat) (x0 : Val) : cl true (m + 3) 27 [x0] = Ev.endRun 1 [0] [x0] (g27 (cl true (m + 2)) (cl false m) (pg.hotP.call m) [some x0, none, none]) := by
  simp only [cl_t, cl_f]
  rw [call_t h27 (tk27 m _), r27]
/-- _law_fault_of -/
theorem r28 (s : SS) (x0 : Val) (x1 : Val) (x2 : Val) : fnRun f28.N.length f28.ps.length f28.pin s [x0, x1, x2] = Ev.endRun 3 [0, 1, 2] [x0, x1, x2] (s [some x0, some x1, some x2]) := by kernel_rfl
theorem h28 : fI[28]? = some f28 := by kernel_rfl
def g28 (C L Hc : Nat → List Val → Rf) : SS := (sSeq (sRet (sFault [0, 1, 2] sf (sCallV 0 (pg.tb 0 fun _ _ => .stuck).has (pg.tb 0 fun _ _ => .stuck).np (pg.tb 0 fun _ _ => .stuck).pin L [(sVar 1), (sVar 2)]) (csu Hc)))
  sNil)
theorem tk28 (m : Nat) (C : Nat → List Val → Rf) : (cf (pt.tb (m + 2) C) 60).b (f28.ce false) f28.body = some (g28 C (pg.lamP.call m) (pg.hotP.call m)) := by kernel_rfl
theorem q28 (m : Nat) (x0 : Val) (x1 : Val) (x2 : Val) : cl true (m + 3) 28 [x0, x1, x2] = Ev.endRun 3 [0, 1, 2] [x0, x1, x2] (g28 (cl true (m + 2)) (cl false m) (pg.hotP.call m) [some x0, some x1, some x2]) := by
  simp only [cl_t, cl_f]
  rw [call_t h28 (tk28 m _), r28]
/-- law -/
theorem r29 (s : SS) (x0 : Val) : fnRun f29.N.length f29.ps.length f29.pin s [x0] = Ev.endRun 1 [0] [x0] (s [some x0, none, none, none, none, none, none, none, none, none]) := by kernel_rfl
theorem h29 : fI[29]? = some f29 := by kernel_rfl
def g29 (C : Nat → List Val → Rf) : SS := (sSeq (sSet 1 (sCall (pinL [0]) (C 13) [(sVar 0)]))
  (sSeq (sSet 2 (sCall (pinL []) (C 25) []))
  (sSeq (sIf (sTOr (sTNot (sTruth (sCall (pinL [0, 1]) (C 16) [(sCall (pinL []) (C 11) []), (sOp (op1 fTuple) [(sVar 2)])]))) (sTOr (sTruth (sOp (op2 dNe) [(sOp (op1 fLen) [(sVar 2)]), (sLit (.int 28))])) (sTNot (sTruth (sCall (pinL [0, 1]) (C 16) [(sCall (pinL []) (C 12) []), (sOp (op1 fTuple) [(sOp (op1 fSortX) [(sLc (wSq (sCall (pinL []) (C 23) [])) (.nm 9) (sTruth (sOp (op2 dNotInV) [(sVar 9), (sVar 2)])) (sVar 9) [9])])])]))))) (sSeq (sRet (sLit (.bl false)))
  sNil) sNil)
  (sSeq (sFor (wRg1 (sLit (.int 20))) (.nm 3) (sSeq (sIf (sTOr (sTNot (sTruth (sCall (pinL [0]) (C 26) [(sVar 1)]))) (sTNot (sTruth (sCall (pinL [0]) (C 27) [(sVar 1)])))) (sSeq (sRet (sLit (.bl false)))
  sNil) sNil)
  sNil))
  (sSeq (sSet 4 (sCall (pinL [0, 1]) (C 15) [(sVar 1), (sVar 2)]))
  (sSeq (sSet 5 (sNewD (.dT [])))
  (sSeq (sFor (wRg1 (sLit (.int 28))) (.nm 6) (sSeq (sFor (wRg1 (sVar 6)) (.nm 7) (sSeq (sSet 8 (sCall (pinL [0]) (C 24) [(sLst [(sOp (op2 dIx) [(sVar 2), (sVar 6)]), (sOp (op2 dIx) [(sVar 2), (sVar 7)])])]))
  (sSeq (sPut 5 (sOp (op2 dAdd) [(sIte (sTruth (sOp (op2 dInV) [(sVar 8), (sVar 5)])) (sOp (op2 dIx) [(sVar 5), (sVar 8)]) (sLit (.int 0))), (sLit (.int 1))]) (sVar 8))
  sNil)))
  sNil))
  (sSeq (sRet (sAnd (sOp (op2 dEq) [(sOp (op1 fLen) [(sVar 5)]), (sLit (.int 63))]) (sAnd (sOp (op2 dEq) [(sOp (op1 fSortSet) [(sLc (wSq (sOp (op1 fSortX) [(sVar 5)])) (.nm 8) sYes (sOp (op2 dIx) [(sVar 5), (sVar 8)]) [8])]), (sLst [(sLit (.int 6))])]) (sOp (op2 dInV) [(sVar 4), (sVar 2)]))))
  sNil))))))))
theorem tk29 (m : Nat) (C : Nat → List Val → Rf) : (cf (pt.tb (m + 2) C) 60).b (f29.ce false) f29.body = some (g29 C) := by kernel_rfl
theorem lk29 (n : Nat) (C : Nat → List Val → Rf) : (cf (pg.lamP.tb n C) 60).b (f29.ce false) f29.body = some (g29 C) := by kernel_rfl
theorem q29 (t : Bool) (m : Nat) (x0 : Val) : cl t (m + 3) 29 [x0] = Ev.endRun 1 [0] [x0] (g29 (cl t (m + 2)) [some x0, none, none, none, none, none, none, none, none, none]) := by
  cases t
  · simp only [cl_f]
    rw [call_l h29 (lk29 (m + 2) _), r29]
  · simp only [cl_t]
    rw [call_t h29 (tk29 m _), r29]
end Hd

namespace Hd
open PySem PySem.Spec PyProof.Rows Ev
abbrev fz (d : D) : Val := ⟨.frz, d⟩
abbrev dI (r : List Int) : List D := r.map .int
abbrev tI (r : List Int) : D := .tup (dI r)
theorem sub_ii : Bt.sub .int .int = true := rfl
theorem sub_ib : Bt.sub .int .bool = false := rfl
theorem sub_it : Bt.sub .int .tuple = false := rfl
theorem sub_tt : Bt.sub .tuple .tuple = true := rfl
theorem sub_is : Bt.sub .int .str = false := rfl
theorem L0 (t m i) : cl t (m + 3) 0 [fz (.int i)] = .ok false (.bl true) [some (fz (.int i))] := by
  rw [q0, g0]
  simp only [isi_i, sub_ii, sub_ib, bind_ok, bind_exc, toS_ok, toS_exc, seq_nx, seq_rt, seq_bk, seq_ct, seq_exc, loop_nx, loop_ct, loop_bk, loop_rt, loop_exc, nox_ok, sVar_at, varR_frz, varR_own, sLit_at, get_0, get_s, set_0, set_s, der_v, der_ali, slotO_s, frz1_v, frz1_ali, frzO_own, frzO_frz, frzs_nil, frzC_some, frzs_v, frzD_some, frzs_ali, sArgs_nil, sArgs_cons, fin_some, op1K_some, op2K_some, sOp1_at, sOp2_at, opNK_some, sOpIsi_at, sOpSl0_at, sOpSl1_at, sOpSl2_at, sOpSl3_at, ders_nil, dersC_some, ders_cons, truF_some, truK_some, sTruth_at, sTNot_at, sTAnd_at, sTOr_at, sIte_at, sAnd_at, sOr_at, andK_bl, orK_bl, sNot_at, notK_bl, truth_bl, truth_int, truth_lst, truth_tup, truth_non, sChain_at, chK_int, sNil_at, sSeq_at, sIf_at, sRet_at, sDrop_at, setF_some, setK_own, setK_frz, setK_ali, sSet_at, sAug_at, augK_int, tupK_0, lstK_0, tupK_1, lstK_1, tupK_2, lstK_2, tupK_3, lstK_3, tupK_4, lstK_4, tupK_5, lstK_5, tupK_6, lstK_6, tupK_7, lstK_7, tupK_8, lstK_8, tupK_9, lstK_9, tupK_10, lstK_10, tupK_11, lstK_11, tupK_12, lstK_12, tupK_13, lstK_13, tupK_14, lstK_14, tupK_15, lstK_15, tupK_16, lstK_16, sTup_at, sLst_at, sNewD_at, pinL_at, normA_nil, normA_cons, normC_frz, normC_own, normC_ali, argV_frz, argV_ownP, argV_ali, argO_own, argO_frz, argC_some, argsV_nil, argsV_cons, outsOf_nil, outsOf_v, outsOf_ali, outsK_own, putOuts_nil, putOuts_cons, optJ_some, callR_ok, callR_exc, callA_some, callN_some, sCall_at, endRun_nx, endRun_v, endRun_exc, endRun_ali, endO_frz, endO_own, outE_0, outE_1, outE_2, outE_3, outE_4, outE_5, outE_6, outV_at, seqK_some, sqK_some, seqB_lst, seqB_tup, seqB_ktp, seqB_scr, wSq_at, wRg1_at, rg2K_int, wRg2_at, zip2_some, zipK_some, wZip_at, bd_nm, bd_tup, bd_ktp, bNames_nil, bNames_cons, lpB_some, sFor_at, lcF_some, lcB_some, lcE_ok, lcH_some, sLc_at, sYes_at, hideS_nil, hideS_cons, hideK_none, hideK_frz, hideK_own, wipeE_nil, wipeE_cons, restE_nil, restE_cons, putSlot_at, mutP_some, mutF_own, mutQ_some, mutK_own, sMut_at, isLst_lst, extE_own, extD_lst, extK_own, sExt_at, sDisp_at, flat2_nil, flat2_cons, putQ_some, putE_own, putD_some, putF_some, putK_some, sPut_at, sPar_at, parB_some, parK_some, normB_nil, normB_cons, normBC_v, bindVs_nil, bindVs_frz, bindVs_own, setTK_some, sSetT_at, raiseK_some, sRaise_at, if_true, if_false, Bool.true_and, Bool.and_true, Bool.false_and, Bool.and_false, Bool.not_true, Bool.not_false, Bool.false_eq_true, reduceIte, List.length_cons, List.length_nil, List.map_cons, List.map_nil, List.contains_cons, List.contains_nil, List.any_nil, List.any_cons, beq_self_eq_true, Bool.true_or, Bool.or_true, Bool.false_or, Bool.or_false, isAli, List.nodup_nil, List.nodup_cons, List.not_mem_nil, not_false_eq_true, and_true, true_and, and_self, decide_true, decide_false, Nat.reduceAdd, Nat.reduceLeDiff, Nat.reduceBEq, Nat.reduceEqDiff, Nat.reduceLT, Int.reducePow, Int.reduceNeg, Int.reduceLT, Int.reduceLE, List.append_nil, List.nil_append, List.cons_append, List.isEmpty_cons, List.isEmpty_nil, decide_eq_true_eq]
theorem L1t (t m xs) : cl t (m + 3) 1 [fz (.tup xs)] = .ok false (.bl true) [some (fz (.tup xs))] := by
  rw [q1, g1]
  simp only [isi_tlt, bind_ok, bind_exc, toS_ok, toS_exc, seq_nx, seq_rt, seq_bk, seq_ct, seq_exc, loop_nx, loop_ct, loop_bk, loop_rt, loop_exc, nox_ok, sVar_at, varR_frz, varR_own, sLit_at, get_0, get_s, set_0, set_s, der_v, der_ali, slotO_s, frz1_v, frz1_ali, frzO_own, frzO_frz, frzs_nil, frzC_some, frzs_v, frzD_some, frzs_ali, sArgs_nil, sArgs_cons, fin_some, op1K_some, op2K_some, sOp1_at, sOp2_at, opNK_some, sOpIsi_at, sOpSl0_at, sOpSl1_at, sOpSl2_at, sOpSl3_at, ders_nil, dersC_some, ders_cons, truF_some, truK_some, sTruth_at, sTNot_at, sTAnd_at, sTOr_at, sIte_at, sAnd_at, sOr_at, andK_bl, orK_bl, sNot_at, notK_bl, truth_bl, truth_int, truth_lst, truth_tup, truth_non, sChain_at, chK_int, sNil_at, sSeq_at, sIf_at, sRet_at, sDrop_at, setF_some, setK_own, setK_frz, setK_ali, sSet_at, sAug_at, augK_int, tupK_0, lstK_0, tupK_1, lstK_1, tupK_2, lstK_2, tupK_3, lstK_3, tupK_4, lstK_4, tupK_5, lstK_5, tupK_6, lstK_6, tupK_7, lstK_7, tupK_8, lstK_8, tupK_9, lstK_9, tupK_10, lstK_10, tupK_11, lstK_11, tupK_12, lstK_12, tupK_13, lstK_13, tupK_14, lstK_14, tupK_15, lstK_15, tupK_16, lstK_16, sTup_at, sLst_at, sNewD_at, pinL_at, normA_nil, normA_cons, normC_frz, normC_own, normC_ali, argV_frz, argV_ownP, argV_ali, argO_own, argO_frz, argC_some, argsV_nil, argsV_cons, outsOf_nil, outsOf_v, outsOf_ali, outsK_own, putOuts_nil, putOuts_cons, optJ_some, callR_ok, callR_exc, callA_some, callN_some, sCall_at, endRun_nx, endRun_v, endRun_exc, endRun_ali, endO_frz, endO_own, outE_0, outE_1, outE_2, outE_3, outE_4, outE_5, outE_6, outV_at, seqK_some, sqK_some, seqB_lst, seqB_tup, seqB_ktp, seqB_scr, wSq_at, wRg1_at, rg2K_int, wRg2_at, zip2_some, zipK_some, wZip_at, bd_nm, bd_tup, bd_ktp, bNames_nil, bNames_cons, lpB_some, sFor_at, lcF_some, lcB_some, lcE_ok, lcH_some, sLc_at, sYes_at, hideS_nil, hideS_cons, hideK_none, hideK_frz, hideK_own, wipeE_nil, wipeE_cons, restE_nil, restE_cons, putSlot_at, mutP_some, mutF_own, mutQ_some, mutK_own, sMut_at, isLst_lst, extE_own, extD_lst, extK_own, sExt_at, sDisp_at, flat2_nil, flat2_cons, putQ_some, putE_own, putD_some, putF_some, putK_some, sPut_at, sPar_at, parB_some, parK_some, normB_nil, normB_cons, normBC_v, bindVs_nil, bindVs_frz, bindVs_own, setTK_some, sSetT_at, raiseK_some, sRaise_at, if_true, if_false, Bool.true_and, Bool.and_true, Bool.false_and, Bool.and_false, Bool.not_true, Bool.not_false, Bool.false_eq_true, reduceIte, List.length_cons, List.length_nil, List.map_cons, List.map_nil, List.contains_cons, List.contains_nil, List.any_nil, List.any_cons, beq_self_eq_true, Bool.true_or, Bool.or_true, Bool.false_or, Bool.or_false, isAli, List.nodup_nil, List.nodup_cons, List.not_mem_nil, not_false_eq_true, and_true, true_and, and_self, decide_true, decide_false, Nat.reduceAdd, Nat.reduceLeDiff, Nat.reduceBEq, Nat.reduceEqDiff, Nat.reduceLT, Int.reducePow, Int.reduceNeg, Int.reduceLT, Int.reduceLE, List.append_nil, List.nil_append, List.cons_append, List.isEmpty_cons, List.isEmpty_nil, decide_eq_true_eq]
theorem L1f (t m xs) : cl t (m + 3) 1 [fz (.lst xs)] = .ok false (.bl true) [some (fz (.lst xs))] := by
  rw [q1, g1]
  simp only [isi_tll, bind_ok, bind_exc, toS_ok, toS_exc, seq_nx, seq_rt, seq_bk, seq_ct, seq_exc, loop_nx, loop_ct, loop_bk, loop_rt, loop_exc, nox_ok, sVar_at, varR_frz, varR_own, sLit_at, get_0, get_s, set_0, set_s, der_v, der_ali, slotO_s, frz1_v, frz1_ali, frzO_own, frzO_frz, frzs_nil, frzC_some, frzs_v, frzD_some, frzs_ali, sArgs_nil, sArgs_cons, fin_some, op1K_some, op2K_some, sOp1_at, sOp2_at, opNK_some, sOpIsi_at, sOpSl0_at, sOpSl1_at, sOpSl2_at, sOpSl3_at, ders_nil, dersC_some, ders_cons, truF_some, truK_some, sTruth_at, sTNot_at, sTAnd_at, sTOr_at, sIte_at, sAnd_at, sOr_at, andK_bl, orK_bl, sNot_at, notK_bl, truth_bl, truth_int, truth_lst, truth_tup, truth_non, sChain_at, chK_int, sNil_at, sSeq_at, sIf_at, sRet_at, sDrop_at, setF_some, setK_own, setK_frz, setK_ali, sSet_at, sAug_at, augK_int, tupK_0, lstK_0, tupK_1, lstK_1, tupK_2, lstK_2, tupK_3, lstK_3, tupK_4, lstK_4, tupK_5, lstK_5, tupK_6, lstK_6, tupK_7, lstK_7, tupK_8, lstK_8, tupK_9, lstK_9, tupK_10, lstK_10, tupK_11, lstK_11, tupK_12, lstK_12, tupK_13, lstK_13, tupK_14, lstK_14, tupK_15, lstK_15, tupK_16, lstK_16, sTup_at, sLst_at, sNewD_at, pinL_at, normA_nil, normA_cons, normC_frz, normC_own, normC_ali, argV_frz, argV_ownP, argV_ali, argO_own, argO_frz, argC_some, argsV_nil, argsV_cons, outsOf_nil, outsOf_v, outsOf_ali, outsK_own, putOuts_nil, putOuts_cons, optJ_some, callR_ok, callR_exc, callA_some, callN_some, sCall_at, endRun_nx, endRun_v, endRun_exc, endRun_ali, endO_frz, endO_own, outE_0, outE_1, outE_2, outE_3, outE_4, outE_5, outE_6, outV_at, seqK_some, sqK_some, seqB_lst, seqB_tup, seqB_ktp, seqB_scr, wSq_at, wRg1_at, rg2K_int, wRg2_at, zip2_some, zipK_some, wZip_at, bd_nm, bd_tup, bd_ktp, bNames_nil, bNames_cons, lpB_some, sFor_at, lcF_some, lcB_some, lcE_ok, lcH_some, sLc_at, sYes_at, hideS_nil, hideS_cons, hideK_none, hideK_frz, hideK_own, wipeE_nil, wipeE_cons, restE_nil, restE_cons, putSlot_at, mutP_some, mutF_own, mutQ_some, mutK_own, sMut_at, isLst_lst, extE_own, extD_lst, extK_own, sExt_at, sDisp_at, flat2_nil, flat2_cons, putQ_some, putE_own, putD_some, putF_some, putK_some, sPut_at, sPar_at, parB_some, parK_some, normB_nil, normB_cons, normBC_v, bindVs_nil, bindVs_frz, bindVs_own, setTK_some, sSetT_at, raiseK_some, sRaise_at, if_true, if_false, Bool.true_and, Bool.and_true, Bool.false_and, Bool.and_false, Bool.not_true, Bool.not_false, Bool.false_eq_true, reduceIte, List.length_cons, List.length_nil, List.map_cons, List.map_nil, List.contains_cons, List.contains_nil, List.any_nil, List.any_cons, beq_self_eq_true, Bool.true_or, Bool.or_true, Bool.false_or, Bool.or_false, isAli, List.nodup_nil, List.nodup_cons, List.not_mem_nil, not_false_eq_true, and_true, true_and, and_self, decide_true, decide_false, Nat.reduceAdd, Nat.reduceLeDiff, Nat.reduceBEq, Nat.reduceEqDiff, Nat.reduceLT, Int.reducePow, Int.reduceNeg, Int.reduceLT, Int.reduceLE, List.append_nil, List.nil_append, List.cons_append, List.isEmpty_cons, List.isEmpty_nil, decide_eq_true_eq]
theorem L1o (t m xs) : cl t (m + 3) 1 [⟨.own, .lst xs⟩] = .ok false (.bl true) [some ⟨.own, .lst xs⟩] := by
  rw [q1, g1]
  simp only [isi_tll, bind_ok, bind_exc, toS_ok, toS_exc, seq_nx, seq_rt, seq_bk, seq_ct, seq_exc, loop_nx, loop_ct, loop_bk, loop_rt, loop_exc, nox_ok, sVar_at, varR_frz, varR_own, sLit_at, get_0, get_s, set_0, set_s, der_v, der_ali, slotO_s, frz1_v, frz1_ali, frzO_own, frzO_frz, frzs_nil, frzC_some, frzs_v, frzD_some, frzs_ali, sArgs_nil, sArgs_cons, fin_some, op1K_some, op2K_some, sOp1_at, sOp2_at, opNK_some, sOpIsi_at, sOpSl0_at, sOpSl1_at, sOpSl2_at, sOpSl3_at, ders_nil, dersC_some, ders_cons, truF_some, truK_some, sTruth_at, sTNot_at, sTAnd_at, sTOr_at, sIte_at, sAnd_at, sOr_at, andK_bl, orK_bl, sNot_at, notK_bl, truth_bl, truth_int, truth_lst, truth_tup, truth_non, sChain_at, chK_int, sNil_at, sSeq_at, sIf_at, sRet_at, sDrop_at, setF_some, setK_own, setK_frz, setK_ali, sSet_at, sAug_at, augK_int, tupK_0, lstK_0, tupK_1, lstK_1, tupK_2, lstK_2, tupK_3, lstK_3, tupK_4, lstK_4, tupK_5, lstK_5, tupK_6, lstK_6, tupK_7, lstK_7, tupK_8, lstK_8, tupK_9, lstK_9, tupK_10, lstK_10, tupK_11, lstK_11, tupK_12, lstK_12, tupK_13, lstK_13, tupK_14, lstK_14, tupK_15, lstK_15, tupK_16, lstK_16, sTup_at, sLst_at, sNewD_at, pinL_at, normA_nil, normA_cons, normC_frz, normC_own, normC_ali, argV_frz, argV_ownP, argV_ali, argO_own, argO_frz, argC_some, argsV_nil, argsV_cons, outsOf_nil, outsOf_v, outsOf_ali, outsK_own, putOuts_nil, putOuts_cons, optJ_some, callR_ok, callR_exc, callA_some, callN_some, sCall_at, endRun_nx, endRun_v, endRun_exc, endRun_ali, endO_frz, endO_own, outE_0, outE_1, outE_2, outE_3, outE_4, outE_5, outE_6, outV_at, seqK_some, sqK_some, seqB_lst, seqB_tup, seqB_ktp, seqB_scr, wSq_at, wRg1_at, rg2K_int, wRg2_at, zip2_some, zipK_some, wZip_at, bd_nm, bd_tup, bd_ktp, bNames_nil, bNames_cons, lpB_some, sFor_at, lcF_some, lcB_some, lcE_ok, lcH_some, sLc_at, sYes_at, hideS_nil, hideS_cons, hideK_none, hideK_frz, hideK_own, wipeE_nil, wipeE_cons, restE_nil, restE_cons, putSlot_at, mutP_some, mutF_own, mutQ_some, mutK_own, sMut_at, isLst_lst, extE_own, extD_lst, extK_own, sExt_at, sDisp_at, flat2_nil, flat2_cons, putQ_some, putE_own, putD_some, putF_some, putK_some, sPut_at, sPar_at, parB_some, parK_some, normB_nil, normB_cons, normBC_v, bindVs_nil, bindVs_frz, bindVs_own, setTK_some, sSetT_at, raiseK_some, sRaise_at, if_true, if_false, Bool.true_and, Bool.and_true, Bool.false_and, Bool.and_false, Bool.not_true, Bool.not_false, Bool.false_eq_true, reduceIte, List.length_cons, List.length_nil, List.map_cons, List.map_nil, List.contains_cons, List.contains_nil, List.any_nil, List.any_cons, beq_self_eq_true, Bool.true_or, Bool.or_true, Bool.false_or, Bool.or_false, isAli, List.nodup_nil, List.nodup_cons, List.not_mem_nil, not_false_eq_true, and_true, true_and, and_self, decide_true, decide_false, Nat.reduceAdd, Nat.reduceLeDiff, Nat.reduceBEq, Nat.reduceEqDiff, Nat.reduceLT, Int.reducePow, Int.reduceNeg, Int.reduceLT, Int.reduceLE, List.append_nil, List.nil_append, List.cons_append, List.isEmpty_cons, List.isEmpty_nil, decide_eq_true_eq]
theorem L2 (t m i n) : cl t (m + 4) 2 [fz (.int i), fz (.int n)] = .ok false (.bl (decide (0 ≤ i) && decide (i < n))) [some (fz (.int i)), some (fz (.int n))] := by
  rw [q2, g2]
  simp only [L0, bind_ok, bind_exc, toS_ok, toS_exc, seq_nx, seq_rt, seq_bk, seq_ct, seq_exc, loop_nx, loop_ct, loop_bk, loop_rt, loop_exc, nox_ok, sVar_at, varR_frz, varR_own, sLit_at, get_0, get_s, set_0, set_s, der_v, der_ali, slotO_s, frz1_v, frz1_ali, frzO_own, frzO_frz, frzs_nil, frzC_some, frzs_v, frzD_some, frzs_ali, sArgs_nil, sArgs_cons, fin_some, op1K_some, op2K_some, sOp1_at, sOp2_at, opNK_some, sOpIsi_at, sOpSl0_at, sOpSl1_at, sOpSl2_at, sOpSl3_at, ders_nil, dersC_some, ders_cons, truF_some, truK_some, sTruth_at, sTNot_at, sTAnd_at, sTOr_at, sIte_at, sAnd_at, sOr_at, andK_bl, orK_bl, sNot_at, notK_bl, truth_bl, truth_int, truth_lst, truth_tup, truth_non, sChain_at, chK_int, sNil_at, sSeq_at, sIf_at, sRet_at, sDrop_at, setF_some, setK_own, setK_frz, setK_ali, sSet_at, sAug_at, augK_int, tupK_0, lstK_0, tupK_1, lstK_1, tupK_2, lstK_2, tupK_3, lstK_3, tupK_4, lstK_4, tupK_5, lstK_5, tupK_6, lstK_6, tupK_7, lstK_7, tupK_8, lstK_8, tupK_9, lstK_9, tupK_10, lstK_10, tupK_11, lstK_11, tupK_12, lstK_12, tupK_13, lstK_13, tupK_14, lstK_14, tupK_15, lstK_15, tupK_16, lstK_16, sTup_at, sLst_at, sNewD_at, pinL_at, normA_nil, normA_cons, normC_frz, normC_own, normC_ali, argV_frz, argV_ownP, argV_ali, argO_own, argO_frz, argC_some, argsV_nil, argsV_cons, outsOf_nil, outsOf_v, outsOf_ali, outsK_own, putOuts_nil, putOuts_cons, optJ_some, callR_ok, callR_exc, callA_some, callN_some, sCall_at, endRun_nx, endRun_v, endRun_exc, endRun_ali, endO_frz, endO_own, outE_0, outE_1, outE_2, outE_3, outE_4, outE_5, outE_6, outV_at, seqK_some, sqK_some, seqB_lst, seqB_tup, seqB_ktp, seqB_scr, wSq_at, wRg1_at, rg2K_int, wRg2_at, zip2_some, zipK_some, wZip_at, bd_nm, bd_tup, bd_ktp, bNames_nil, bNames_cons, lpB_some, sFor_at, lcF_some, lcB_some, lcE_ok, lcH_some, sLc_at, sYes_at, hideS_nil, hideS_cons, hideK_none, hideK_frz, hideK_own, wipeE_nil, wipeE_cons, restE_nil, restE_cons, putSlot_at, mutP_some, mutF_own, mutQ_some, mutK_own, sMut_at, isLst_lst, extE_own, extD_lst, extK_own, sExt_at, sDisp_at, flat2_nil, flat2_cons, putQ_some, putE_own, putD_some, putF_some, putK_some, sPut_at, sPar_at, parB_some, parK_some, normB_nil, normB_cons, normBC_v, bindVs_nil, bindVs_frz, bindVs_own, setTK_some, sSetT_at, raiseK_some, sRaise_at, if_true, if_false, Bool.true_and, Bool.and_true, Bool.false_and, Bool.and_false, Bool.not_true, Bool.not_false, Bool.false_eq_true, reduceIte, List.length_cons, List.length_nil, List.map_cons, List.map_nil, List.contains_cons, List.contains_nil, List.any_nil, List.any_cons, beq_self_eq_true, Bool.true_or, Bool.or_true, Bool.false_or, Bool.or_false, isAli, List.nodup_nil, List.nodup_cons, List.not_mem_nil, not_false_eq_true, and_true, true_and, and_self, decide_true, decide_false, Nat.reduceAdd, Nat.reduceLeDiff, Nat.reduceBEq, Nat.reduceEqDiff, Nat.reduceLT, Int.reducePow, Int.reduceNeg, Int.reduceLT, Int.reduceLE, List.append_nil, List.nil_append, List.cons_append, List.isEmpty_cons, List.isEmpty_nil, decide_eq_true_eq]
  by_cases h : 0 ≤ i
  · simp only [h, bind_ok, bind_exc, toS_ok, toS_exc, seq_nx, seq_rt, seq_bk, seq_ct, seq_exc, loop_nx, loop_ct, loop_bk, loop_rt, loop_exc, nox_ok, sVar_at, varR_frz, varR_own, sLit_at, get_0, get_s, set_0, set_s, der_v, der_ali, slotO_s, frz1_v, frz1_ali, frzO_own, frzO_frz, frzs_nil, frzC_some, frzs_v, frzD_some, frzs_ali, sArgs_nil, sArgs_cons, fin_some, op1K_some, op2K_some, sOp1_at, sOp2_at, opNK_some, sOpIsi_at, sOpSl0_at, sOpSl1_at, sOpSl2_at, sOpSl3_at, ders_nil, dersC_some, ders_cons, truF_some, truK_some, sTruth_at, sTNot_at, sTAnd_at, sTOr_at, sIte_at, sAnd_at, sOr_at, andK_bl, orK_bl, sNot_at, notK_bl, truth_bl, truth_int, truth_lst, truth_tup, truth_non, sChain_at, chK_int, sNil_at, sSeq_at, sIf_at, sRet_at, sDrop_at, setF_some, setK_own, setK_frz, setK_ali, sSet_at, sAug_at, augK_int, tupK_0, lstK_0, tupK_1, lstK_1, tupK_2, lstK_2, tupK_3, lstK_3, tupK_4, lstK_4, tupK_5, lstK_5, tupK_6, lstK_6, tupK_7, lstK_7, tupK_8, lstK_8, tupK_9, lstK_9, tupK_10, lstK_10, tupK_11, lstK_11, tupK_12, lstK_12, tupK_13, lstK_13, tupK_14, lstK_14, tupK_15, lstK_15, tupK_16, lstK_16, sTup_at, sLst_at, sNewD_at, pinL_at, normA_nil, normA_cons, normC_frz, normC_own, normC_ali, argV_frz, argV_ownP, argV_ali, argO_own, argO_frz, argC_some, argsV_nil, argsV_cons, outsOf_nil, outsOf_v, outsOf_ali, outsK_own, putOuts_nil, putOuts_cons, optJ_some, callR_ok, callR_exc, callA_some, callN_some, sCall_at, endRun_nx, endRun_v, endRun_exc, endRun_ali, endO_frz, endO_own, outE_0, outE_1, outE_2, outE_3, outE_4, outE_5, outE_6, outV_at, seqK_some, sqK_some, seqB_lst, seqB_tup, seqB_ktp, seqB_scr, wSq_at, wRg1_at, rg2K_int, wRg2_at, zip2_some, zipK_some, wZip_at, bd_nm, bd_tup, bd_ktp, bNames_nil, bNames_cons, lpB_some, sFor_at, lcF_some, lcB_some, lcE_ok, lcH_some, sLc_at, sYes_at, hideS_nil, hideS_cons, hideK_none, hideK_frz, hideK_own, wipeE_nil, wipeE_cons, restE_nil, restE_cons, putSlot_at, mutP_some, mutF_own, mutQ_some, mutK_own, sMut_at, isLst_lst, extE_own, extD_lst, extK_own, sExt_at, sDisp_at, flat2_nil, flat2_cons, putQ_some, putE_own, putD_some, putF_some, putK_some, sPut_at, sPar_at, parB_some, parK_some, normB_nil, normB_cons, normBC_v, bindVs_nil, bindVs_frz, bindVs_own, setTK_some, sSetT_at, raiseK_some, sRaise_at, if_true, if_false, Bool.true_and, Bool.and_true, Bool.false_and, Bool.and_false, Bool.not_true, Bool.not_false, Bool.false_eq_true, reduceIte, List.length_cons, List.length_nil, List.map_cons, List.map_nil, List.contains_cons, List.contains_nil, List.any_nil, List.any_cons, beq_self_eq_true, Bool.true_or, Bool.or_true, Bool.false_or, Bool.or_false, isAli, List.nodup_nil, List.nodup_cons, List.not_mem_nil, not_false_eq_true, and_true, true_and, and_self, decide_true, decide_false, Nat.reduceAdd, Nat.reduceLeDiff, Nat.reduceBEq, Nat.reduceEqDiff, Nat.reduceLT, Int.reducePow, Int.reduceNeg, Int.reduceLT, Int.reduceLE, List.append_nil, List.nil_append, List.cons_append, List.isEmpty_cons, List.isEmpty_nil, decide_eq_true_eq]
  · simp only [h, bind_ok, bind_exc, toS_ok, toS_exc, seq_nx, seq_rt, seq_bk, seq_ct, seq_exc, loop_nx, loop_ct, loop_bk, loop_rt, loop_exc, nox_ok, sVar_at, varR_frz, varR_own, sLit_at, get_0, get_s, set_0, set_s, der_v, der_ali, slotO_s, frz1_v, frz1_ali, frzO_own, frzO_frz, frzs_nil, frzC_some, frzs_v, frzD_some, frzs_ali, sArgs_nil, sArgs_cons, fin_some, op1K_some, op2K_some, sOp1_at, sOp2_at, opNK_some, sOpIsi_at, sOpSl0_at, sOpSl1_at, sOpSl2_at, sOpSl3_at, ders_nil, dersC_some, ders_cons, truF_some, truK_some, sTruth_at, sTNot_at, sTAnd_at, sTOr_at, sIte_at, sAnd_at, sOr_at, andK_bl, orK_bl, sNot_at, notK_bl, truth_bl, truth_int, truth_lst, truth_tup, truth_non, sChain_at, chK_int, sNil_at, sSeq_at, sIf_at, sRet_at, sDrop_at, setF_some, setK_own, setK_frz, setK_ali, sSet_at, sAug_at, augK_int, tupK_0, lstK_0, tupK_1, lstK_1, tupK_2, lstK_2, tupK_3, lstK_3, tupK_4, lstK_4, tupK_5, lstK_5, tupK_6, lstK_6, tupK_7, lstK_7, tupK_8, lstK_8, tupK_9, lstK_9, tupK_10, lstK_10, tupK_11, lstK_11, tupK_12, lstK_12, tupK_13, lstK_13, tupK_14, lstK_14, tupK_15, lstK_15, tupK_16, lstK_16, sTup_at, sLst_at, sNewD_at, pinL_at, normA_nil, normA_cons, normC_frz, normC_own, normC_ali, argV_frz, argV_ownP, argV_ali, argO_own, argO_frz, argC_some, argsV_nil, argsV_cons, outsOf_nil, outsOf_v, outsOf_ali, outsK_own, putOuts_nil, putOuts_cons, optJ_some, callR_ok, callR_exc, callA_some, callN_some, sCall_at, endRun_nx, endRun_v, endRun_exc, endRun_ali, endO_frz, endO_own, outE_0, outE_1, outE_2, outE_3, outE_4, outE_5, outE_6, outV_at, seqK_some, sqK_some, seqB_lst, seqB_tup, seqB_ktp, seqB_scr, wSq_at, wRg1_at, rg2K_int, wRg2_at, zip2_some, zipK_some, wZip_at, bd_nm, bd_tup, bd_ktp, bNames_nil, bNames_cons, lpB_some, sFor_at, lcF_some, lcB_some, lcE_ok, lcH_some, sLc_at, sYes_at, hideS_nil, hideS_cons, hideK_none, hideK_frz, hideK_own, wipeE_nil, wipeE_cons, restE_nil, restE_cons, putSlot_at, mutP_some, mutF_own, mutQ_some, mutK_own, sMut_at, isLst_lst, extE_own, extD_lst, extK_own, sExt_at, sDisp_at, flat2_nil, flat2_cons, putQ_some, putE_own, putD_some, putF_some, putK_some, sPut_at, sPar_at, parB_some, parK_some, normB_nil, normB_cons, normBC_v, bindVs_nil, bindVs_frz, bindVs_own, setTK_some, sSetT_at, raiseK_some, sRaise_at, if_true, if_false, Bool.true_and, Bool.and_true, Bool.false_and, Bool.and_false, Bool.not_true, Bool.not_false, Bool.false_eq_true, reduceIte, List.length_cons, List.length_nil, List.map_cons, List.map_nil, List.contains_cons, List.contains_nil, List.any_nil, List.any_cons, beq_self_eq_true, Bool.true_or, Bool.or_true, Bool.false_or, Bool.or_false, isAli, List.nodup_nil, List.nodup_cons, List.not_mem_nil, not_false_eq_true, and_true, true_and, and_self, decide_true, decide_false, Nat.reduceAdd, Nat.reduceLeDiff, Nat.reduceBEq, Nat.reduceEqDiff, Nat.reduceLT, Int.reducePow, Int.reduceNeg, Int.reduceLT, Int.reduceLE, List.append_nil, List.nil_append, List.cons_append, List.isEmpty_cons, List.isEmpty_nil, decide_eq_true_eq]
structure Row (r : List Int) : Prop where
  len : r.length = 6
  bit : ∀ x ∈ r, x = 0 ∨ x = 1
inductive Arg (r : List Int) : Val → Prop where
  | t : Arg r (fz (tI r))
  | l : Arg r (fz (.lst (dI r)))
  | o : Arg r ⟨.own, .lst (dI r)⟩
theorem len6 {r : List Int} (h : Row r) : ((dI r).length : Int) = 6 := by simp [h.len]
theorem L3 (t m r) (h : Row r) (x : Val) (hx : Arg r x) : cl t (m + 5) 3 [x] = .ok false (.bl true) [some (fz x.d)] := by
  have it : ∀ d0 : D, ∀ y ∈ r, lcB sYes (sCall (pinL [0, 1]) (cl t (m + 4) 2) [sVar 1, sLit (.int 2)]) [1] ((Tgt.nm 1).bd (.int y) [some (fz d0), none]) = .ok (some (.bl true)) [some (fz d0), none] := fun d0 i hi => by
    have e : (decide (0 ≤ i) && decide (i < 2)) = true := by rcases h.bit i hi with rfl | rfl <;> decide
    simp only [L2 t m, e, bind_ok, bind_exc, toS_ok, toS_exc, seq_nx, seq_rt, seq_bk, seq_ct, seq_exc, loop_nx, loop_ct, loop_bk, loop_rt, loop_exc, nox_ok, sVar_at, varR_frz, varR_own, sLit_at, get_0, get_s, set_0, set_s, der_v, der_ali, slotO_s, frz1_v, frz1_ali, frzO_own, frzO_frz, frzs_nil, frzC_some, frzs_v, frzD_some, frzs_ali, sArgs_nil, sArgs_cons, fin_some, op1K_some, op2K_some, sOp1_at, sOp2_at, opNK_some, sOpIsi_at, sOpSl0_at, sOpSl1_at, sOpSl2_at, sOpSl3_at, ders_nil, dersC_some, ders_cons, truF_some, truK_some, sTruth_at, sTNot_at, sTAnd_at, sTOr_at, sIte_at, sAnd_at, sOr_at, andK_bl, orK_bl, sNot_at, notK_bl, truth_bl, truth_int, truth_lst, truth_tup, truth_non, sChain_at, chK_int, sNil_at, sSeq_at, sIf_at, sRet_at, sDrop_at, setF_some, setK_own, setK_frz, setK_ali, sSet_at, sAug_at, augK_int, tupK_0, lstK_0, tupK_1, lstK_1, tupK_2, lstK_2, tupK_3, lstK_3, tupK_4, lstK_4, tupK_5, lstK_5, tupK_6, lstK_6, tupK_7, lstK_7, tupK_8, lstK_8, tupK_9, lstK_9, tupK_10, lstK_10, tupK_11, lstK_11, tupK_12, lstK_12, tupK_13, lstK_13, tupK_14, lstK_14, tupK_15, lstK_15, tupK_16, lstK_16, sTup_at, sLst_at, sNewD_at, pinL_at, normA_nil, normA_cons, normC_frz, normC_own, normC_ali, argV_frz, argV_ownP, argV_ali, argO_own, argO_frz, argC_some, argsV_nil, argsV_cons, outsOf_nil, outsOf_v, outsOf_ali, outsK_own, putOuts_nil, putOuts_cons, optJ_some, callR_ok, callR_exc, callA_some, callN_some, sCall_at, endRun_nx, endRun_v, endRun_exc, endRun_ali, endO_frz, endO_own, outE_0, outE_1, outE_2, outE_3, outE_4, outE_5, outE_6, outV_at, seqK_some, sqK_some, seqB_lst, seqB_tup, seqB_ktp, seqB_scr, wSq_at, wRg1_at, rg2K_int, wRg2_at, zip2_some, zipK_some, wZip_at, bd_nm, bd_tup, bd_ktp, bNames_nil, bNames_cons, lpB_some, sFor_at, lcF_some, lcB_some, lcE_ok, lcH_some, sLc_at, sYes_at, hideS_nil, hideS_cons, hideK_none, hideK_frz, hideK_own, wipeE_nil, wipeE_cons, restE_nil, restE_cons, putSlot_at, mutP_some, mutF_own, mutQ_some, mutK_own, sMut_at, isLst_lst, extE_own, extD_lst, extK_own, sExt_at, sDisp_at, flat2_nil, flat2_cons, putQ_some, putE_own, putD_some, putF_some, putK_some, sPut_at, sPar_at, parB_some, parK_some, normB_nil, normB_cons, normBC_v, bindVs_nil, bindVs_frz, bindVs_own, setTK_some, sSetT_at, raiseK_some, sRaise_at, if_true, if_false, Bool.true_and, Bool.and_true, Bool.false_and, Bool.and_false, Bool.not_true, Bool.not_false, Bool.false_eq_true, reduceIte, List.length_cons, List.length_nil, List.map_cons, List.map_nil, List.contains_cons, List.contains_nil, List.any_nil, List.any_cons, beq_self_eq_true, Bool.true_or, Bool.or_true, Bool.false_or, Bool.or_false, isAli, List.nodup_nil, List.nodup_cons, List.not_mem_nil, not_false_eq_true, and_true, true_and, and_self, decide_true, decide_false, Nat.reduceAdd, Nat.reduceLeDiff, Nat.reduceBEq, Nat.reduceEqDiff, Nat.reduceLT, Int.reducePow, Int.reduceNeg, Int.reduceLT, Int.reduceLE, List.append_nil, List.nil_append, List.cons_append, List.isEmpty_cons, List.isEmpty_nil, decide_eq_true_eq]
  have key : ∀ d0 : D, lcS (Tgt.nm 1).bd sYes (sCall (pinL [0, 1]) (cl t (m + 4) 2) [sVar 1, sLit (.int 2)]) [1] (dI r) [] [some (fz d0), none] = .ok ((r.map fun _ => true).map .bl) [some (fz d0), none] := fun d0 => by
    rw [lcS_mapv r .int (fun _ => .bl true) (it d0) (by rw [h.len]; decide)]
    simp
  have al : (r.map fun _ => true).all id = true := by simp
  rw [q3, g3]
  cases hx with
  | t =>
    simp only [L1t, fLen_t, len6 h, eq_ii, bind_ok, bind_exc, toS_ok, toS_exc, seq_nx, seq_rt, seq_bk, seq_ct, seq_exc, loop_nx, loop_ct, loop_bk, loop_rt, loop_exc, nox_ok, sVar_at, varR_frz, varR_own, sLit_at, get_0, get_s, set_0, set_s, der_v, der_ali, slotO_s, frz1_v, frz1_ali, frzO_own, frzO_frz, frzs_nil, frzC_some, frzs_v, frzD_some, frzs_ali, sArgs_nil, sArgs_cons, fin_some, op1K_some, op2K_some, sOp1_at, sOp2_at, opNK_some, sOpIsi_at, sOpSl0_at, sOpSl1_at, sOpSl2_at, sOpSl3_at, ders_nil, dersC_some, ders_cons, truF_some, truK_some, sTruth_at, sTNot_at, sTAnd_at, sTOr_at, sIte_at, sAnd_at, sOr_at, andK_bl, orK_bl, sNot_at, notK_bl, truth_bl, truth_int, truth_lst, truth_tup, truth_non, sChain_at, chK_int, sNil_at, sSeq_at, sIf_at, sRet_at, sDrop_at, setF_some, setK_own, setK_frz, setK_ali, sSet_at, sAug_at, augK_int, tupK_0, lstK_0, tupK_1, lstK_1, tupK_2, lstK_2, tupK_3, lstK_3, tupK_4, lstK_4, tupK_5, lstK_5, tupK_6, lstK_6, tupK_7, lstK_7, tupK_8, lstK_8, tupK_9, lstK_9, tupK_10, lstK_10, tupK_11, lstK_11, tupK_12, lstK_12, tupK_13, lstK_13, tupK_14, lstK_14, tupK_15, lstK_15, tupK_16, lstK_16, sTup_at, sLst_at, sNewD_at, pinL_at, normA_nil, normA_cons, normC_frz, normC_own, normC_ali, argV_frz, argV_ownP, argV_ali, argO_own, argO_frz, argC_some, argsV_nil, argsV_cons, outsOf_nil, outsOf_v, outsOf_ali, outsK_own, putOuts_nil, putOuts_cons, optJ_some, callR_ok, callR_exc, callA_some, callN_some, sCall_at, endRun_nx, endRun_v, endRun_exc, endRun_ali, endO_frz, endO_own, outE_0, outE_1, outE_2, outE_3, outE_4, outE_5, outE_6, outV_at, seqK_some, sqK_some, seqB_lst, seqB_tup, seqB_ktp, seqB_scr, wSq_at, wRg1_at, rg2K_int, wRg2_at, zip2_some, zipK_some, wZip_at, bd_nm, bd_tup, bd_ktp, bNames_nil, bNames_cons, lpB_some, sFor_at, lcF_some, lcB_some, lcE_ok, lcH_some, sLc_at, sYes_at, hideS_nil, hideS_cons, hideK_none, hideK_frz, hideK_own, wipeE_nil, wipeE_cons, restE_nil, restE_cons, putSlot_at, mutP_some, mutF_own, mutQ_some, mutK_own, sMut_at, isLst_lst, extE_own, extD_lst, extK_own, sExt_at, sDisp_at, flat2_nil, flat2_cons, putQ_some, putE_own, putD_some, putF_some, putK_some, sPut_at, sPar_at, parB_some, parK_some, normB_nil, normB_cons, normBC_v, bindVs_nil, bindVs_frz, bindVs_own, setTK_some, sSetT_at, raiseK_some, sRaise_at, if_true, if_false, Bool.true_and, Bool.and_true, Bool.false_and, Bool.and_false, Bool.not_true, Bool.not_false, Bool.false_eq_true, reduceIte, List.length_cons, List.length_nil, List.map_cons, List.map_nil, List.contains_cons, List.contains_nil, List.any_nil, List.any_cons, beq_self_eq_true, Bool.true_or, Bool.or_true, Bool.false_or, Bool.or_false, isAli, List.nodup_nil, List.nodup_cons, List.not_mem_nil, not_false_eq_true, and_true, true_and, and_self, decide_true, decide_false, Nat.reduceAdd, Nat.reduceLeDiff, Nat.reduceBEq, Nat.reduceEqDiff, Nat.reduceLT, Int.reducePow, Int.reduceNeg, Int.reduceLT, Int.reduceLE, List.append_nil, List.nil_append, List.cons_append, List.isEmpty_cons, List.isEmpty_nil, decide_eq_true_eq]
    rw [key]
    simp only [fAll_l, al, bind_ok, bind_exc, toS_ok, toS_exc, seq_nx, seq_rt, seq_bk, seq_ct, seq_exc, loop_nx, loop_ct, loop_bk, loop_rt, loop_exc, nox_ok, sVar_at, varR_frz, varR_own, sLit_at, get_0, get_s, set_0, set_s, der_v, der_ali, slotO_s, frz1_v, frz1_ali, frzO_own, frzO_frz, frzs_nil, frzC_some, frzs_v, frzD_some, frzs_ali, sArgs_nil, sArgs_cons, fin_some, op1K_some, op2K_some, sOp1_at, sOp2_at, opNK_some, sOpIsi_at, sOpSl0_at, sOpSl1_at, sOpSl2_at, sOpSl3_at, ders_nil, dersC_some, ders_cons, truF_some, truK_some, sTruth_at, sTNot_at, sTAnd_at, sTOr_at, sIte_at, sAnd_at, sOr_at, andK_bl, orK_bl, sNot_at, notK_bl, truth_bl, truth_int, truth_lst, truth_tup, truth_non, sChain_at, chK_int, sNil_at, sSeq_at, sIf_at, sRet_at, sDrop_at, setF_some, setK_own, setK_frz, setK_ali, sSet_at, sAug_at, augK_int, tupK_0, lstK_0, tupK_1, lstK_1, tupK_2, lstK_2, tupK_3, lstK_3, tupK_4, lstK_4, tupK_5, lstK_5, tupK_6, lstK_6, tupK_7, lstK_7, tupK_8, lstK_8, tupK_9, lstK_9, tupK_10, lstK_10, tupK_11, lstK_11, tupK_12, lstK_12, tupK_13, lstK_13, tupK_14, lstK_14, tupK_15, lstK_15, tupK_16, lstK_16, sTup_at, sLst_at, sNewD_at, pinL_at, normA_nil, normA_cons, normC_frz, normC_own, normC_ali, argV_frz, argV_ownP, argV_ali, argO_own, argO_frz, argC_some, argsV_nil, argsV_cons, outsOf_nil, outsOf_v, outsOf_ali, outsK_own, putOuts_nil, putOuts_cons, optJ_some, callR_ok, callR_exc, callA_some, callN_some, sCall_at, endRun_nx, endRun_v, endRun_exc, endRun_ali, endO_frz, endO_own, outE_0, outE_1, outE_2, outE_3, outE_4, outE_5, outE_6, outV_at, seqK_some, sqK_some, seqB_lst, seqB_tup, seqB_ktp, seqB_scr, wSq_at, wRg1_at, rg2K_int, wRg2_at, zip2_some, zipK_some, wZip_at, bd_nm, bd_tup, bd_ktp, bNames_nil, bNames_cons, lpB_some, sFor_at, lcF_some, lcB_some, lcE_ok, lcH_some, sLc_at, sYes_at, hideS_nil, hideS_cons, hideK_none, hideK_frz, hideK_own, wipeE_nil, wipeE_cons, restE_nil, restE_cons, putSlot_at, mutP_some, mutF_own, mutQ_some, mutK_own, sMut_at, isLst_lst, extE_own, extD_lst, extK_own, sExt_at, sDisp_at, flat2_nil, flat2_cons, putQ_some, putE_own, putD_some, putF_some, putK_some, sPut_at, sPar_at, parB_some, parK_some, normB_nil, normB_cons, normBC_v, bindVs_nil, bindVs_frz, bindVs_own, setTK_some, sSetT_at, raiseK_some, sRaise_at, if_true, if_false, Bool.true_and, Bool.and_true, Bool.false_and, Bool.and_false, Bool.not_true, Bool.not_false, Bool.false_eq_true, reduceIte, List.length_cons, List.length_nil, List.map_cons, List.map_nil, List.contains_cons, List.contains_nil, List.any_nil, List.any_cons, beq_self_eq_true, Bool.true_or, Bool.or_true, Bool.false_or, Bool.or_false, isAli, List.nodup_nil, List.nodup_cons, List.not_mem_nil, not_false_eq_true, and_true, true_and, and_self, decide_true, decide_false, Nat.reduceAdd, Nat.reduceLeDiff, Nat.reduceBEq, Nat.reduceEqDiff, Nat.reduceLT, Int.reducePow, Int.reduceNeg, Int.reduceLT, Int.reduceLE, List.append_nil, List.nil_append, List.cons_append, List.isEmpty_cons, List.isEmpty_nil, decide_eq_true_eq]
  | l =>
    simp only [L1f, fLen_l, len6 h, eq_ii, bind_ok, bind_exc, toS_ok, toS_exc, seq_nx, seq_rt, seq_bk, seq_ct, seq_exc, loop_nx, loop_ct, loop_bk, loop_rt, loop_exc, nox_ok, sVar_at, varR_frz, varR_own, sLit_at, get_0, get_s, set_0, set_s, der_v, der_ali, slotO_s, frz1_v, frz1_ali, frzO_own, frzO_frz, frzs_nil, frzC_some, frzs_v, frzD_some, frzs_ali, sArgs_nil, sArgs_cons, fin_some, op1K_some, op2K_some, sOp1_at, sOp2_at, opNK_some, sOpIsi_at, sOpSl0_at, sOpSl1_at, sOpSl2_at, sOpSl3_at, ders_nil, dersC_some, ders_cons, truF_some, truK_some, sTruth_at, sTNot_at, sTAnd_at, sTOr_at, sIte_at, sAnd_at, sOr_at, andK_bl, orK_bl, sNot_at, notK_bl, truth_bl, truth_int, truth_lst, truth_tup, truth_non, sChain_at, chK_int, sNil_at, sSeq_at, sIf_at, sRet_at, sDrop_at, setF_some, setK_own, setK_frz, setK_ali, sSet_at, sAug_at, augK_int, tupK_0, lstK_0, tupK_1, lstK_1, tupK_2, lstK_2, tupK_3, lstK_3, tupK_4, lstK_4, tupK_5, lstK_5, tupK_6, lstK_6, tupK_7, lstK_7, tupK_8, lstK_8, tupK_9, lstK_9, tupK_10, lstK_10, tupK_11, lstK_11, tupK_12, lstK_12, tupK_13, lstK_13, tupK_14, lstK_14, tupK_15, lstK_15, tupK_16, lstK_16, sTup_at, sLst_at, sNewD_at, pinL_at, normA_nil, normA_cons, normC_frz, normC_own, normC_ali, argV_frz, argV_ownP, argV_ali, argO_own, argO_frz, argC_some, argsV_nil, argsV_cons, outsOf_nil, outsOf_v, outsOf_ali, outsK_own, putOuts_nil, putOuts_cons, optJ_some, callR_ok, callR_exc, callA_some, callN_some, sCall_at, endRun_nx, endRun_v, endRun_exc, endRun_ali, endO_frz, endO_own, outE_0, outE_1, outE_2, outE_3, outE_4, outE_5, outE_6, outV_at, seqK_some, sqK_some, seqB_lst, seqB_tup, seqB_ktp, seqB_scr, wSq_at, wRg1_at, rg2K_int, wRg2_at, zip2_some, zipK_some, wZip_at, bd_nm, bd_tup, bd_ktp, bNames_nil, bNames_cons, lpB_some, sFor_at, lcF_some, lcB_some, lcE_ok, lcH_some, sLc_at, sYes_at, hideS_nil, hideS_cons, hideK_none, hideK_frz, hideK_own, wipeE_nil, wipeE_cons, restE_nil, restE_cons, putSlot_at, mutP_some, mutF_own, mutQ_some, mutK_own, sMut_at, isLst_lst, extE_own, extD_lst, extK_own, sExt_at, sDisp_at, flat2_nil, flat2_cons, putQ_some, putE_own, putD_some, putF_some, putK_some, sPut_at, sPar_at, parB_some, parK_some, normB_nil, normB_cons, normBC_v, bindVs_nil, bindVs_frz, bindVs_own, setTK_some, sSetT_at, raiseK_some, sRaise_at, if_true, if_false, Bool.true_and, Bool.and_true, Bool.false_and, Bool.and_false, Bool.not_true, Bool.not_false, Bool.false_eq_true, reduceIte, List.length_cons, List.length_nil, List.map_cons, List.map_nil, List.contains_cons, List.contains_nil, List.any_nil, List.any_cons, beq_self_eq_true, Bool.true_or, Bool.or_true, Bool.false_or, Bool.or_false, isAli, List.nodup_nil, List.nodup_cons, List.not_mem_nil, not_false_eq_true, and_true, true_and, and_self, decide_true, decide_false, Nat.reduceAdd, Nat.reduceLeDiff, Nat.reduceBEq, Nat.reduceEqDiff, Nat.reduceLT, Int.reducePow, Int.reduceNeg, Int.reduceLT, Int.reduceLE, List.append_nil, List.nil_append, List.cons_append, List.isEmpty_cons, List.isEmpty_nil, decide_eq_true_eq]
    rw [key]
    simp only [fAll_l, al, bind_ok, bind_exc, toS_ok, toS_exc, seq_nx, seq_rt, seq_bk, seq_ct, seq_exc, loop_nx, loop_ct, loop_bk, loop_rt, loop_exc, nox_ok, sVar_at, varR_frz, varR_own, sLit_at, get_0, get_s, set_0, set_s, der_v, der_ali, slotO_s, frz1_v, frz1_ali, frzO_own, frzO_frz, frzs_nil, frzC_some, frzs_v, frzD_some, frzs_ali, sArgs_nil, sArgs_cons, fin_some, op1K_some, op2K_some, sOp1_at, sOp2_at, opNK_some, sOpIsi_at, sOpSl0_at, sOpSl1_at, sOpSl2_at, sOpSl3_at, ders_nil, dersC_some, ders_cons, truF_some, truK_some, sTruth_at, sTNot_at, sTAnd_at, sTOr_at, sIte_at, sAnd_at, sOr_at, andK_bl, orK_bl, sNot_at, notK_bl, truth_bl, truth_int, truth_lst, truth_tup, truth_non, sChain_at, chK_int, sNil_at, sSeq_at, sIf_at, sRet_at, sDrop_at, setF_some, setK_own, setK_frz, setK_ali, sSet_at, sAug_at, augK_int, tupK_0, lstK_0, tupK_1, lstK_1, tupK_2, lstK_2, tupK_3, lstK_3, tupK_4, lstK_4, tupK_5, lstK_5, tupK_6, lstK_6, tupK_7, lstK_7, tupK_8, lstK_8, tupK_9, lstK_9, tupK_10, lstK_10, tupK_11, lstK_11, tupK_12, lstK_12, tupK_13, lstK_13, tupK_14, lstK_14, tupK_15, lstK_15, tupK_16, lstK_16, sTup_at, sLst_at, sNewD_at, pinL_at, normA_nil, normA_cons, normC_frz, normC_own, normC_ali, argV_frz, argV_ownP, argV_ali, argO_own, argO_frz, argC_some, argsV_nil, argsV_cons, outsOf_nil, outsOf_v, outsOf_ali, outsK_own, putOuts_nil, putOuts_cons, optJ_some, callR_ok, callR_exc, callA_some, callN_some, sCall_at, endRun_nx, endRun_v, endRun_exc, endRun_ali, endO_frz, endO_own, outE_0, outE_1, outE_2, outE_3, outE_4, outE_5, outE_6, outV_at, seqK_some, sqK_some, seqB_lst, seqB_tup, seqB_ktp, seqB_scr, wSq_at, wRg1_at, rg2K_int, wRg2_at, zip2_some, zipK_some, wZip_at, bd_nm, bd_tup, bd_ktp, bNames_nil, bNames_cons, lpB_some, sFor_at, lcF_some, lcB_some, lcE_ok, lcH_some, sLc_at, sYes_at, hideS_nil, hideS_cons, hideK_none, hideK_frz, hideK_own, wipeE_nil, wipeE_cons, restE_nil, restE_cons, putSlot_at, mutP_some, mutF_own, mutQ_some, mutK_own, sMut_at, isLst_lst, extE_own, extD_lst, extK_own, sExt_at, sDisp_at, flat2_nil, flat2_cons, putQ_some, putE_own, putD_some, putF_some, putK_some, sPut_at, sPar_at, parB_some, parK_some, normB_nil, normB_cons, normBC_v, bindVs_nil, bindVs_frz, bindVs_own, setTK_some, sSetT_at, raiseK_some, sRaise_at, if_true, if_false, Bool.true_and, Bool.and_true, Bool.false_and, Bool.and_false, Bool.not_true, Bool.not_false, Bool.false_eq_true, reduceIte, List.length_cons, List.length_nil, List.map_cons, List.map_nil, List.contains_cons, List.contains_nil, List.any_nil, List.any_cons, beq_self_eq_true, Bool.true_or, Bool.or_true, Bool.false_or, Bool.or_false, isAli, List.nodup_nil, List.nodup_cons, List.not_mem_nil, not_false_eq_true, and_true, true_and, and_self, decide_true, decide_false, Nat.reduceAdd, Nat.reduceLeDiff, Nat.reduceBEq, Nat.reduceEqDiff, Nat.reduceLT, Int.reducePow, Int.reduceNeg, Int.reduceLT, Int.reduceLE, List.append_nil, List.nil_append, List.cons_append, List.isEmpty_cons, List.isEmpty_nil, decide_eq_true_eq]
  | o =>
    simp only [L1o, fLen_l, len6 h, eq_ii, bind_ok, bind_exc, toS_ok, toS_exc, seq_nx, seq_rt, seq_bk, seq_ct, seq_exc, loop_nx, loop_ct, loop_bk, loop_rt, loop_exc, nox_ok, sVar_at, varR_frz, varR_own, sLit_at, get_0, get_s, set_0, set_s, der_v, der_ali, slotO_s, frz1_v, frz1_ali, frzO_own, frzO_frz, frzs_nil, frzC_some, frzs_v, frzD_some, frzs_ali, sArgs_nil, sArgs_cons, fin_some, op1K_some, op2K_some, sOp1_at, sOp2_at, opNK_some, sOpIsi_at, sOpSl0_at, sOpSl1_at, sOpSl2_at, sOpSl3_at, ders_nil, dersC_some, ders_cons, truF_some, truK_some, sTruth_at, sTNot_at, sTAnd_at, sTOr_at, sIte_at, sAnd_at, sOr_at, andK_bl, orK_bl, sNot_at, notK_bl, truth_bl, truth_int, truth_lst, truth_tup, truth_non, sChain_at, chK_int, sNil_at, sSeq_at, sIf_at, sRet_at, sDrop_at, setF_some, setK_own, setK_frz, setK_ali, sSet_at, sAug_at, augK_int, tupK_0, lstK_0, tupK_1, lstK_1, tupK_2, lstK_2, tupK_3, lstK_3, tupK_4, lstK_4, tupK_5, lstK_5, tupK_6, lstK_6, tupK_7, lstK_7, tupK_8, lstK_8, tupK_9, lstK_9, tupK_10, lstK_10, tupK_11, lstK_11, tupK_12, lstK_12, tupK_13, lstK_13, tupK_14, lstK_14, tupK_15, lstK_15, tupK_16, lstK_16, sTup_at, sLst_at, sNewD_at, pinL_at, normA_nil, normA_cons, normC_frz, normC_own, normC_ali, argV_frz, argV_ownP, argV_ali, argO_own, argO_frz, argC_some, argsV_nil, argsV_cons, outsOf_nil, outsOf_v, outsOf_ali, outsK_own, putOuts_nil, putOuts_cons, optJ_some, callR_ok, callR_exc, callA_some, callN_some, sCall_at, endRun_nx, endRun_v, endRun_exc, endRun_ali, endO_frz, endO_own, outE_0, outE_1, outE_2, outE_3, outE_4, outE_5, outE_6, outV_at, seqK_some, sqK_some, seqB_lst, seqB_tup, seqB_ktp, seqB_scr, wSq_at, wRg1_at, rg2K_int, wRg2_at, zip2_some, zipK_some, wZip_at, bd_nm, bd_tup, bd_ktp, bNames_nil, bNames_cons, lpB_some, sFor_at, lcF_some, lcB_some, lcE_ok, lcH_some, sLc_at, sYes_at, hideS_nil, hideS_cons, hideK_none, hideK_frz, hideK_own, wipeE_nil, wipeE_cons, restE_nil, restE_cons, putSlot_at, mutP_some, mutF_own, mutQ_some, mutK_own, sMut_at, isLst_lst, extE_own, extD_lst, extK_own, sExt_at, sDisp_at, flat2_nil, flat2_cons, putQ_some, putE_own, putD_some, putF_some, putK_some, sPut_at, sPar_at, parB_some, parK_some, normB_nil, normB_cons, normBC_v, bindVs_nil, bindVs_frz, bindVs_own, setTK_some, sSetT_at, raiseK_some, sRaise_at, if_true, if_false, Bool.true_and, Bool.and_true, Bool.false_and, Bool.and_false, Bool.not_true, Bool.not_false, Bool.false_eq_true, reduceIte, List.length_cons, List.length_nil, List.map_cons, List.map_nil, List.contains_cons, List.contains_nil, List.any_nil, List.any_cons, beq_self_eq_true, Bool.true_or, Bool.or_true, Bool.false_or, Bool.or_false, isAli, List.nodup_nil, List.nodup_cons, List.not_mem_nil, not_false_eq_true, and_true, true_and, and_self, decide_true, decide_false, Nat.reduceAdd, Nat.reduceLeDiff, Nat.reduceBEq, Nat.reduceEqDiff, Nat.reduceLT, Int.reducePow, Int.reduceNeg, Int.reduceLT, Int.reduceLE, List.append_nil, List.nil_append, List.cons_append, List.isEmpty_cons, List.isEmpty_nil, decide_eq_true_eq]
    rw [key]
    simp only [fAll_l, al, bind_ok, bind_exc, toS_ok, toS_exc, seq_nx, seq_rt, seq_bk, seq_ct, seq_exc, loop_nx, loop_ct, loop_bk, loop_rt, loop_exc, nox_ok, sVar_at, varR_frz, varR_own, sLit_at, get_0, get_s, set_0, set_s, der_v, der_ali, slotO_s, frz1_v, frz1_ali, frzO_own, frzO_frz, frzs_nil, frzC_some, frzs_v, frzD_some, frzs_ali, sArgs_nil, sArgs_cons, fin_some, op1K_some, op2K_some, sOp1_at, sOp2_at, opNK_some, sOpIsi_at, sOpSl0_at, sOpSl1_at, sOpSl2_at, sOpSl3_at, ders_nil, dersC_some, ders_cons, truF_some, truK_some, sTruth_at, sTNot_at, sTAnd_at, sTOr_at, sIte_at, sAnd_at, sOr_at, andK_bl, orK_bl, sNot_at, notK_bl, truth_bl, truth_int, truth_lst, truth_tup, truth_non, sChain_at, chK_int, sNil_at, sSeq_at, sIf_at, sRet_at, sDrop_at, setF_some, setK_own, setK_frz, setK_ali, sSet_at, sAug_at, augK_int, tupK_0, lstK_0, tupK_1, lstK_1, tupK_2, lstK_2, tupK_3, lstK_3, tupK_4, lstK_4, tupK_5, lstK_5, tupK_6, lstK_6, tupK_7, lstK_7, tupK_8, lstK_8, tupK_9, lstK_9, tupK_10, lstK_10, tupK_11, lstK_11, tupK_12, lstK_12, tupK_13, lstK_13, tupK_14, lstK_14, tupK_15, lstK_15, tupK_16, lstK_16, sTup_at, sLst_at, sNewD_at, pinL_at, normA_nil, normA_cons, normC_frz, normC_own, normC_ali, argV_frz, argV_ownP, argV_ali, argO_own, argO_frz, argC_some, argsV_nil, argsV_cons, outsOf_nil, outsOf_v, outsOf_ali, outsK_own, putOuts_nil, putOuts_cons, optJ_some, callR_ok, callR_exc, callA_some, callN_some, sCall_at, endRun_nx, endRun_v, endRun_exc, endRun_ali, endO_frz, endO_own, outE_0, outE_1, outE_2, outE_3, outE_4, outE_5, outE_6, outV_at, seqK_some, sqK_some, seqB_lst, seqB_tup, seqB_ktp, seqB_scr, wSq_at, wRg1_at, rg2K_int, wRg2_at, zip2_some, zipK_some, wZip_at, bd_nm, bd_tup, bd_ktp, bNames_nil, bNames_cons, lpB_some, sFor_at, lcF_some, lcB_some, lcE_ok, lcH_some, sLc_at, sYes_at, hideS_nil, hideS_cons, hideK_none, hideK_frz, hideK_own, wipeE_nil, wipeE_cons, restE_nil, restE_cons, putSlot_at, mutP_some, mutF_own, mutQ_some, mutK_own, sMut_at, isLst_lst, extE_own, extD_lst, extK_own, sExt_at, sDisp_at, flat2_nil, flat2_cons, putQ_some, putE_own, putD_some, putF_some, putK_some, sPut_at, sPar_at, parB_some, parK_some, normB_nil, normB_cons, normBC_v, bindVs_nil, bindVs_frz, bindVs_own, setTK_some, sSetT_at, raiseK_some, sRaise_at, if_true, if_false, Bool.true_and, Bool.and_true, Bool.false_and, Bool.and_false, Bool.not_true, Bool.not_false, Bool.false_eq_true, reduceIte, List.length_cons, List.length_nil, List.map_cons, List.map_nil, List.contains_cons, List.contains_nil, List.any_nil, List.any_cons, beq_self_eq_true, Bool.true_or, Bool.or_true, Bool.false_or, Bool.or_false, isAli, List.nodup_nil, List.nodup_cons, List.not_mem_nil, not_false_eq_true, and_true, true_and, and_self, decide_true, decide_false, Nat.reduceAdd, Nat.reduceLeDiff, Nat.reduceBEq, Nat.reduceEqDiff, Nat.reduceLT, Int.reducePow, Int.reduceNeg, Int.reduceLT, Int.reduceLE, List.append_nil, List.nil_append, List.cons_append, List.isEmpty_cons, List.isEmpty_nil, decide_eq_true_eq]
theorem L4 (t m r) (h : Row r) (x : Val) (hx : Arg r x) (w : Str) : cl t (m + 6) 4 [x, fz (.str w)] = .ok false (tI r) [some (fz x.d), some (fz (.str w))] := by
  rw [q4, g4]
  have e := L3 t m r h x hx
  cases hx <;> simp only [e, fTup_l, fTup_t, bind_ok, bind_exc, toS_ok, toS_exc, seq_nx, seq_rt, seq_bk, seq_ct, seq_exc, loop_nx, loop_ct, loop_bk, loop_rt, loop_exc, nox_ok, sVar_at, varR_frz, varR_own, sLit_at, get_0, get_s, set_0, set_s, der_v, der_ali, slotO_s, frz1_v, frz1_ali, frzO_own, frzO_frz, frzs_nil, frzC_some, frzs_v, frzD_some, frzs_ali, sArgs_nil, sArgs_cons, fin_some, op1K_some, op2K_some, sOp1_at, sOp2_at, opNK_some, sOpIsi_at, sOpSl0_at, sOpSl1_at, sOpSl2_at, sOpSl3_at, ders_nil, dersC_some, ders_cons, truF_some, truK_some, sTruth_at, sTNot_at, sTAnd_at, sTOr_at, sIte_at, sAnd_at, sOr_at, andK_bl, orK_bl, sNot_at, notK_bl, truth_bl, truth_int, truth_lst, truth_tup, truth_non, sChain_at, chK_int, sNil_at, sSeq_at, sIf_at, sRet_at, sDrop_at, setF_some, setK_own, setK_frz, setK_ali, sSet_at, sAug_at, augK_int, tupK_0, lstK_0, tupK_1, lstK_1, tupK_2, lstK_2, tupK_3, lstK_3, tupK_4, lstK_4, tupK_5, lstK_5, tupK_6, lstK_6, tupK_7, lstK_7, tupK_8, lstK_8, tupK_9, lstK_9, tupK_10, lstK_10, tupK_11, lstK_11, tupK_12, lstK_12, tupK_13, lstK_13, tupK_14, lstK_14, tupK_15, lstK_15, tupK_16, lstK_16, sTup_at, sLst_at, sNewD_at, pinL_at, normA_nil, normA_cons, normC_frz, normC_own, normC_ali, argV_frz, argV_ownP, argV_ali, argO_own, argO_frz, argC_some, argsV_nil, argsV_cons, outsOf_nil, outsOf_v, outsOf_ali, outsK_own, putOuts_nil, putOuts_cons, optJ_some, callR_ok, callR_exc, callA_some, callN_some, sCall_at, endRun_nx, endRun_v, endRun_exc, endRun_ali, endO_frz, endO_own, outE_0, outE_1, outE_2, outE_3, outE_4, outE_5, outE_6, outV_at, seqK_some, sqK_some, seqB_lst, seqB_tup, seqB_ktp, seqB_scr, wSq_at, wRg1_at, rg2K_int, wRg2_at, zip2_some, zipK_some, wZip_at, bd_nm, bd_tup, bd_ktp, bNames_nil, bNames_cons, lpB_some, sFor_at, lcF_some, lcB_some, lcE_ok, lcH_some, sLc_at, sYes_at, hideS_nil, hideS_cons, hideK_none, hideK_frz, hideK_own, wipeE_nil, wipeE_cons, restE_nil, restE_cons, putSlot_at, mutP_some, mutF_own, mutQ_some, mutK_own, sMut_at, isLst_lst, extE_own, extD_lst, extK_own, sExt_at, sDisp_at, flat2_nil, flat2_cons, putQ_some, putE_own, putD_some, putF_some, putK_some, sPut_at, sPar_at, parB_some, parK_some, normB_nil, normB_cons, normBC_v, bindVs_nil, bindVs_frz, bindVs_own, setTK_some, sSetT_at, raiseK_some, sRaise_at, if_true, if_false, Bool.true_and, Bool.and_true, Bool.false_and, Bool.and_false, Bool.not_true, Bool.not_false, Bool.false_eq_true, reduceIte, List.length_cons, List.length_nil, List.map_cons, List.map_nil, List.contains_cons, List.contains_nil, List.any_nil, List.any_cons, beq_self_eq_true, Bool.true_or, Bool.or_true, Bool.false_or, Bool.or_false, isAli, List.nodup_nil, List.nodup_cons, List.not_mem_nil, not_false_eq_true, and_true, true_and, and_self, decide_true, decide_false, Nat.reduceAdd, Nat.reduceLeDiff, Nat.reduceBEq, Nat.reduceEqDiff, Nat.reduceLT, Int.reducePow, Int.reduceNeg, Int.reduceLT, Int.reduceLE, List.append_nil, List.nil_append, List.cons_append, List.isEmpty_cons, List.isEmpty_nil, decide_eq_true_eq]
end Hd

namespace Hd
open PySem PySem.Spec PyProof.Rows Ev
def dot (a b : List Int) : Int := ((a.zip b).map fun p => p.1 * p.2).sum
def bprod (a b : List Int) : Int := (a.sum * b.sum + dot a b).fmod 2
def fval (f r : List Int) : Int := ((r.sum * (r.sum - 1)).fdiv 2 + dot f r).fmod 2
theorem sum_bd : ∀ {r : List Int}, (∀ x ∈ r, x = 0 ∨ x = 1) → 0 ≤ r.sum ∧ r.sum ≤ r.length
  | [], _ => by simp
  | x :: r, h => by
    have h1 := h x List.mem_cons_self
    have h2 := sum_bd fun y hy => h y (List.mem_cons_of_mem _ hy)
    simp only [List.sum_cons, List.length_cons]
    omega
theorem sum_small {r : List Int} (h : Row r) : small64 r.sum = true ∧ small64 (r.sum - 1) = true := by
  have := sum_bd h.bit
  rw [h.len] at this
  constructor <;> apply small_of <;> omega
theorem bit_small {x : Int} (h : x = 0 ∨ x = 1) : small64 x = true := by rcases h with rfl | rfl <;> rfl
theorem zipD_row {a b : List Int} : zipD (dI a) (dI b) = (a.zip b).map fun p => .tup [.int p.1, .int p.2] := zipD_ints a b
theorem L5 (t m a b) (ha : Row a) (hb : Row b) : cl t (m + 3) 5 [fz (tI a), fz (tI b)] = .ok false (.int (bprod a b)) [some (fz (tI a)), some (fz (tI b))] := by
  have it : ∀ p ∈ a.zip b, lcB sYes (sOp (op2 dMul) [sVar 2, sVar 3]) [2, 3] ((Tgt.tp [2, 3]).bd (.tup [.int p.1, .int p.2]) [some (fz (tI a)), some (fz (tI b)), none, none]) = .ok (some (.int (p.1 * p.2))) [some (fz (tI a)), some (fz (tI b)), none, none] := fun p hp => by
    have h1 := ha.bit p.1 (List.of_mem_zip hp).1
    simp only [mul_ii (small_l (bit_small h1)), bind_ok, bind_exc, toS_ok, toS_exc, seq_nx, seq_rt, seq_bk, seq_ct, seq_exc, loop_nx, loop_ct, loop_bk, loop_rt, loop_exc, nox_ok, sVar_at, varR_frz, varR_own, sLit_at, get_0, get_s, set_0, set_s, der_v, der_ali, slotO_s, frz1_v, frz1_ali, frzO_own, frzO_frz, frzs_nil, frzC_some, frzs_v, frzD_some, frzs_ali, sArgs_nil, sArgs_cons, fin_some, op1K_some, op2K_some, sOp1_at, sOp2_at, opNK_some, sOpIsi_at, sOpSl0_at, sOpSl1_at, sOpSl2_at, sOpSl3_at, ders_nil, dersC_some, ders_cons, truF_some, truK_some, sTruth_at, sTNot_at, sTAnd_at, sTOr_at, sIte_at, sAnd_at, sOr_at, andK_bl, orK_bl, sNot_at, notK_bl, truth_bl, truth_int, truth_lst, truth_tup, truth_non, sChain_at, chK_int, sNil_at, sSeq_at, sIf_at, sRet_at, sDrop_at, setF_some, setK_own, setK_frz, setK_ali, sSet_at, sAug_at, augK_int, tupK_0, lstK_0, tupK_1, lstK_1, tupK_2, lstK_2, tupK_3, lstK_3, tupK_4, lstK_4, tupK_5, lstK_5, tupK_6, lstK_6, tupK_7, lstK_7, tupK_8, lstK_8, tupK_9, lstK_9, tupK_10, lstK_10, tupK_11, lstK_11, tupK_12, lstK_12, tupK_13, lstK_13, tupK_14, lstK_14, tupK_15, lstK_15, tupK_16, lstK_16, sTup_at, sLst_at, sNewD_at, pinL_at, normA_nil, normA_cons, normC_frz, normC_own, normC_ali, argV_frz, argV_ownP, argV_ali, argO_own, argO_frz, argC_some, argsV_nil, argsV_cons, outsOf_nil, outsOf_v, outsOf_ali, outsK_own, putOuts_nil, putOuts_cons, optJ_some, callR_ok, callR_exc, callA_some, callN_some, sCall_at, endRun_nx, endRun_v, endRun_exc, endRun_ali, endO_frz, endO_own, outE_0, outE_1, outE_2, outE_3, outE_4, outE_5, outE_6, outV_at, seqK_some, sqK_some, seqB_lst, seqB_tup, seqB_ktp, seqB_scr, wSq_at, wRg1_at, rg2K_int, wRg2_at, zip2_some, zipK_some, wZip_at, bd_nm, bd_tup, bd_ktp, bNames_nil, bNames_cons, lpB_some, sFor_at, lcF_some, lcB_some, lcE_ok, lcH_some, sLc_at, sYes_at, hideS_nil, hideS_cons, hideK_none, hideK_frz, hideK_own, wipeE_nil, wipeE_cons, restE_nil, restE_cons, putSlot_at, mutP_some, mutF_own, mutQ_some, mutK_own, sMut_at, isLst_lst, extE_own, extD_lst, extK_own, sExt_at, sDisp_at, flat2_nil, flat2_cons, putQ_some, putE_own, putD_some, putF_some, putK_some, sPut_at, sPar_at, parB_some, parK_some, normB_nil, normB_cons, normBC_v, bindVs_nil, bindVs_frz, bindVs_own, setTK_some, sSetT_at, raiseK_some, sRaise_at, if_true, if_false, Bool.true_and, Bool.and_true, Bool.false_and, Bool.and_false, Bool.not_true, Bool.not_false, Bool.false_eq_true, reduceIte, List.length_cons, List.length_nil, List.map_cons, List.map_nil, List.contains_cons, List.contains_nil, List.any_nil, List.any_cons, beq_self_eq_true, Bool.true_or, Bool.or_true, Bool.false_or, Bool.or_false, isAli, List.nodup_nil, List.nodup_cons, List.not_mem_nil, not_false_eq_true, and_true, true_and, and_self, decide_true, decide_false, Nat.reduceAdd, Nat.reduceLeDiff, Nat.reduceBEq, Nat.reduceEqDiff, Nat.reduceLT, Int.reducePow, Int.reduceNeg, Int.reduceLT, Int.reduceLE, List.append_nil, List.nil_append, List.cons_append, List.isEmpty_cons, List.isEmpty_nil, decide_eq_true_eq]
  have key := lcS_mapv (bd := (Tgt.tp [2, 3]).bd) (vs := [2, 3]) (a.zip b) (fun p => .tup [.int p.1, .int p.2]) (fun p => .int (p.1 * p.2)) it (by rw [List.length_zip, ha.len, hb.len]; decide)
  have e : ((a.zip b).map fun p => D.int (p.1 * p.2)) = ((a.zip b).map fun p => p.1 * p.2).map .int := by simp
  rw [e] at key
  rw [q5, g5]
  simp only [fSum_t, mul_ii (small_l (sum_small ha).1), zipD_row, bind_ok, bind_exc, toS_ok, toS_exc, seq_nx, seq_rt, seq_bk, seq_ct, seq_exc, loop_nx, loop_ct, loop_bk, loop_rt, loop_exc, nox_ok, sVar_at, varR_frz, varR_own, sLit_at, get_0, get_s, set_0, set_s, der_v, der_ali, slotO_s, frz1_v, frz1_ali, frzO_own, frzO_frz, frzs_nil, frzC_some, frzs_v, frzD_some, frzs_ali, sArgs_nil, sArgs_cons, fin_some, op1K_some, op2K_some, sOp1_at, sOp2_at, opNK_some, sOpIsi_at, sOpSl0_at, sOpSl1_at, sOpSl2_at, sOpSl3_at, ders_nil, dersC_some, ders_cons, truF_some, truK_some, sTruth_at, sTNot_at, sTAnd_at, sTOr_at, sIte_at, sAnd_at, sOr_at, andK_bl, orK_bl, sNot_at, notK_bl, truth_bl, truth_int, truth_lst, truth_tup, truth_non, sChain_at, chK_int, sNil_at, sSeq_at, sIf_at, sRet_at, sDrop_at, setF_some, setK_own, setK_frz, setK_ali, sSet_at, sAug_at, augK_int, tupK_0, lstK_0, tupK_1, lstK_1, tupK_2, lstK_2, tupK_3, lstK_3, tupK_4, lstK_4, tupK_5, lstK_5, tupK_6, lstK_6, tupK_7, lstK_7, tupK_8, lstK_8, tupK_9, lstK_9, tupK_10, lstK_10, tupK_11, lstK_11, tupK_12, lstK_12, tupK_13, lstK_13, tupK_14, lstK_14, tupK_15, lstK_15, tupK_16, lstK_16, sTup_at, sLst_at, sNewD_at, pinL_at, normA_nil, normA_cons, normC_frz, normC_own, normC_ali, argV_frz, argV_ownP, argV_ali, argO_own, argO_frz, argC_some, argsV_nil, argsV_cons, outsOf_nil, outsOf_v, outsOf_ali, outsK_own, putOuts_nil, putOuts_cons, optJ_some, callR_ok, callR_exc, callA_some, callN_some, sCall_at, endRun_nx, endRun_v, endRun_exc, endRun_ali, endO_frz, endO_own, outE_0, outE_1, outE_2, outE_3, outE_4, outE_5, outE_6, outV_at, seqK_some, sqK_some, seqB_lst, seqB_tup, seqB_ktp, seqB_scr, wSq_at, wRg1_at, rg2K_int, wRg2_at, zip2_some, zipK_some, wZip_at, bd_nm, bd_tup, bd_ktp, bNames_nil, bNames_cons, lpB_some, sFor_at, lcF_some, lcB_some, lcE_ok, lcH_some, sLc_at, sYes_at, hideS_nil, hideS_cons, hideK_none, hideK_frz, hideK_own, wipeE_nil, wipeE_cons, restE_nil, restE_cons, putSlot_at, mutP_some, mutF_own, mutQ_some, mutK_own, sMut_at, isLst_lst, extE_own, extD_lst, extK_own, sExt_at, sDisp_at, flat2_nil, flat2_cons, putQ_some, putE_own, putD_some, putF_some, putK_some, sPut_at, sPar_at, parB_some, parK_some, normB_nil, normB_cons, normBC_v, bindVs_nil, bindVs_frz, bindVs_own, setTK_some, sSetT_at, raiseK_some, sRaise_at, if_true, if_false, Bool.true_and, Bool.and_true, Bool.false_and, Bool.and_false, Bool.not_true, Bool.not_false, Bool.false_eq_true, reduceIte, List.length_cons, List.length_nil, List.map_cons, List.map_nil, List.contains_cons, List.contains_nil, List.any_nil, List.any_cons, beq_self_eq_true, Bool.true_or, Bool.or_true, Bool.false_or, Bool.or_false, isAli, List.nodup_nil, List.nodup_cons, List.not_mem_nil, not_false_eq_true, and_true, true_and, and_self, decide_true, decide_false, Nat.reduceAdd, Nat.reduceLeDiff, Nat.reduceBEq, Nat.reduceEqDiff, Nat.reduceLT, Int.reducePow, Int.reduceNeg, Int.reduceLT, Int.reduceLE, List.append_nil, List.nil_append, List.cons_append, List.isEmpty_cons, List.isEmpty_nil, decide_eq_true_eq]
  rw [key]
  simp only [fSum_l, add_ii, mod_ii (show (2 : Int) ≠ 0 by decide), bind_ok, bind_exc, toS_ok, toS_exc, seq_nx, seq_rt, seq_bk, seq_ct, seq_exc, loop_nx, loop_ct, loop_bk, loop_rt, loop_exc, nox_ok, sVar_at, varR_frz, varR_own, sLit_at, get_0, get_s, set_0, set_s, der_v, der_ali, slotO_s, frz1_v, frz1_ali, frzO_own, frzO_frz, frzs_nil, frzC_some, frzs_v, frzD_some, frzs_ali, sArgs_nil, sArgs_cons, fin_some, op1K_some, op2K_some, sOp1_at, sOp2_at, opNK_some, sOpIsi_at, sOpSl0_at, sOpSl1_at, sOpSl2_at, sOpSl3_at, ders_nil, dersC_some, ders_cons, truF_some, truK_some, sTruth_at, sTNot_at, sTAnd_at, sTOr_at, sIte_at, sAnd_at, sOr_at, andK_bl, orK_bl, sNot_at, notK_bl, truth_bl, truth_int, truth_lst, truth_tup, truth_non, sChain_at, chK_int, sNil_at, sSeq_at, sIf_at, sRet_at, sDrop_at, setF_some, setK_own, setK_frz, setK_ali, sSet_at, sAug_at, augK_int, tupK_0, lstK_0, tupK_1, lstK_1, tupK_2, lstK_2, tupK_3, lstK_3, tupK_4, lstK_4, tupK_5, lstK_5, tupK_6, lstK_6, tupK_7, lstK_7, tupK_8, lstK_8, tupK_9, lstK_9, tupK_10, lstK_10, tupK_11, lstK_11, tupK_12, lstK_12, tupK_13, lstK_13, tupK_14, lstK_14, tupK_15, lstK_15, tupK_16, lstK_16, sTup_at, sLst_at, sNewD_at, pinL_at, normA_nil, normA_cons, normC_frz, normC_own, normC_ali, argV_frz, argV_ownP, argV_ali, argO_own, argO_frz, argC_some, argsV_nil, argsV_cons, outsOf_nil, outsOf_v, outsOf_ali, outsK_own, putOuts_nil, putOuts_cons, optJ_some, callR_ok, callR_exc, callA_some, callN_some, sCall_at, endRun_nx, endRun_v, endRun_exc, endRun_ali, endO_frz, endO_own, outE_0, outE_1, outE_2, outE_3, outE_4, outE_5, outE_6, outV_at, seqK_some, sqK_some, seqB_lst, seqB_tup, seqB_ktp, seqB_scr, wSq_at, wRg1_at, rg2K_int, wRg2_at, zip2_some, zipK_some, wZip_at, bd_nm, bd_tup, bd_ktp, bNames_nil, bNames_cons, lpB_some, sFor_at, lcF_some, lcB_some, lcE_ok, lcH_some, sLc_at, sYes_at, hideS_nil, hideS_cons, hideK_none, hideK_frz, hideK_own, wipeE_nil, wipeE_cons, restE_nil, restE_cons, putSlot_at, mutP_some, mutF_own, mutQ_some, mutK_own, sMut_at, isLst_lst, extE_own, extD_lst, extK_own, sExt_at, sDisp_at, flat2_nil, flat2_cons, putQ_some, putE_own, putD_some, putF_some, putK_some, sPut_at, sPar_at, parB_some, parK_some, normB_nil, normB_cons, normBC_v, bindVs_nil, bindVs_frz, bindVs_own, setTK_some, sSetT_at, raiseK_some, sRaise_at, if_true, if_false, Bool.true_and, Bool.and_true, Bool.false_and, Bool.and_false, Bool.not_true, Bool.not_false, Bool.false_eq_true, reduceIte, List.length_cons, List.length_nil, List.map_cons, List.map_nil, List.contains_cons, List.contains_nil, List.any_nil, List.any_cons, beq_self_eq_true, Bool.true_or, Bool.or_true, Bool.false_or, Bool.or_false, isAli, List.nodup_nil, List.nodup_cons, List.not_mem_nil, not_false_eq_true, and_true, true_and, and_self, decide_true, decide_false, Nat.reduceAdd, Nat.reduceLeDiff, Nat.reduceBEq, Nat.reduceEqDiff, Nat.reduceLT, Int.reducePow, Int.reduceNeg, Int.reduceLT, Int.reduceLE, List.append_nil, List.nil_append, List.cons_append, List.isEmpty_cons, List.isEmpty_nil, decide_eq_true_eq]
  rfl
theorem L6 (t m a b x y) (ha : Row a) (hb : Row b) (hx : Arg a x) (hy : Arg b y) : cl t (m + 7) 6 [x, y] = .ok false (.int (bprod a b)) [some (fz x.d), some (fz y.d)] := by
  rw [q6, g6]
  have e1 := fun w => L4 t m a ha x hx w
  have e2 := fun w => L4 t m b hb y hy w
  have e3 := L5 t (m + 3) a b ha hb
  cases hx <;> cases hy <;> simp only [e1, e2, e3, bind_ok, bind_exc, toS_ok, toS_exc, seq_nx, seq_rt, seq_bk, seq_ct, seq_exc, loop_nx, loop_ct, loop_bk, loop_rt, loop_exc, nox_ok, sVar_at, varR_frz, varR_own, sLit_at, get_0, get_s, set_0, set_s, der_v, der_ali, slotO_s, frz1_v, frz1_ali, frzO_own, frzO_frz, frzs_nil, frzC_some, frzs_v, frzD_some, frzs_ali, sArgs_nil, sArgs_cons, fin_some, op1K_some, op2K_some, sOp1_at, sOp2_at, opNK_some, sOpIsi_at, sOpSl0_at, sOpSl1_at, sOpSl2_at, sOpSl3_at, ders_nil, dersC_some, ders_cons, truF_some, truK_some, sTruth_at, sTNot_at, sTAnd_at, sTOr_at, sIte_at, sAnd_at, sOr_at, andK_bl, orK_bl, sNot_at, notK_bl, truth_bl, truth_int, truth_lst, truth_tup, truth_non, sChain_at, chK_int, sNil_at, sSeq_at, sIf_at, sRet_at, sDrop_at, setF_some, setK_own, setK_frz, setK_ali, sSet_at, sAug_at, augK_int, tupK_0, lstK_0, tupK_1, lstK_1, tupK_2, lstK_2, tupK_3, lstK_3, tupK_4, lstK_4, tupK_5, lstK_5, tupK_6, lstK_6, tupK_7, lstK_7, tupK_8, lstK_8, tupK_9, lstK_9, tupK_10, lstK_10, tupK_11, lstK_11, tupK_12, lstK_12, tupK_13, lstK_13, tupK_14, lstK_14, tupK_15, lstK_15, tupK_16, lstK_16, sTup_at, sLst_at, sNewD_at, pinL_at, normA_nil, normA_cons, normC_frz, normC_own, normC_ali, argV_frz, argV_ownP, argV_ali, argO_own, argO_frz, argC_some, argsV_nil, argsV_cons, outsOf_nil, outsOf_v, outsOf_ali, outsK_own, putOuts_nil, putOuts_cons, optJ_some, callR_ok, callR_exc, callA_some, callN_some, sCall_at, endRun_nx, endRun_v, endRun_exc, endRun_ali, endO_frz, endO_own, outE_0, outE_1, outE_2, outE_3, outE_4, outE_5, outE_6, outV_at, seqK_some, sqK_some, seqB_lst, seqB_tup, seqB_ktp, seqB_scr, wSq_at, wRg1_at, rg2K_int, wRg2_at, zip2_some, zipK_some, wZip_at, bd_nm, bd_tup, bd_ktp, bNames_nil, bNames_cons, lpB_some, sFor_at, lcF_some, lcB_some, lcE_ok, lcH_some, sLc_at, sYes_at, hideS_nil, hideS_cons, hideK_none, hideK_frz, hideK_own, wipeE_nil, wipeE_cons, restE_nil, restE_cons, putSlot_at, mutP_some, mutF_own, mutQ_some, mutK_own, sMut_at, isLst_lst, extE_own, extD_lst, extK_own, sExt_at, sDisp_at, flat2_nil, flat2_cons, putQ_some, putE_own, putD_some, putF_some, putK_some, sPut_at, sPar_at, parB_some, parK_some, normB_nil, normB_cons, normBC_v, bindVs_nil, bindVs_frz, bindVs_own, setTK_some, sSetT_at, raiseK_some, sRaise_at, if_true, if_false, Bool.true_and, Bool.and_true, Bool.false_and, Bool.and_false, Bool.not_true, Bool.not_false, Bool.false_eq_true, reduceIte, List.length_cons, List.length_nil, List.map_cons, List.map_nil, List.contains_cons, List.contains_nil, List.any_nil, List.any_cons, beq_self_eq_true, Bool.true_or, Bool.or_true, Bool.false_or, Bool.or_false, isAli, List.nodup_nil, List.nodup_cons, List.not_mem_nil, not_false_eq_true, and_true, true_and, and_self, decide_true, decide_false, Nat.reduceAdd, Nat.reduceLeDiff, Nat.reduceBEq, Nat.reduceEqDiff, Nat.reduceLT, Int.reducePow, Int.reduceNeg, Int.reduceLT, Int.reduceLE, List.append_nil, List.nil_append, List.cons_append, List.isEmpty_cons, List.isEmpty_nil, decide_eq_true_eq]
theorem L7 (t m f r) (hf : Row f) (hr : Row r) : cl t (m + 3) 7 [fz (tI f), fz (tI r)] = .ok false (.int (fval f r)) [some (fz (tI f)), some (fz (tI r))] := by
  have it : ∀ p ∈ f.zip r, lcB sYes (sOp (op2 dMul) [sVar 3, sVar 4]) [3, 4] ((Tgt.tp [3, 4]).bd (.tup [.int p.1, .int p.2]) [some (fz (tI f)), some (fz (tI r)), some (fz (.int r.sum)), none, none]) = .ok (some (.int (p.1 * p.2))) [some (fz (tI f)), some (fz (tI r)), some (fz (.int r.sum)), none, none] := fun p hp => by
    have h1 := hf.bit p.1 (List.of_mem_zip hp).1
    simp only [mul_ii (small_l (bit_small h1)), bind_ok, bind_exc, toS_ok, toS_exc, seq_nx, seq_rt, seq_bk, seq_ct, seq_exc, loop_nx, loop_ct, loop_bk, loop_rt, loop_exc, nox_ok, sVar_at, varR_frz, varR_own, sLit_at, get_0, get_s, set_0, set_s, der_v, der_ali, slotO_s, frz1_v, frz1_ali, frzO_own, frzO_frz, frzs_nil, frzC_some, frzs_v, frzD_some, frzs_ali, sArgs_nil, sArgs_cons, fin_some, op1K_some, op2K_some, sOp1_at, sOp2_at, opNK_some, sOpIsi_at, sOpSl0_at, sOpSl1_at, sOpSl2_at, sOpSl3_at, ders_nil, dersC_some, ders_cons, truF_some, truK_some, sTruth_at, sTNot_at, sTAnd_at, sTOr_at, sIte_at, sAnd_at, sOr_at, andK_bl, orK_bl, sNot_at, notK_bl, truth_bl, truth_int, truth_lst, truth_tup, truth_non, sChain_at, chK_int, sNil_at, sSeq_at, sIf_at, sRet_at, sDrop_at, setF_some, setK_own, setK_frz, setK_ali, sSet_at, sAug_at, augK_int, tupK_0, lstK_0, tupK_1, lstK_1, tupK_2, lstK_2, tupK_3, lstK_3, tupK_4, lstK_4, tupK_5, lstK_5, tupK_6, lstK_6, tupK_7, lstK_7, tupK_8, lstK_8, tupK_9, lstK_9, tupK_10, lstK_10, tupK_11, lstK_11, tupK_12, lstK_12, tupK_13, lstK_13, tupK_14, lstK_14, tupK_15, lstK_15, tupK_16, lstK_16, sTup_at, sLst_at, sNewD_at, pinL_at, normA_nil, normA_cons, normC_frz, normC_own, normC_ali, argV_frz, argV_ownP, argV_ali, argO_own, argO_frz, argC_some, argsV_nil, argsV_cons, outsOf_nil, outsOf_v, outsOf_ali, outsK_own, putOuts_nil, putOuts_cons, optJ_some, callR_ok, callR_exc, callA_some, callN_some, sCall_at, endRun_nx, endRun_v, endRun_exc, endRun_ali, endO_frz, endO_own, outE_0, outE_1, outE_2, outE_3, outE_4, outE_5, outE_6, outV_at, seqK_some, sqK_some, seqB_lst, seqB_tup, seqB_ktp, seqB_scr, wSq_at, wRg1_at, rg2K_int, wRg2_at, zip2_some, zipK_some, wZip_at, bd_nm, bd_tup, bd_ktp, bNames_nil, bNames_cons, lpB_some, sFor_at, lcF_some, lcB_some, lcE_ok, lcH_some, sLc_at, sYes_at, hideS_nil, hideS_cons, hideK_none, hideK_frz, hideK_own, wipeE_nil, wipeE_cons, restE_nil, restE_cons, putSlot_at, mutP_some, mutF_own, mutQ_some, mutK_own, sMut_at, isLst_lst, extE_own, extD_lst, extK_own, sExt_at, sDisp_at, flat2_nil, flat2_cons, putQ_some, putE_own, putD_some, putF_some, putK_some, sPut_at, sPar_at, parB_some, parK_some, normB_nil, normB_cons, normBC_v, bindVs_nil, bindVs_frz, bindVs_own, setTK_some, sSetT_at, raiseK_some, sRaise_at, if_true, if_false, Bool.true_and, Bool.and_true, Bool.false_and, Bool.and_false, Bool.not_true, Bool.not_false, Bool.false_eq_true, reduceIte, List.length_cons, List.length_nil, List.map_cons, List.map_nil, List.contains_cons, List.contains_nil, List.any_nil, List.any_cons, beq_self_eq_true, Bool.true_or, Bool.or_true, Bool.false_or, Bool.or_false, isAli, List.nodup_nil, List.nodup_cons, List.not_mem_nil, not_false_eq_true, and_true, true_and, and_self, decide_true, decide_false, Nat.reduceAdd, Nat.reduceLeDiff, Nat.reduceBEq, Nat.reduceEqDiff, Nat.reduceLT, Int.reducePow, Int.reduceNeg, Int.reduceLT, Int.reduceLE, List.append_nil, List.nil_append, List.cons_append, List.isEmpty_cons, List.isEmpty_nil, decide_eq_true_eq]
  have key := lcS_mapv (bd := (Tgt.tp [3, 4]).bd) (vs := [3, 4]) (f.zip r) (fun p => .tup [.int p.1, .int p.2]) (fun p => .int (p.1 * p.2)) it (by rw [List.length_zip, hf.len, hr.len]; decide)
  have e : ((f.zip r).map fun p => D.int (p.1 * p.2)) = ((f.zip r).map fun p => p.1 * p.2).map .int := by simp
  rw [e] at key
  rw [q7, g7]
  simp only [fSum_t, subt_ii, mul_ii (small_l (sum_small hr).1), div_ii (show (2 : Int) ≠ 0 by decide) (by decide), zipD_row, bind_ok, bind_exc, toS_ok, toS_exc, seq_nx, seq_rt, seq_bk, seq_ct, seq_exc, loop_nx, loop_ct, loop_bk, loop_rt, loop_exc, nox_ok, sVar_at, varR_frz, varR_own, sLit_at, get_0, get_s, set_0, set_s, der_v, der_ali, slotO_s, frz1_v, frz1_ali, frzO_own, frzO_frz, frzs_nil, frzC_some, frzs_v, frzD_some, frzs_ali, sArgs_nil, sArgs_cons, fin_some, op1K_some, op2K_some, sOp1_at, sOp2_at, opNK_some, sOpIsi_at, sOpSl0_at, sOpSl1_at, sOpSl2_at, sOpSl3_at, ders_nil, dersC_some, ders_cons, truF_some, truK_some, sTruth_at, sTNot_at, sTAnd_at, sTOr_at, sIte_at, sAnd_at, sOr_at, andK_bl, orK_bl, sNot_at, notK_bl, truth_bl, truth_int, truth_lst, truth_tup, truth_non, sChain_at, chK_int, sNil_at, sSeq_at, sIf_at, sRet_at, sDrop_at, setF_some, setK_own, setK_frz, setK_ali, sSet_at, sAug_at, augK_int, tupK_0, lstK_0, tupK_1, lstK_1, tupK_2, lstK_2, tupK_3, lstK_3, tupK_4, lstK_4, tupK_5, lstK_5, tupK_6, lstK_6, tupK_7, lstK_7, tupK_8, lstK_8, tupK_9, lstK_9, tupK_10, lstK_10, tupK_11, lstK_11, tupK_12, lstK_12, tupK_13, lstK_13, tupK_14, lstK_14, tupK_15, lstK_15, tupK_16, lstK_16, sTup_at, sLst_at, sNewD_at, pinL_at, normA_nil, normA_cons, normC_frz, normC_own, normC_ali, argV_frz, argV_ownP, argV_ali, argO_own, argO_frz, argC_some, argsV_nil, argsV_cons, outsOf_nil, outsOf_v, outsOf_ali, outsK_own, putOuts_nil, putOuts_cons, optJ_some, callR_ok, callR_exc, callA_some, callN_some, sCall_at, endRun_nx, endRun_v, endRun_exc, endRun_ali, endO_frz, endO_own, outE_0, outE_1, outE_2, outE_3, outE_4, outE_5, outE_6, outV_at, seqK_some, sqK_some, seqB_lst, seqB_tup, seqB_ktp, seqB_scr, wSq_at, wRg1_at, rg2K_int, wRg2_at, zip2_some, zipK_some, wZip_at, bd_nm, bd_tup, bd_ktp, bNames_nil, bNames_cons, lpB_some, sFor_at, lcF_some, lcB_some, lcE_ok, lcH_some, sLc_at, sYes_at, hideS_nil, hideS_cons, hideK_none, hideK_frz, hideK_own, wipeE_nil, wipeE_cons, restE_nil, restE_cons, putSlot_at, mutP_some, mutF_own, mutQ_some, mutK_own, sMut_at, isLst_lst, extE_own, extD_lst, extK_own, sExt_at, sDisp_at, flat2_nil, flat2_cons, putQ_some, putE_own, putD_some, putF_some, putK_some, sPut_at, sPar_at, parB_some, parK_some, normB_nil, normB_cons, normBC_v, bindVs_nil, bindVs_frz, bindVs_own, setTK_some, sSetT_at, raiseK_some, sRaise_at, if_true, if_false, Bool.true_and, Bool.and_true, Bool.false_and, Bool.and_false, Bool.not_true, Bool.not_false, Bool.false_eq_true, reduceIte, List.length_cons, List.length_nil, List.map_cons, List.map_nil, List.contains_cons, List.contains_nil, List.any_nil, List.any_cons, beq_self_eq_true, Bool.true_or, Bool.or_true, Bool.false_or, Bool.or_false, isAli, List.nodup_nil, List.nodup_cons, List.not_mem_nil, not_false_eq_true, and_true, true_and, and_self, decide_true, decide_false, Nat.reduceAdd, Nat.reduceLeDiff, Nat.reduceBEq, Nat.reduceEqDiff, Nat.reduceLT, Int.reducePow, Int.reduceNeg, Int.reduceLT, Int.reduceLE, List.append_nil, List.nil_append, List.cons_append, List.isEmpty_cons, List.isEmpty_nil, decide_eq_true_eq]
  rw [key]
  simp only [fSum_l, add_ii, mod_ii (show (2 : Int) ≠ 0 by decide), bind_ok, bind_exc, toS_ok, toS_exc, seq_nx, seq_rt, seq_bk, seq_ct, seq_exc, loop_nx, loop_ct, loop_bk, loop_rt, loop_exc, nox_ok, sVar_at, varR_frz, varR_own, sLit_at, get_0, get_s, set_0, set_s, der_v, der_ali, slotO_s, frz1_v, frz1_ali, frzO_own, frzO_frz, frzs_nil, frzC_some, frzs_v, frzD_some, frzs_ali, sArgs_nil, sArgs_cons, fin_some, op1K_some, op2K_some, sOp1_at, sOp2_at, opNK_some, sOpIsi_at, sOpSl0_at, sOpSl1_at, sOpSl2_at, sOpSl3_at, ders_nil, dersC_some, ders_cons, truF_some, truK_some, sTruth_at, sTNot_at, sTAnd_at, sTOr_at, sIte_at, sAnd_at, sOr_at, andK_bl, orK_bl, sNot_at, notK_bl, truth_bl, truth_int, truth_lst, truth_tup, truth_non, sChain_at, chK_int, sNil_at, sSeq_at, sIf_at, sRet_at, sDrop_at, setF_some, setK_own, setK_frz, setK_ali, sSet_at, sAug_at, augK_int, tupK_0, lstK_0, tupK_1, lstK_1, tupK_2, lstK_2, tupK_3, lstK_3, tupK_4, lstK_4, tupK_5, lstK_5, tupK_6, lstK_6, tupK_7, lstK_7, tupK_8, lstK_8, tupK_9, lstK_9, tupK_10, lstK_10, tupK_11, lstK_11, tupK_12, lstK_12, tupK_13, lstK_13, tupK_14, lstK_14, tupK_15, lstK_15, tupK_16, lstK_16, sTup_at, sLst_at, sNewD_at, pinL_at, normA_nil, normA_cons, normC_frz, normC_own, normC_ali, argV_frz, argV_ownP, argV_ali, argO_own, argO_frz, argC_some, argsV_nil, argsV_cons, outsOf_nil, outsOf_v, outsOf_ali, outsK_own, putOuts_nil, putOuts_cons, optJ_some, callR_ok, callR_exc, callA_some, callN_some, sCall_at, endRun_nx, endRun_v, endRun_exc, endRun_ali, endO_frz, endO_own, outE_0, outE_1, outE_2, outE_3, outE_4, outE_5, outE_6, outV_at, seqK_some, sqK_some, seqB_lst, seqB_tup, seqB_ktp, seqB_scr, wSq_at, wRg1_at, rg2K_int, wRg2_at, zip2_some, zipK_some, wZip_at, bd_nm, bd_tup, bd_ktp, bNames_nil, bNames_cons, lpB_some, sFor_at, lcF_some, lcB_some, lcE_ok, lcH_some, sLc_at, sYes_at, hideS_nil, hideS_cons, hideK_none, hideK_frz, hideK_own, wipeE_nil, wipeE_cons, restE_nil, restE_cons, putSlot_at, mutP_some, mutF_own, mutQ_some, mutK_own, sMut_at, isLst_lst, extE_own, extD_lst, extK_own, sExt_at, sDisp_at, flat2_nil, flat2_cons, putQ_some, putE_own, putD_some, putF_some, putK_some, sPut_at, sPar_at, parB_some, parK_some, normB_nil, normB_cons, normBC_v, bindVs_nil, bindVs_frz, bindVs_own, setTK_some, sSetT_at, raiseK_some, sRaise_at, if_true, if_false, Bool.true_and, Bool.and_true, Bool.false_and, Bool.and_false, Bool.not_true, Bool.not_false, Bool.false_eq_true, reduceIte, List.length_cons, List.length_nil, List.map_cons, List.map_nil, List.contains_cons, List.contains_nil, List.any_nil, List.any_cons, beq_self_eq_true, Bool.true_or, Bool.or_true, Bool.false_or, Bool.or_false, isAli, List.nodup_nil, List.nodup_cons, List.not_mem_nil, not_false_eq_true, and_true, true_and, and_self, decide_true, decide_false, Nat.reduceAdd, Nat.reduceLeDiff, Nat.reduceBEq, Nat.reduceEqDiff, Nat.reduceLT, Int.reducePow, Int.reduceNeg, Int.reduceLT, Int.reduceLE, List.append_nil, List.nil_append, List.cons_append, List.isEmpty_cons, List.isEmpty_nil, decide_eq_true_eq]
  rfl
theorem L8 (t m a b x y) (ha : Row a) (hb : Row b) (hx : Arg a x) (hy : Arg b y) : cl t (m + 7) 8 [x, y] = .ok false (.int (fval a b)) [some (fz x.d), some (fz y.d)] := by
  rw [q8, g8]
  have e1 := fun w => L4 t m a ha x hx w
  have e2 := fun w => L4 t m b hb y hy w
  have e3 := L7 t (m + 3) a b ha hb
  cases hx <;> cases hy <;> simp only [e1, e2, e3, bind_ok, bind_exc, toS_ok, toS_exc, seq_nx, seq_rt, seq_bk, seq_ct, seq_exc, loop_nx, loop_ct, loop_bk, loop_rt, loop_exc, nox_ok, sVar_at, varR_frz, varR_own, sLit_at, get_0, get_s, set_0, set_s, der_v, der_ali, slotO_s, frz1_v, frz1_ali, frzO_own, frzO_frz, frzs_nil, frzC_some, frzs_v, frzD_some, frzs_ali, sArgs_nil, sArgs_cons, fin_some, op1K_some, op2K_some, sOp1_at, sOp2_at, opNK_some, sOpIsi_at, sOpSl0_at, sOpSl1_at, sOpSl2_at, sOpSl3_at, ders_nil, dersC_some, ders_cons, truF_some, truK_some, sTruth_at, sTNot_at, sTAnd_at, sTOr_at, sIte_at, sAnd_at, sOr_at, andK_bl, orK_bl, sNot_at, notK_bl, truth_bl, truth_int, truth_lst, truth_tup, truth_non, sChain_at, chK_int, sNil_at, sSeq_at, sIf_at, sRet_at, sDrop_at, setF_some, setK_own, setK_frz, setK_ali, sSet_at, sAug_at, augK_int, tupK_0, lstK_0, tupK_1, lstK_1, tupK_2, lstK_2, tupK_3, lstK_3, tupK_4, lstK_4, tupK_5, lstK_5, tupK_6, lstK_6, tupK_7, lstK_7, tupK_8, lstK_8, tupK_9, lstK_9, tupK_10, lstK_10, tupK_11, lstK_11, tupK_12, lstK_12, tupK_13, lstK_13, tupK_14, lstK_14, tupK_15, lstK_15, tupK_16, lstK_16, sTup_at, sLst_at, sNewD_at, pinL_at, normA_nil, normA_cons, normC_frz, normC_own, normC_ali, argV_frz, argV_ownP, argV_ali, argO_own, argO_frz, argC_some, argsV_nil, argsV_cons, outsOf_nil, outsOf_v, outsOf_ali, outsK_own, putOuts_nil, putOuts_cons, optJ_some, callR_ok, callR_exc, callA_some, callN_some, sCall_at, endRun_nx, endRun_v, endRun_exc, endRun_ali, endO_frz, endO_own, outE_0, outE_1, outE_2, outE_3, outE_4, outE_5, outE_6, outV_at, seqK_some, sqK_some, seqB_lst, seqB_tup, seqB_ktp, seqB_scr, wSq_at, wRg1_at, rg2K_int, wRg2_at, zip2_some, zipK_some, wZip_at, bd_nm, bd_tup, bd_ktp, bNames_nil, bNames_cons, lpB_some, sFor_at, lcF_some, lcB_some, lcE_ok, lcH_some, sLc_at, sYes_at, hideS_nil, hideS_cons, hideK_none, hideK_frz, hideK_own, wipeE_nil, wipeE_cons, restE_nil, restE_cons, putSlot_at, mutP_some, mutF_own, mutQ_some, mutK_own, sMut_at, isLst_lst, extE_own, extD_lst, extK_own, sExt_at, sDisp_at, flat2_nil, flat2_cons, putQ_some, putE_own, putD_some, putF_some, putK_some, sPut_at, sPar_at, parB_some, parK_some, normB_nil, normB_cons, normBC_v, bindVs_nil, bindVs_frz, bindVs_own, setTK_some, sSetT_at, raiseK_some, sRaise_at, if_true, if_false, Bool.true_and, Bool.and_true, Bool.false_and, Bool.and_false, Bool.not_true, Bool.not_false, Bool.false_eq_true, reduceIte, List.length_cons, List.length_nil, List.map_cons, List.map_nil, List.contains_cons, List.contains_nil, List.any_nil, List.any_cons, beq_self_eq_true, Bool.true_or, Bool.or_true, Bool.false_or, Bool.or_false, isAli, List.nodup_nil, List.nodup_cons, List.not_mem_nil, not_false_eq_true, and_true, true_and, and_self, decide_true, decide_false, Nat.reduceAdd, Nat.reduceLeDiff, Nat.reduceBEq, Nat.reduceEqDiff, Nat.reduceLT, Int.reducePow, Int.reduceNeg, Int.reduceLT, Int.reduceLE, List.append_nil, List.nil_append, List.cons_append, List.isEmpty_cons, List.isEmpty_nil, decide_eq_true_eq]
/-- the 64 rows -/
def rows : List (List Int) := (List.range 64).map fun n => [(n / 32 % 2 : Nat), (n / 16 % 2 : Nat), (n / 8 % 2 : Nat), (n / 4 % 2 : Nat), (n / 2 % 2 : Nat), (n % 2 : Nat)].map fun (k : Nat) => (k : Int)
def rowB (r : List Int) : Bool := decide (r.length = 6) && r.all fun x => decide (x = 0) || decide (x = 1)
theorem rowB_ok {r : List Int} (h : rowB r = true) : Row r := by
  unfold rowB at h
  simp only [Bool.and_eq_true, decide_eq_true_eq] at h
  exact ⟨h.1, fun x hx => by simpa using List.all_eq_true.mp h.2 x hx⟩
theorem rows_row : ∀ r ∈ rows, Row r := fun r hr => rowB_ok (List.all_eq_true.mp (show rows.all rowB = true by decide +kernel) r hr)
theorem L9 (t m) : cl t (m + 3) 9 [] = .ok false (.lst (rows.map tI)) [] := by
  rw [q9]
  kernel_rfl
theorem L20 (t m) : cl t (m + 3) 20 [⟨.own, .lst [.int 0, .int 1]⟩, fz (.int 6)] = .ok false (.lst (rows.map tI)) [some (fz (.lst [.int 0, .int 1])), some (fz (.int 6))] := by
  rw [q20]
  kernel_rfl
theorem L23 (t m) : cl t (m + 4) 23 [] = .ok false (.lst (rows.map tI)) [] := by
  rw [q23, g23]
  simp only [L20, bind_ok, bind_exc, toS_ok, toS_exc, seq_nx, seq_rt, seq_bk, seq_ct, seq_exc, loop_nx, loop_ct, loop_bk, loop_rt, loop_exc, nox_ok, sVar_at, varR_frz, varR_own, sLit_at, get_0, get_s, set_0, set_s, der_v, der_ali, slotO_s, frz1_v, frz1_ali, frzO_own, frzO_frz, frzs_nil, frzC_some, frzs_v, frzD_some, frzs_ali, sArgs_nil, sArgs_cons, fin_some, op1K_some, op2K_some, sOp1_at, sOp2_at, opNK_some, sOpIsi_at, sOpSl0_at, sOpSl1_at, sOpSl2_at, sOpSl3_at, ders_nil, dersC_some, ders_cons, truF_some, truK_some, sTruth_at, sTNot_at, sTAnd_at, sTOr_at, sIte_at, sAnd_at, sOr_at, andK_bl, orK_bl, sNot_at, notK_bl, truth_bl, truth_int, truth_lst, truth_tup, truth_non, sChain_at, chK_int, sNil_at, sSeq_at, sIf_at, sRet_at, sDrop_at, setF_some, setK_own, setK_frz, setK_ali, sSet_at, sAug_at, augK_int, tupK_0, lstK_0, tupK_1, lstK_1, tupK_2, lstK_2, tupK_3, lstK_3, tupK_4, lstK_4, tupK_5, lstK_5, tupK_6, lstK_6, tupK_7, lstK_7, tupK_8, lstK_8, tupK_9, lstK_9, tupK_10, lstK_10, tupK_11, lstK_11, tupK_12, lstK_12, tupK_13, lstK_13, tupK_14, lstK_14, tupK_15, lstK_15, tupK_16, lstK_16, sTup_at, sLst_at, sNewD_at, pinL_at, normA_nil, normA_cons, normC_frz, normC_own, normC_ali, argV_frz, argV_ownP, argV_ali, argO_own, argO_frz, argC_some, argsV_nil, argsV_cons, outsOf_nil, outsOf_v, outsOf_ali, outsK_own, putOuts_nil, putOuts_cons, optJ_some, callR_ok, callR_exc, callA_some, callN_some, sCall_at, endRun_nx, endRun_v, endRun_exc, endRun_ali, endO_frz, endO_own, outE_0, outE_1, outE_2, outE_3, outE_4, outE_5, outE_6, outV_at, seqK_some, sqK_some, seqB_lst, seqB_tup, seqB_ktp, seqB_scr, wSq_at, wRg1_at, rg2K_int, wRg2_at, zip2_some, zipK_some, wZip_at, bd_nm, bd_tup, bd_ktp, bNames_nil, bNames_cons, lpB_some, sFor_at, lcF_some, lcB_some, lcE_ok, lcH_some, sLc_at, sYes_at, hideS_nil, hideS_cons, hideK_none, hideK_frz, hideK_own, wipeE_nil, wipeE_cons, restE_nil, restE_cons, putSlot_at, mutP_some, mutF_own, mutQ_some, mutK_own, sMut_at, isLst_lst, extE_own, extD_lst, extK_own, sExt_at, sDisp_at, flat2_nil, flat2_cons, putQ_some, putE_own, putD_some, putF_some, putK_some, sPut_at, sPar_at, parB_some, parK_some, normB_nil, normB_cons, normBC_v, bindVs_nil, bindVs_frz, bindVs_own, setTK_some, sSetT_at, raiseK_some, sRaise_at, if_true, if_false, Bool.true_and, Bool.and_true, Bool.false_and, Bool.and_false, Bool.not_true, Bool.not_false, Bool.false_eq_true, reduceIte, List.length_cons, List.length_nil, List.map_cons, List.map_nil, List.contains_cons, List.contains_nil, List.any_nil, List.any_cons, beq_self_eq_true, Bool.true_or, Bool.or_true, Bool.false_or, Bool.or_false, isAli, List.nodup_nil, List.nodup_cons, List.not_mem_nil, not_false_eq_true, and_true, true_and, and_self, decide_true, decide_false, Nat.reduceAdd, Nat.reduceLeDiff, Nat.reduceBEq, Nat.reduceEqDiff, Nat.reduceLT, Int.reducePow, Int.reduceNeg, Int.reduceLT, Int.reduceLE, List.append_nil, List.nil_append, List.cons_append, List.isEmpty_cons, List.isEmpty_nil, decide_eq_true_eq]
def isOdd (f : List Int) : Bool := decide ((rows.map fun r => 1 - fval f r).sum = 28)
theorem L10 (t m f) (hf : Row f) : cl t (m + 6) 10 [fz (tI f)] = .ok false (.bl (isOdd f)) [some (fz (tI f))] := by
  have it : ∀ r ∈ rows, lcB sYes (sOp (op2 dSub) [sLit (.int 1), sCall (pinL [0, 1]) (cl t (m + 5) 7) [sVar 0, sVar 1]]) [1] ((Tgt.nm 1).bd (tI r) [some (fz (tI f)), none]) = .ok (some (.int (1 - fval f r))) [some (fz (tI f)), none] := fun r hr => by
    simp only [L7 t (m + 2) f r hf (rows_row r hr), subt_ii, bind_ok, bind_exc, toS_ok, toS_exc, seq_nx, seq_rt, seq_bk, seq_ct, seq_exc, loop_nx, loop_ct, loop_bk, loop_rt, loop_exc, nox_ok, sVar_at, varR_frz, varR_own, sLit_at, get_0, get_s, set_0, set_s, der_v, der_ali, slotO_s, frz1_v, frz1_ali, frzO_own, frzO_frz, frzs_nil, frzC_some, frzs_v, frzD_some, frzs_ali, sArgs_nil, sArgs_cons, fin_some, op1K_some, op2K_some, sOp1_at, sOp2_at, opNK_some, sOpIsi_at, sOpSl0_at, sOpSl1_at, sOpSl2_at, sOpSl3_at, ders_nil, dersC_some, ders_cons, truF_some, truK_some, sTruth_at, sTNot_at, sTAnd_at, sTOr_at, sIte_at, sAnd_at, sOr_at, andK_bl, orK_bl, sNot_at, notK_bl, truth_bl, truth_int, truth_lst, truth_tup, truth_non, sChain_at, chK_int, sNil_at, sSeq_at, sIf_at, sRet_at, sDrop_at, setF_some, setK_own, setK_frz, setK_ali, sSet_at, sAug_at, augK_int, tupK_0, lstK_0, tupK_1, lstK_1, tupK_2, lstK_2, tupK_3, lstK_3, tupK_4, lstK_4, tupK_5, lstK_5, tupK_6, lstK_6, tupK_7, lstK_7, tupK_8, lstK_8, tupK_9, lstK_9, tupK_10, lstK_10, tupK_11, lstK_11, tupK_12, lstK_12, tupK_13, lstK_13, tupK_14, lstK_14, tupK_15, lstK_15, tupK_16, lstK_16, sTup_at, sLst_at, sNewD_at, pinL_at, normA_nil, normA_cons, normC_frz, normC_own, normC_ali, argV_frz, argV_ownP, argV_ali, argO_own, argO_frz, argC_some, argsV_nil, argsV_cons, outsOf_nil, outsOf_v, outsOf_ali, outsK_own, putOuts_nil, putOuts_cons, optJ_some, callR_ok, callR_exc, callA_some, callN_some, sCall_at, endRun_nx, endRun_v, endRun_exc, endRun_ali, endO_frz, endO_own, outE_0, outE_1, outE_2, outE_3, outE_4, outE_5, outE_6, outV_at, seqK_some, sqK_some, seqB_lst, seqB_tup, seqB_ktp, seqB_scr, wSq_at, wRg1_at, rg2K_int, wRg2_at, zip2_some, zipK_some, wZip_at, bd_nm, bd_tup, bd_ktp, bNames_nil, bNames_cons, lpB_some, sFor_at, lcF_some, lcB_some, lcE_ok, lcH_some, sLc_at, sYes_at, hideS_nil, hideS_cons, hideK_none, hideK_frz, hideK_own, wipeE_nil, wipeE_cons, restE_nil, restE_cons, putSlot_at, mutP_some, mutF_own, mutQ_some, mutK_own, sMut_at, isLst_lst, extE_own, extD_lst, extK_own, sExt_at, sDisp_at, flat2_nil, flat2_cons, putQ_some, putE_own, putD_some, putF_some, putK_some, sPut_at, sPar_at, parB_some, parK_some, normB_nil, normB_cons, normBC_v, bindVs_nil, bindVs_frz, bindVs_own, setTK_some, sSetT_at, raiseK_some, sRaise_at, if_true, if_false, Bool.true_and, Bool.and_true, Bool.false_and, Bool.and_false, Bool.not_true, Bool.not_false, Bool.false_eq_true, reduceIte, List.length_cons, List.length_nil, List.map_cons, List.map_nil, List.contains_cons, List.contains_nil, List.any_nil, List.any_cons, beq_self_eq_true, Bool.true_or, Bool.or_true, Bool.false_or, Bool.or_false, isAli, List.nodup_nil, List.nodup_cons, List.not_mem_nil, not_false_eq_true, and_true, true_and, and_self, decide_true, decide_false, Nat.reduceAdd, Nat.reduceLeDiff, Nat.reduceBEq, Nat.reduceEqDiff, Nat.reduceLT, Int.reducePow, Int.reduceNeg, Int.reduceLT, Int.reduceLE, List.append_nil, List.nil_append, List.cons_append, List.isEmpty_cons, List.isEmpty_nil, decide_eq_true_eq]
  have key := lcS_mapv (bd := (Tgt.nm 1).bd) (vs := [1]) rows tI (fun r => .int (1 - fval f r)) it (by decide)
  have e : (rows.map fun r => D.int (1 - fval f r)) = (rows.map fun r => 1 - fval f r).map .int := by simp
  rw [e] at key
  rw [q10, g10]
  simp only [L9 t (m + 2), bind_ok, bind_exc, toS_ok, toS_exc, seq_nx, seq_rt, seq_bk, seq_ct, seq_exc, loop_nx, loop_ct, loop_bk, loop_rt, loop_exc, nox_ok, sVar_at, varR_frz, varR_own, sLit_at, get_0, get_s, set_0, set_s, der_v, der_ali, slotO_s, frz1_v, frz1_ali, frzO_own, frzO_frz, frzs_nil, frzC_some, frzs_v, frzD_some, frzs_ali, sArgs_nil, sArgs_cons, fin_some, op1K_some, op2K_some, sOp1_at, sOp2_at, opNK_some, sOpIsi_at, sOpSl0_at, sOpSl1_at, sOpSl2_at, sOpSl3_at, ders_nil, dersC_some, ders_cons, truF_some, truK_some, sTruth_at, sTNot_at, sTAnd_at, sTOr_at, sIte_at, sAnd_at, sOr_at, andK_bl, orK_bl, sNot_at, notK_bl, truth_bl, truth_int, truth_lst, truth_tup, truth_non, sChain_at, chK_int, sNil_at, sSeq_at, sIf_at, sRet_at, sDrop_at, setF_some, setK_own, setK_frz, setK_ali, sSet_at, sAug_at, augK_int, tupK_0, lstK_0, tupK_1, lstK_1, tupK_2, lstK_2, tupK_3, lstK_3, tupK_4, lstK_4, tupK_5, lstK_5, tupK_6, lstK_6, tupK_7, lstK_7, tupK_8, lstK_8, tupK_9, lstK_9, tupK_10, lstK_10, tupK_11, lstK_11, tupK_12, lstK_12, tupK_13, lstK_13, tupK_14, lstK_14, tupK_15, lstK_15, tupK_16, lstK_16, sTup_at, sLst_at, sNewD_at, pinL_at, normA_nil, normA_cons, normC_frz, normC_own, normC_ali, argV_frz, argV_ownP, argV_ali, argO_own, argO_frz, argC_some, argsV_nil, argsV_cons, outsOf_nil, outsOf_v, outsOf_ali, outsK_own, putOuts_nil, putOuts_cons, optJ_some, callR_ok, callR_exc, callA_some, callN_some, sCall_at, endRun_nx, endRun_v, endRun_exc, endRun_ali, endO_frz, endO_own, outE_0, outE_1, outE_2, outE_3, outE_4, outE_5, outE_6, outV_at, seqK_some, sqK_some, seqB_lst, seqB_tup, seqB_ktp, seqB_scr, wSq_at, wRg1_at, rg2K_int, wRg2_at, zip2_some, zipK_some, wZip_at, bd_nm, bd_tup, bd_ktp, bNames_nil, bNames_cons, lpB_some, sFor_at, lcF_some, lcB_some, lcE_ok, lcH_some, sLc_at, sYes_at, hideS_nil, hideS_cons, hideK_none, hideK_frz, hideK_own, wipeE_nil, wipeE_cons, restE_nil, restE_cons, putSlot_at, mutP_some, mutF_own, mutQ_some, mutK_own, sMut_at, isLst_lst, extE_own, extD_lst, extK_own, sExt_at, sDisp_at, flat2_nil, flat2_cons, putQ_some, putE_own, putD_some, putF_some, putK_some, sPut_at, sPar_at, parB_some, parK_some, normB_nil, normB_cons, normBC_v, bindVs_nil, bindVs_frz, bindVs_own, setTK_some, sSetT_at, raiseK_some, sRaise_at, if_true, if_false, Bool.true_and, Bool.and_true, Bool.false_and, Bool.and_false, Bool.not_true, Bool.not_false, Bool.false_eq_true, reduceIte, List.length_cons, List.length_nil, List.map_cons, List.map_nil, List.contains_cons, List.contains_nil, List.any_nil, List.any_cons, beq_self_eq_true, Bool.true_or, Bool.or_true, Bool.false_or, Bool.or_false, isAli, List.nodup_nil, List.nodup_cons, List.not_mem_nil, not_false_eq_true, and_true, true_and, and_self, decide_true, decide_false, Nat.reduceAdd, Nat.reduceLeDiff, Nat.reduceBEq, Nat.reduceEqDiff, Nat.reduceLT, Int.reducePow, Int.reduceNeg, Int.reduceLT, Int.reduceLE, List.append_nil, List.nil_append, List.cons_append, List.isEmpty_cons, List.isEmpty_nil, decide_eq_true_eq]
  rw [key]
  simp only [fSum_l, eq_ii, bind_ok, bind_exc, toS_ok, toS_exc, seq_nx, seq_rt, seq_bk, seq_ct, seq_exc, loop_nx, loop_ct, loop_bk, loop_rt, loop_exc, nox_ok, sVar_at, varR_frz, varR_own, sLit_at, get_0, get_s, set_0, set_s, der_v, der_ali, slotO_s, frz1_v, frz1_ali, frzO_own, frzO_frz, frzs_nil, frzC_some, frzs_v, frzD_some, frzs_ali, sArgs_nil, sArgs_cons, fin_some, op1K_some, op2K_some, sOp1_at, sOp2_at, opNK_some, sOpIsi_at, sOpSl0_at, sOpSl1_at, sOpSl2_at, sOpSl3_at, ders_nil, dersC_some, ders_cons, truF_some, truK_some, sTruth_at, sTNot_at, sTAnd_at, sTOr_at, sIte_at, sAnd_at, sOr_at, andK_bl, orK_bl, sNot_at, notK_bl, truth_bl, truth_int, truth_lst, truth_tup, truth_non, sChain_at, chK_int, sNil_at, sSeq_at, sIf_at, sRet_at, sDrop_at, setF_some, setK_own, setK_frz, setK_ali, sSet_at, sAug_at, augK_int, tupK_0, lstK_0, tupK_1, lstK_1, tupK_2, lstK_2, tupK_3, lstK_3, tupK_4, lstK_4, tupK_5, lstK_5, tupK_6, lstK_6, tupK_7, lstK_7, tupK_8, lstK_8, tupK_9, lstK_9, tupK_10, lstK_10, tupK_11, lstK_11, tupK_12, lstK_12, tupK_13, lstK_13, tupK_14, lstK_14, tupK_15, lstK_15, tupK_16, lstK_16, sTup_at, sLst_at, sNewD_at, pinL_at, normA_nil, normA_cons, normC_frz, normC_own, normC_ali, argV_frz, argV_ownP, argV_ali, argO_own, argO_frz, argC_some, argsV_nil, argsV_cons, outsOf_nil, outsOf_v, outsOf_ali, outsK_own, putOuts_nil, putOuts_cons, optJ_some, callR_ok, callR_exc, callA_some, callN_some, sCall_at, endRun_nx, endRun_v, endRun_exc, endRun_ali, endO_frz, endO_own, outE_0, outE_1, outE_2, outE_3, outE_4, outE_5, outE_6, outV_at, seqK_some, sqK_some, seqB_lst, seqB_tup, seqB_ktp, seqB_scr, wSq_at, wRg1_at, rg2K_int, wRg2_at, zip2_some, zipK_some, wZip_at, bd_nm, bd_tup, bd_ktp, bNames_nil, bNames_cons, lpB_some, sFor_at, lcF_some, lcB_some, lcE_ok, lcH_some, sLc_at, sYes_at, hideS_nil, hideS_cons, hideK_none, hideK_frz, hideK_own, wipeE_nil, wipeE_cons, restE_nil, restE_cons, putSlot_at, mutP_some, mutF_own, mutQ_some, mutK_own, sMut_at, isLst_lst, extE_own, extD_lst, extK_own, sExt_at, sDisp_at, flat2_nil, flat2_cons, putQ_some, putE_own, putD_some, putF_some, putK_some, sPut_at, sPar_at, parB_some, parK_some, normB_nil, normB_cons, normBC_v, bindVs_nil, bindVs_frz, bindVs_own, setTK_some, sSetT_at, raiseK_some, sRaise_at, if_true, if_false, Bool.true_and, Bool.and_true, Bool.false_and, Bool.and_false, Bool.not_true, Bool.not_false, Bool.false_eq_true, reduceIte, List.length_cons, List.length_nil, List.map_cons, List.map_nil, List.contains_cons, List.contains_nil, List.any_nil, List.any_cons, beq_self_eq_true, Bool.true_or, Bool.or_true, Bool.false_or, Bool.or_false, isAli, List.nodup_nil, List.nodup_cons, List.not_mem_nil, not_false_eq_true, and_true, true_and, and_self, decide_true, decide_false, Nat.reduceAdd, Nat.reduceLeDiff, Nat.reduceBEq, Nat.reduceEqDiff, Nat.reduceLT, Int.reducePow, Int.reduceNeg, Int.reduceLT, Int.reduceLE, List.append_nil, List.nil_append, List.cons_append, List.isEmpty_cons, List.isEmpty_nil, decide_eq_true_eq]
  rfl
theorem L11 (t m) : cl t (m + 8) 11 [] = .ok false (.tup ((rows.filter isOdd).map tI)) [] := by
  have it : ∀ r ∈ rows, lcB (sTruth (sCall (pinL [0]) (cl t (m + 7) 10) [sVar 0])) (sVar 0) [0] ((Tgt.nm 0).bd (tI r) [none]) = .ok (if isOdd r then some (tI r) else none) [none] := fun r hr => by
    simp only [L10 t (m + 1) r (rows_row r hr), bind_ok, bind_exc, toS_ok, toS_exc, seq_nx, seq_rt, seq_bk, seq_ct, seq_exc, loop_nx, loop_ct, loop_bk, loop_rt, loop_exc, nox_ok, sVar_at, varR_frz, varR_own, sLit_at, get_0, get_s, set_0, set_s, der_v, der_ali, slotO_s, frz1_v, frz1_ali, frzO_own, frzO_frz, frzs_nil, frzC_some, frzs_v, frzD_some, frzs_ali, sArgs_nil, sArgs_cons, fin_some, op1K_some, op2K_some, sOp1_at, sOp2_at, opNK_some, sOpIsi_at, sOpSl0_at, sOpSl1_at, sOpSl2_at, sOpSl3_at, ders_nil, dersC_some, ders_cons, truF_some, truK_some, sTruth_at, sTNot_at, sTAnd_at, sTOr_at, sIte_at, sAnd_at, sOr_at, andK_bl, orK_bl, sNot_at, notK_bl, truth_bl, truth_int, truth_lst, truth_tup, truth_non, sChain_at, chK_int, sNil_at, sSeq_at, sIf_at, sRet_at, sDrop_at, setF_some, setK_own, setK_frz, setK_ali, sSet_at, sAug_at, augK_int, tupK_0, lstK_0, tupK_1, lstK_1, tupK_2, lstK_2, tupK_3, lstK_3, tupK_4, lstK_4, tupK_5, lstK_5, tupK_6, lstK_6, tupK_7, lstK_7, tupK_8, lstK_8, tupK_9, lstK_9, tupK_10, lstK_10, tupK_11, lstK_11, tupK_12, lstK_12, tupK_13, lstK_13, tupK_14, lstK_14, tupK_15, lstK_15, tupK_16, lstK_16, sTup_at, sLst_at, sNewD_at, pinL_at, normA_nil, normA_cons, normC_frz, normC_own, normC_ali, argV_frz, argV_ownP, argV_ali, argO_own, argO_frz, argC_some, argsV_nil, argsV_cons, outsOf_nil, outsOf_v, outsOf_ali, outsK_own, putOuts_nil, putOuts_cons, optJ_some, callR_ok, callR_exc, callA_some, callN_some, sCall_at, endRun_nx, endRun_v, endRun_exc, endRun_ali, endO_frz, endO_own, outE_0, outE_1, outE_2, outE_3, outE_4, outE_5, outE_6, outV_at, seqK_some, sqK_some, seqB_lst, seqB_tup, seqB_ktp, seqB_scr, wSq_at, wRg1_at, rg2K_int, wRg2_at, zip2_some, zipK_some, wZip_at, bd_nm, bd_tup, bd_ktp, bNames_nil, bNames_cons, lpB_some, sFor_at, lcF_some, lcB_some, lcE_ok, lcH_some, sLc_at, sYes_at, hideS_nil, hideS_cons, hideK_none, hideK_frz, hideK_own, wipeE_nil, wipeE_cons, restE_nil, restE_cons, putSlot_at, mutP_some, mutF_own, mutQ_some, mutK_own, sMut_at, isLst_lst, extE_own, extD_lst, extK_own, sExt_at, sDisp_at, flat2_nil, flat2_cons, putQ_some, putE_own, putD_some, putF_some, putK_some, sPut_at, sPar_at, parB_some, parK_some, normB_nil, normB_cons, normBC_v, bindVs_nil, bindVs_frz, bindVs_own, setTK_some, sSetT_at, raiseK_some, sRaise_at, if_true, if_false, Bool.true_and, Bool.and_true, Bool.false_and, Bool.and_false, Bool.not_true, Bool.not_false, Bool.false_eq_true, reduceIte, List.length_cons, List.length_nil, List.map_cons, List.map_nil, List.contains_cons, List.contains_nil, List.any_nil, List.any_cons, beq_self_eq_true, Bool.true_or, Bool.or_true, Bool.false_or, Bool.or_false, isAli, List.nodup_nil, List.nodup_cons, List.not_mem_nil, not_false_eq_true, and_true, true_and, and_self, decide_true, decide_false, Nat.reduceAdd, Nat.reduceLeDiff, Nat.reduceBEq, Nat.reduceEqDiff, Nat.reduceLT, Int.reducePow, Int.reduceNeg, Int.reduceLT, Int.reduceLE, List.append_nil, List.nil_append, List.cons_append, List.isEmpty_cons, List.isEmpty_nil, decide_eq_true_eq]
    cases isOdd r <;> simp only [bind_ok, bind_exc, toS_ok, toS_exc, seq_nx, seq_rt, seq_bk, seq_ct, seq_exc, loop_nx, loop_ct, loop_bk, loop_rt, loop_exc, nox_ok, sVar_at, varR_frz, varR_own, sLit_at, get_0, get_s, set_0, set_s, der_v, der_ali, slotO_s, frz1_v, frz1_ali, frzO_own, frzO_frz, frzs_nil, frzC_some, frzs_v, frzD_some, frzs_ali, sArgs_nil, sArgs_cons, fin_some, op1K_some, op2K_some, sOp1_at, sOp2_at, opNK_some, sOpIsi_at, sOpSl0_at, sOpSl1_at, sOpSl2_at, sOpSl3_at, ders_nil, dersC_some, ders_cons, truF_some, truK_some, sTruth_at, sTNot_at, sTAnd_at, sTOr_at, sIte_at, sAnd_at, sOr_at, andK_bl, orK_bl, sNot_at, notK_bl, truth_bl, truth_int, truth_lst, truth_tup, truth_non, sChain_at, chK_int, sNil_at, sSeq_at, sIf_at, sRet_at, sDrop_at, setF_some, setK_own, setK_frz, setK_ali, sSet_at, sAug_at, augK_int, tupK_0, lstK_0, tupK_1, lstK_1, tupK_2, lstK_2, tupK_3, lstK_3, tupK_4, lstK_4, tupK_5, lstK_5, tupK_6, lstK_6, tupK_7, lstK_7, tupK_8, lstK_8, tupK_9, lstK_9, tupK_10, lstK_10, tupK_11, lstK_11, tupK_12, lstK_12, tupK_13, lstK_13, tupK_14, lstK_14, tupK_15, lstK_15, tupK_16, lstK_16, sTup_at, sLst_at, sNewD_at, pinL_at, normA_nil, normA_cons, normC_frz, normC_own, normC_ali, argV_frz, argV_ownP, argV_ali, argO_own, argO_frz, argC_some, argsV_nil, argsV_cons, outsOf_nil, outsOf_v, outsOf_ali, outsK_own, putOuts_nil, putOuts_cons, optJ_some, callR_ok, callR_exc, callA_some, callN_some, sCall_at, endRun_nx, endRun_v, endRun_exc, endRun_ali, endO_frz, endO_own, outE_0, outE_1, outE_2, outE_3, outE_4, outE_5, outE_6, outV_at, seqK_some, sqK_some, seqB_lst, seqB_tup, seqB_ktp, seqB_scr, wSq_at, wRg1_at, rg2K_int, wRg2_at, zip2_some, zipK_some, wZip_at, bd_nm, bd_tup, bd_ktp, bNames_nil, bNames_cons, lpB_some, sFor_at, lcF_some, lcB_some, lcE_ok, lcH_some, sLc_at, sYes_at, hideS_nil, hideS_cons, hideK_none, hideK_frz, hideK_own, wipeE_nil, wipeE_cons, restE_nil, restE_cons, putSlot_at, mutP_some, mutF_own, mutQ_some, mutK_own, sMut_at, isLst_lst, extE_own, extD_lst, extK_own, sExt_at, sDisp_at, flat2_nil, flat2_cons, putQ_some, putE_own, putD_some, putF_some, putK_some, sPut_at, sPar_at, parB_some, parK_some, normB_nil, normB_cons, normBC_v, bindVs_nil, bindVs_frz, bindVs_own, setTK_some, sSetT_at, raiseK_some, sRaise_at, if_true, if_false, Bool.true_and, Bool.and_true, Bool.false_and, Bool.and_false, Bool.not_true, Bool.not_false, Bool.false_eq_true, reduceIte, List.length_cons, List.length_nil, List.map_cons, List.map_nil, List.contains_cons, List.contains_nil, List.any_nil, List.any_cons, beq_self_eq_true, Bool.true_or, Bool.or_true, Bool.false_or, Bool.or_false, isAli, List.nodup_nil, List.nodup_cons, List.not_mem_nil, not_false_eq_true, and_true, true_and, and_self, decide_true, decide_false, Nat.reduceAdd, Nat.reduceLeDiff, Nat.reduceBEq, Nat.reduceEqDiff, Nat.reduceLT, Int.reducePow, Int.reduceNeg, Int.reduceLT, Int.reduceLE, List.append_nil, List.nil_append, List.cons_append, List.isEmpty_cons, List.isEmpty_nil, decide_eq_true_eq]
  have key := lcS_filter (bd := (Tgt.nm 0).bd) (vs := [0]) rows tI isOdd it (by decide)
  rw [q11, g11]
  simp only [L9 t (m + 4), bind_ok, bind_exc, toS_ok, toS_exc, seq_nx, seq_rt, seq_bk, seq_ct, seq_exc, loop_nx, loop_ct, loop_bk, loop_rt, loop_exc, nox_ok, sVar_at, varR_frz, varR_own, sLit_at, get_0, get_s, set_0, set_s, der_v, der_ali, slotO_s, frz1_v, frz1_ali, frzO_own, frzO_frz, frzs_nil, frzC_some, frzs_v, frzD_some, frzs_ali, sArgs_nil, sArgs_cons, fin_some, op1K_some, op2K_some, sOp1_at, sOp2_at, opNK_some, sOpIsi_at, sOpSl0_at, sOpSl1_at, sOpSl2_at, sOpSl3_at, ders_nil, dersC_some, ders_cons, truF_some, truK_some, sTruth_at, sTNot_at, sTAnd_at, sTOr_at, sIte_at, sAnd_at, sOr_at, andK_bl, orK_bl, sNot_at, notK_bl, truth_bl, truth_int, truth_lst, truth_tup, truth_non, sChain_at, chK_int, sNil_at, sSeq_at, sIf_at, sRet_at, sDrop_at, setF_some, setK_own, setK_frz, setK_ali, sSet_at, sAug_at, augK_int, tupK_0, lstK_0, tupK_1, lstK_1, tupK_2, lstK_2, tupK_3, lstK_3, tupK_4, lstK_4, tupK_5, lstK_5, tupK_6, lstK_6, tupK_7, lstK_7, tupK_8, lstK_8, tupK_9, lstK_9, tupK_10, lstK_10, tupK_11, lstK_11, tupK_12, lstK_12, tupK_13, lstK_13, tupK_14, lstK_14, tupK_15, lstK_15, tupK_16, lstK_16, sTup_at, sLst_at, sNewD_at, pinL_at, normA_nil, normA_cons, normC_frz, normC_own, normC_ali, argV_frz, argV_ownP, argV_ali, argO_own, argO_frz, argC_some, argsV_nil, argsV_cons, outsOf_nil, outsOf_v, outsOf_ali, outsK_own, putOuts_nil, putOuts_cons, optJ_some, callR_ok, callR_exc, callA_some, callN_some, sCall_at, endRun_nx, endRun_v, endRun_exc, endRun_ali, endO_frz, endO_own, outE_0, outE_1, outE_2, outE_3, outE_4, outE_5, outE_6, outV_at, seqK_some, sqK_some, seqB_lst, seqB_tup, seqB_ktp, seqB_scr, wSq_at, wRg1_at, rg2K_int, wRg2_at, zip2_some, zipK_some, wZip_at, bd_nm, bd_tup, bd_ktp, bNames_nil, bNames_cons, lpB_some, sFor_at, lcF_some, lcB_some, lcE_ok, lcH_some, sLc_at, sYes_at, hideS_nil, hideS_cons, hideK_none, hideK_frz, hideK_own, wipeE_nil, wipeE_cons, restE_nil, restE_cons, putSlot_at, mutP_some, mutF_own, mutQ_some, mutK_own, sMut_at, isLst_lst, extE_own, extD_lst, extK_own, sExt_at, sDisp_at, flat2_nil, flat2_cons, putQ_some, putE_own, putD_some, putF_some, putK_some, sPut_at, sPar_at, parB_some, parK_some, normB_nil, normB_cons, normBC_v, bindVs_nil, bindVs_frz, bindVs_own, setTK_some, sSetT_at, raiseK_some, sRaise_at, if_true, if_false, Bool.true_and, Bool.and_true, Bool.false_and, Bool.and_false, Bool.not_true, Bool.not_false, Bool.false_eq_true, reduceIte, List.length_cons, List.length_nil, List.map_cons, List.map_nil, List.contains_cons, List.contains_nil, List.any_nil, List.any_cons, beq_self_eq_true, Bool.true_or, Bool.or_true, Bool.false_or, Bool.or_false, isAli, List.nodup_nil, List.nodup_cons, List.not_mem_nil, not_false_eq_true, and_true, true_and, and_self, decide_true, decide_false, Nat.reduceAdd, Nat.reduceLeDiff, Nat.reduceBEq, Nat.reduceEqDiff, Nat.reduceLT, Int.reducePow, Int.reduceNeg, Int.reduceLT, Int.reduceLE, List.append_nil, List.nil_append, List.cons_append, List.isEmpty_cons, List.isEmpty_nil, decide_eq_true_eq]
  rw [key]
  simp only [fTup_l, bind_ok, bind_exc, toS_ok, toS_exc, seq_nx, seq_rt, seq_bk, seq_ct, seq_exc, loop_nx, loop_ct, loop_bk, loop_rt, loop_exc, nox_ok, sVar_at, varR_frz, varR_own, sLit_at, get_0, get_s, set_0, set_s, der_v, der_ali, slotO_s, frz1_v, frz1_ali, frzO_own, frzO_frz, frzs_nil, frzC_some, frzs_v, frzD_some, frzs_ali, sArgs_nil, sArgs_cons, fin_some, op1K_some, op2K_some, sOp1_at, sOp2_at, opNK_some, sOpIsi_at, sOpSl0_at, sOpSl1_at, sOpSl2_at, sOpSl3_at, ders_nil, dersC_some, ders_cons, truF_some, truK_some, sTruth_at, sTNot_at, sTAnd_at, sTOr_at, sIte_at, sAnd_at, sOr_at, andK_bl, orK_bl, sNot_at, notK_bl, truth_bl, truth_int, truth_lst, truth_tup, truth_non, sChain_at, chK_int, sNil_at, sSeq_at, sIf_at, sRet_at, sDrop_at, setF_some, setK_own, setK_frz, setK_ali, sSet_at, sAug_at, augK_int, tupK_0, lstK_0, tupK_1, lstK_1, tupK_2, lstK_2, tupK_3, lstK_3, tupK_4, lstK_4, tupK_5, lstK_5, tupK_6, lstK_6, tupK_7, lstK_7, tupK_8, lstK_8, tupK_9, lstK_9, tupK_10, lstK_10, tupK_11, lstK_11, tupK_12, lstK_12, tupK_13, lstK_13, tupK_14, lstK_14, tupK_15, lstK_15, tupK_16, lstK_16, sTup_at, sLst_at, sNewD_at, pinL_at, normA_nil, normA_cons, normC_frz, normC_own, normC_ali, argV_frz, argV_ownP, argV_ali, argO_own, argO_frz, argC_some, argsV_nil, argsV_cons, outsOf_nil, outsOf_v, outsOf_ali, outsK_own, putOuts_nil, putOuts_cons, optJ_some, callR_ok, callR_exc, callA_some, callN_some, sCall_at, endRun_nx, endRun_v, endRun_exc, endRun_ali, endO_frz, endO_own, outE_0, outE_1, outE_2, outE_3, outE_4, outE_5, outE_6, outV_at, seqK_some, sqK_some, seqB_lst, seqB_tup, seqB_ktp, seqB_scr, wSq_at, wRg1_at, rg2K_int, wRg2_at, zip2_some, zipK_some, wZip_at, bd_nm, bd_tup, bd_ktp, bNames_nil, bNames_cons, lpB_some, sFor_at, lcF_some, lcB_some, lcE_ok, lcH_some, sLc_at, sYes_at, hideS_nil, hideS_cons, hideK_none, hideK_frz, hideK_own, wipeE_nil, wipeE_cons, restE_nil, restE_cons, putSlot_at, mutP_some, mutF_own, mutQ_some, mutK_own, sMut_at, isLst_lst, extE_own, extD_lst, extK_own, sExt_at, sDisp_at, flat2_nil, flat2_cons, putQ_some, putE_own, putD_some, putF_some, putK_some, sPut_at, sPar_at, parB_some, parK_some, normB_nil, normB_cons, normBC_v, bindVs_nil, bindVs_frz, bindVs_own, setTK_some, sSetT_at, raiseK_some, sRaise_at, if_true, if_false, Bool.true_and, Bool.and_true, Bool.false_and, Bool.and_false, Bool.not_true, Bool.not_false, Bool.false_eq_true, reduceIte, List.length_cons, List.length_nil, List.map_cons, List.map_nil, List.contains_cons, List.contains_nil, List.any_nil, List.any_cons, beq_self_eq_true, Bool.true_or, Bool.or_true, Bool.false_or, Bool.or_false, isAli, List.nodup_nil, List.nodup_cons, List.not_mem_nil, not_false_eq_true, and_true, true_and, and_self, decide_true, decide_false, Nat.reduceAdd, Nat.reduceLeDiff, Nat.reduceBEq, Nat.reduceEqDiff, Nat.reduceLT, Int.reducePow, Int.reduceNeg, Int.reduceLT, Int.reduceLE, List.append_nil, List.nil_append, List.cons_append, List.isEmpty_cons, List.isEmpty_nil, decide_eq_true_eq]
theorem L12 (t m) : cl t (m + 8) 12 [] = .ok false (.tup ((rows.filter fun r => !isOdd r).map tI)) [] := by
  have it : ∀ r ∈ rows, lcB (sTNot (sTruth (sCall (pinL [0]) (cl t (m + 7) 10) [sVar 0]))) (sVar 0) [0] ((Tgt.nm 0).bd (tI r) [none]) = .ok (if !isOdd r then some (tI r) else none) [none] := fun r hr => by
    simp only [L10 t (m + 1) r (rows_row r hr), bind_ok, bind_exc, toS_ok, toS_exc, seq_nx, seq_rt, seq_bk, seq_ct, seq_exc, loop_nx, loop_ct, loop_bk, loop_rt, loop_exc, nox_ok, sVar_at, varR_frz, varR_own, sLit_at, get_0, get_s, set_0, set_s, der_v, der_ali, slotO_s, frz1_v, frz1_ali, frzO_own, frzO_frz, frzs_nil, frzC_some, frzs_v, frzD_some, frzs_ali, sArgs_nil, sArgs_cons, fin_some, op1K_some, op2K_some, sOp1_at, sOp2_at, opNK_some, sOpIsi_at, sOpSl0_at, sOpSl1_at, sOpSl2_at, sOpSl3_at, ders_nil, dersC_some, ders_cons, truF_some, truK_some, sTruth_at, sTNot_at, sTAnd_at, sTOr_at, sIte_at, sAnd_at, sOr_at, andK_bl, orK_bl, sNot_at, notK_bl, truth_bl, truth_int, truth_lst, truth_tup, truth_non, sChain_at, chK_int, sNil_at, sSeq_at, sIf_at, sRet_at, sDrop_at, setF_some, setK_own, setK_frz, setK_ali, sSet_at, sAug_at, augK_int, tupK_0, lstK_0, tupK_1, lstK_1, tupK_2, lstK_2, tupK_3, lstK_3, tupK_4, lstK_4, tupK_5, lstK_5, tupK_6, lstK_6, tupK_7, lstK_7, tupK_8, lstK_8, tupK_9, lstK_9, tupK_10, lstK_10, tupK_11, lstK_11, tupK_12, lstK_12, tupK_13, lstK_13, tupK_14, lstK_14, tupK_15, lstK_15, tupK_16, lstK_16, sTup_at, sLst_at, sNewD_at, pinL_at, normA_nil, normA_cons, normC_frz, normC_own, normC_ali, argV_frz, argV_ownP, argV_ali, argO_own, argO_frz, argC_some, argsV_nil, argsV_cons, outsOf_nil, outsOf_v, outsOf_ali, outsK_own, putOuts_nil, putOuts_cons, optJ_some, callR_ok, callR_exc, callA_some, callN_some, sCall_at, endRun_nx, endRun_v, endRun_exc, endRun_ali, endO_frz, endO_own, outE_0, outE_1, outE_2, outE_3, outE_4, outE_5, outE_6, outV_at, seqK_some, sqK_some, seqB_lst, seqB_tup, seqB_ktp, seqB_scr, wSq_at, wRg1_at, rg2K_int, wRg2_at, zip2_some, zipK_some, wZip_at, bd_nm, bd_tup, bd_ktp, bNames_nil, bNames_cons, lpB_some, sFor_at, lcF_some, lcB_some, lcE_ok, lcH_some, sLc_at, sYes_at, hideS_nil, hideS_cons, hideK_none, hideK_frz, hideK_own, wipeE_nil, wipeE_cons, restE_nil, restE_cons, putSlot_at, mutP_some, mutF_own, mutQ_some, mutK_own, sMut_at, isLst_lst, extE_own, extD_lst, extK_own, sExt_at, sDisp_at, flat2_nil, flat2_cons, putQ_some, putE_own, putD_some, putF_some, putK_some, sPut_at, sPar_at, parB_some, parK_some, normB_nil, normB_cons, normBC_v, bindVs_nil, bindVs_frz, bindVs_own, setTK_some, sSetT_at, raiseK_some, sRaise_at, if_true, if_false, Bool.true_and, Bool.and_true, Bool.false_and, Bool.and_false, Bool.not_true, Bool.not_false, Bool.false_eq_true, reduceIte, List.length_cons, List.length_nil, List.map_cons, List.map_nil, List.contains_cons, List.contains_nil, List.any_nil, List.any_cons, beq_self_eq_true, Bool.true_or, Bool.or_true, Bool.false_or, Bool.or_false, isAli, List.nodup_nil, List.nodup_cons, List.not_mem_nil, not_false_eq_true, and_true, true_and, and_self, decide_true, decide_false, Nat.reduceAdd, Nat.reduceLeDiff, Nat.reduceBEq, Nat.reduceEqDiff, Nat.reduceLT, Int.reducePow, Int.reduceNeg, Int.reduceLT, Int.reduceLE, List.append_nil, List.nil_append, List.cons_append, List.isEmpty_cons, List.isEmpty_nil, decide_eq_true_eq]
    cases isOdd r <;> simp only [bind_ok, bind_exc, toS_ok, toS_exc, seq_nx, seq_rt, seq_bk, seq_ct, seq_exc, loop_nx, loop_ct, loop_bk, loop_rt, loop_exc, nox_ok, sVar_at, varR_frz, varR_own, sLit_at, get_0, get_s, set_0, set_s, der_v, der_ali, slotO_s, frz1_v, frz1_ali, frzO_own, frzO_frz, frzs_nil, frzC_some, frzs_v, frzD_some, frzs_ali, sArgs_nil, sArgs_cons, fin_some, op1K_some, op2K_some, sOp1_at, sOp2_at, opNK_some, sOpIsi_at, sOpSl0_at, sOpSl1_at, sOpSl2_at, sOpSl3_at, ders_nil, dersC_some, ders_cons, truF_some, truK_some, sTruth_at, sTNot_at, sTAnd_at, sTOr_at, sIte_at, sAnd_at, sOr_at, andK_bl, orK_bl, sNot_at, notK_bl, truth_bl, truth_int, truth_lst, truth_tup, truth_non, sChain_at, chK_int, sNil_at, sSeq_at, sIf_at, sRet_at, sDrop_at, setF_some, setK_own, setK_frz, setK_ali, sSet_at, sAug_at, augK_int, tupK_0, lstK_0, tupK_1, lstK_1, tupK_2, lstK_2, tupK_3, lstK_3, tupK_4, lstK_4, tupK_5, lstK_5, tupK_6, lstK_6, tupK_7, lstK_7, tupK_8, lstK_8, tupK_9, lstK_9, tupK_10, lstK_10, tupK_11, lstK_11, tupK_12, lstK_12, tupK_13, lstK_13, tupK_14, lstK_14, tupK_15, lstK_15, tupK_16, lstK_16, sTup_at, sLst_at, sNewD_at, pinL_at, normA_nil, normA_cons, normC_frz, normC_own, normC_ali, argV_frz, argV_ownP, argV_ali, argO_own, argO_frz, argC_some, argsV_nil, argsV_cons, outsOf_nil, outsOf_v, outsOf_ali, outsK_own, putOuts_nil, putOuts_cons, optJ_some, callR_ok, callR_exc, callA_some, callN_some, sCall_at, endRun_nx, endRun_v, endRun_exc, endRun_ali, endO_frz, endO_own, outE_0, outE_1, outE_2, outE_3, outE_4, outE_5, outE_6, outV_at, seqK_some, sqK_some, seqB_lst, seqB_tup, seqB_ktp, seqB_scr, wSq_at, wRg1_at, rg2K_int, wRg2_at, zip2_some, zipK_some, wZip_at, bd_nm, bd_tup, bd_ktp, bNames_nil, bNames_cons, lpB_some, sFor_at, lcF_some, lcB_some, lcE_ok, lcH_some, sLc_at, sYes_at, hideS_nil, hideS_cons, hideK_none, hideK_frz, hideK_own, wipeE_nil, wipeE_cons, restE_nil, restE_cons, putSlot_at, mutP_some, mutF_own, mutQ_some, mutK_own, sMut_at, isLst_lst, extE_own, extD_lst, extK_own, sExt_at, sDisp_at, flat2_nil, flat2_cons, putQ_some, putE_own, putD_some, putF_some, putK_some, sPut_at, sPar_at, parB_some, parK_some, normB_nil, normB_cons, normBC_v, bindVs_nil, bindVs_frz, bindVs_own, setTK_some, sSetT_at, raiseK_some, sRaise_at, if_true, if_false, Bool.true_and, Bool.and_true, Bool.false_and, Bool.and_false, Bool.not_true, Bool.not_false, Bool.false_eq_true, reduceIte, List.length_cons, List.length_nil, List.map_cons, List.map_nil, List.contains_cons, List.contains_nil, List.any_nil, List.any_cons, beq_self_eq_true, Bool.true_or, Bool.or_true, Bool.false_or, Bool.or_false, isAli, List.nodup_nil, List.nodup_cons, List.not_mem_nil, not_false_eq_true, and_true, true_and, and_self, decide_true, decide_false, Nat.reduceAdd, Nat.reduceLeDiff, Nat.reduceBEq, Nat.reduceEqDiff, Nat.reduceLT, Int.reducePow, Int.reduceNeg, Int.reduceLT, Int.reduceLE, List.append_nil, List.nil_append, List.cons_append, List.isEmpty_cons, List.isEmpty_nil, decide_eq_true_eq]
  have key := lcS_filter (bd := (Tgt.nm 0).bd) (vs := [0]) rows tI (fun r => !isOdd r) it (by decide)
  rw [q12, g12]
  simp only [L9 t (m + 4), bind_ok, bind_exc, toS_ok, toS_exc, seq_nx, seq_rt, seq_bk, seq_ct, seq_exc, loop_nx, loop_ct, loop_bk, loop_rt, loop_exc, nox_ok, sVar_at, varR_frz, varR_own, sLit_at, get_0, get_s, set_0, set_s, der_v, der_ali, slotO_s, frz1_v, frz1_ali, frzO_own, frzO_frz, frzs_nil, frzC_some, frzs_v, frzD_some, frzs_ali, sArgs_nil, sArgs_cons, fin_some, op1K_some, op2K_some, sOp1_at, sOp2_at, opNK_some, sOpIsi_at, sOpSl0_at, sOpSl1_at, sOpSl2_at, sOpSl3_at, ders_nil, dersC_some, ders_cons, truF_some, truK_some, sTruth_at, sTNot_at, sTAnd_at, sTOr_at, sIte_at, sAnd_at, sOr_at, andK_bl, orK_bl, sNot_at, notK_bl, truth_bl, truth_int, truth_lst, truth_tup, truth_non, sChain_at, chK_int, sNil_at, sSeq_at, sIf_at, sRet_at, sDrop_at, setF_some, setK_own, setK_frz, setK_ali, sSet_at, sAug_at, augK_int, tupK_0, lstK_0, tupK_1, lstK_1, tupK_2, lstK_2, tupK_3, lstK_3, tupK_4, lstK_4, tupK_5, lstK_5, tupK_6, lstK_6, tupK_7, lstK_7, tupK_8, lstK_8, tupK_9, lstK_9, tupK_10, lstK_10, tupK_11, lstK_11, tupK_12, lstK_12, tupK_13, lstK_13, tupK_14, lstK_14, tupK_15, lstK_15, tupK_16, lstK_16, sTup_at, sLst_at, sNewD_at, pinL_at, normA_nil, normA_cons, normC_frz, normC_own, normC_ali, argV_frz, argV_ownP, argV_ali, argO_own, argO_frz, argC_some, argsV_nil, argsV_cons, outsOf_nil, outsOf_v, outsOf_ali, outsK_own, putOuts_nil, putOuts_cons, optJ_some, callR_ok, callR_exc, callA_some, callN_some, sCall_at, endRun_nx, endRun_v, endRun_exc, endRun_ali, endO_frz, endO_own, outE_0, outE_1, outE_2, outE_3, outE_4, outE_5, outE_6, outV_at, seqK_some, sqK_some, seqB_lst, seqB_tup, seqB_ktp, seqB_scr, wSq_at, wRg1_at, rg2K_int, wRg2_at, zip2_some, zipK_some, wZip_at, bd_nm, bd_tup, bd_ktp, bNames_nil, bNames_cons, lpB_some, sFor_at, lcF_some, lcB_some, lcE_ok, lcH_some, sLc_at, sYes_at, hideS_nil, hideS_cons, hideK_none, hideK_frz, hideK_own, wipeE_nil, wipeE_cons, restE_nil, restE_cons, putSlot_at, mutP_some, mutF_own, mutQ_some, mutK_own, sMut_at, isLst_lst, extE_own, extD_lst, extK_own, sExt_at, sDisp_at, flat2_nil, flat2_cons, putQ_some, putE_own, putD_some, putF_some, putK_some, sPut_at, sPar_at, parB_some, parK_some, normB_nil, normB_cons, normBC_v, bindVs_nil, bindVs_frz, bindVs_own, setTK_some, sSetT_at, raiseK_some, sRaise_at, if_true, if_false, Bool.true_and, Bool.and_true, Bool.false_and, Bool.and_false, Bool.not_true, Bool.not_false, Bool.false_eq_true, reduceIte, List.length_cons, List.length_nil, List.map_cons, List.map_nil, List.contains_cons, List.contains_nil, List.any_nil, List.any_cons, beq_self_eq_true, Bool.true_or, Bool.or_true, Bool.false_or, Bool.or_false, isAli, List.nodup_nil, List.nodup_cons, List.not_mem_nil, not_false_eq_true, and_true, true_and, and_self, decide_true, decide_false, Nat.reduceAdd, Nat.reduceLeDiff, Nat.reduceBEq, Nat.reduceEqDiff, Nat.reduceLT, Int.reducePow, Int.reduceNeg, Int.reduceLT, Int.reduceLE, List.append_nil, List.nil_append, List.cons_append, List.isEmpty_cons, List.isEmpty_nil, decide_eq_true_eq]
  rw [key]
  simp only [fTup_l, bind_ok, bind_exc, toS_ok, toS_exc, seq_nx, seq_rt, seq_bk, seq_ct, seq_exc, loop_nx, loop_ct, loop_bk, loop_rt, loop_exc, nox_ok, sVar_at, varR_frz, varR_own, sLit_at, get_0, get_s, set_0, set_s, der_v, der_ali, slotO_s, frz1_v, frz1_ali, frzO_own, frzO_frz, frzs_nil, frzC_some, frzs_v, frzD_some, frzs_ali, sArgs_nil, sArgs_cons, fin_some, op1K_some, op2K_some, sOp1_at, sOp2_at, opNK_some, sOpIsi_at, sOpSl0_at, sOpSl1_at, sOpSl2_at, sOpSl3_at, ders_nil, dersC_some, ders_cons, truF_some, truK_some, sTruth_at, sTNot_at, sTAnd_at, sTOr_at, sIte_at, sAnd_at, sOr_at, andK_bl, orK_bl, sNot_at, notK_bl, truth_bl, truth_int, truth_lst, truth_tup, truth_non, sChain_at, chK_int, sNil_at, sSeq_at, sIf_at, sRet_at, sDrop_at, setF_some, setK_own, setK_frz, setK_ali, sSet_at, sAug_at, augK_int, tupK_0, lstK_0, tupK_1, lstK_1, tupK_2, lstK_2, tupK_3, lstK_3, tupK_4, lstK_4, tupK_5, lstK_5, tupK_6, lstK_6, tupK_7, lstK_7, tupK_8, lstK_8, tupK_9, lstK_9, tupK_10, lstK_10, tupK_11, lstK_11, tupK_12, lstK_12, tupK_13, lstK_13, tupK_14, lstK_14, tupK_15, lstK_15, tupK_16, lstK_16, sTup_at, sLst_at, sNewD_at, pinL_at, normA_nil, normA_cons, normC_frz, normC_own, normC_ali, argV_frz, argV_ownP, argV_ali, argO_own, argO_frz, argC_some, argsV_nil, argsV_cons, outsOf_nil, outsOf_v, outsOf_ali, outsK_own, putOuts_nil, putOuts_cons, optJ_some, callR_ok, callR_exc, callA_some, callN_some, sCall_at, endRun_nx, endRun_v, endRun_exc, endRun_ali, endO_frz, endO_own, outE_0, outE_1, outE_2, outE_3, outE_4, outE_5, outE_6, outV_at, seqK_some, sqK_some, seqB_lst, seqB_tup, seqB_ktp, seqB_scr, wSq_at, wRg1_at, rg2K_int, wRg2_at, zip2_some, zipK_some, wZip_at, bd_nm, bd_tup, bd_ktp, bNames_nil, bNames_cons, lpB_some, sFor_at, lcF_some, lcB_some, lcE_ok, lcH_some, sLc_at, sYes_at, hideS_nil, hideS_cons, hideK_none, hideK_frz, hideK_own, wipeE_nil, wipeE_cons, restE_nil, restE_cons, putSlot_at, mutP_some, mutF_own, mutQ_some, mutK_own, sMut_at, isLst_lst, extE_own, extD_lst, extK_own, sExt_at, sDisp_at, flat2_nil, flat2_cons, putQ_some, putE_own, putD_some, putF_some, putK_some, sPut_at, sPar_at, parB_some, parK_some, normB_nil, normB_cons, normBC_v, bindVs_nil, bindVs_frz, bindVs_own, setTK_some, sSetT_at, raiseK_some, sRaise_at, if_true, if_false, Bool.true_and, Bool.and_true, Bool.false_and, Bool.and_false, Bool.not_true, Bool.not_false, Bool.false_eq_true, reduceIte, List.length_cons, List.length_nil, List.map_cons, List.map_nil, List.contains_cons, List.contains_nil, List.any_nil, List.any_cons, beq_self_eq_true, Bool.true_or, Bool.or_true, Bool.false_or, Bool.or_false, isAli, List.nodup_nil, List.nodup_cons, List.not_mem_nil, not_false_eq_true, and_true, true_and, and_self, decide_true, decide_false, Nat.reduceAdd, Nat.reduceLeDiff, Nat.reduceBEq, Nat.reduceEqDiff, Nat.reduceLT, Int.reducePow, Int.reduceNeg, Int.reduceLT, Int.reduceLE, List.append_nil, List.nil_append, List.cons_append, List.isEmpty_cons, List.isEmpty_nil, decide_eq_true_eq]
end Hd

namespace Hd
open PySem PySem.Spec PyProof.Rows Ev
/-! told as due -/
inductive Pl : Nat → D → Prop where
  | int {n} (i : Int) : Pl n (.int i)
  | tup {n xs} (h : ∀ x ∈ xs, Pl n x) (hl : xs.length < 1000000) : Pl (n + 1) (.tup xs)
theorem L16i (t m i) : cl t (m + 3) 16 [fz (.int i), fz (.int i)] = .ok false (.bl true) [some (fz (.int i)), some (fz (.int i))] := by
  rw [q16, g16]
  have e1 : isNon (.int i) = false := rfl
  have e2 : ∀ b, isBlD (.int i) b = false := fun b => rfl
  have e3 : decide (i = i) = true := by simp
  simp only [isi_i, sub_it, sub_is, sub_ii, sub_ib, is_non, is_bl, e1, e2, e3, eq_ii, bind_ok, bind_exc, toS_ok, toS_exc, seq_nx, seq_rt, seq_bk, seq_ct, seq_exc, loop_nx, loop_ct, loop_bk, loop_rt, loop_exc, nox_ok, sVar_at, varR_frz, varR_own, sLit_at, get_0, get_s, set_0, set_s, der_v, der_ali, slotO_s, frz1_v, frz1_ali, frzO_own, frzO_frz, frzs_nil, frzC_some, frzs_v, frzD_some, frzs_ali, sArgs_nil, sArgs_cons, fin_some, op1K_some, op2K_some, sOp1_at, sOp2_at, opNK_some, sOpIsi_at, sOpSl0_at, sOpSl1_at, sOpSl2_at, sOpSl3_at, ders_nil, dersC_some, ders_cons, truF_some, truK_some, sTruth_at, sTNot_at, sTAnd_at, sTOr_at, sIte_at, sAnd_at, sOr_at, andK_bl, orK_bl, sNot_at, notK_bl, truth_bl, truth_int, truth_lst, truth_tup, truth_non, sChain_at, chK_int, sNil_at, sSeq_at, sIf_at, sRet_at, sDrop_at, setF_some, setK_own, setK_frz, setK_ali, sSet_at, sAug_at, augK_int, tupK_0, lstK_0, tupK_1, lstK_1, tupK_2, lstK_2, tupK_3, lstK_3, tupK_4, lstK_4, tupK_5, lstK_5, tupK_6, lstK_6, tupK_7, lstK_7, tupK_8, lstK_8, tupK_9, lstK_9, tupK_10, lstK_10, tupK_11, lstK_11, tupK_12, lstK_12, tupK_13, lstK_13, tupK_14, lstK_14, tupK_15, lstK_15, tupK_16, lstK_16, sTup_at, sLst_at, sNewD_at, pinL_at, normA_nil, normA_cons, normC_frz, normC_own, normC_ali, argV_frz, argV_ownP, argV_ali, argO_own, argO_frz, argC_some, argsV_nil, argsV_cons, outsOf_nil, outsOf_v, outsOf_ali, outsK_own, putOuts_nil, putOuts_cons, optJ_some, callR_ok, callR_exc, callA_some, callN_some, sCall_at, endRun_nx, endRun_v, endRun_exc, endRun_ali, endO_frz, endO_own, outE_0, outE_1, outE_2, outE_3, outE_4, outE_5, outE_6, outV_at, seqK_some, sqK_some, seqB_lst, seqB_tup, seqB_ktp, seqB_scr, wSq_at, wRg1_at, rg2K_int, wRg2_at, zip2_some, zipK_some, wZip_at, bd_nm, bd_tup, bd_ktp, bNames_nil, bNames_cons, lpB_some, sFor_at, lcF_some, lcB_some, lcE_ok, lcH_some, sLc_at, sYes_at, hideS_nil, hideS_cons, hideK_none, hideK_frz, hideK_own, wipeE_nil, wipeE_cons, restE_nil, restE_cons, putSlot_at, mutP_some, mutF_own, mutQ_some, mutK_own, sMut_at, isLst_lst, extE_own, extD_lst, extK_own, sExt_at, sDisp_at, flat2_nil, flat2_cons, putQ_some, putE_own, putD_some, putF_some, putK_some, sPut_at, sPar_at, parB_some, parK_some, normB_nil, normB_cons, normBC_v, bindVs_nil, bindVs_frz, bindVs_own, setTK_some, sSetT_at, raiseK_some, sRaise_at, if_true, if_false, Bool.true_and, Bool.and_true, Bool.false_and, Bool.and_false, Bool.not_true, Bool.not_false, Bool.false_eq_true, reduceIte, List.length_cons, List.length_nil, List.map_cons, List.map_nil, List.contains_cons, List.contains_nil, List.any_nil, List.any_cons, beq_self_eq_true, Bool.true_or, Bool.or_true, Bool.false_or, Bool.or_false, isAli, List.nodup_nil, List.nodup_cons, List.not_mem_nil, not_false_eq_true, and_true, true_and, and_self, decide_true, decide_false, Nat.reduceAdd, Nat.reduceLeDiff, Nat.reduceBEq, Nat.reduceEqDiff, Nat.reduceLT, Int.reducePow, Int.reduceNeg, Int.reduceLT, Int.reduceLE, List.append_nil, List.nil_append, List.cons_append, List.isEmpty_cons, List.isEmpty_nil, decide_eq_true_eq]
theorem ix_t {xs : List D} {i : Nat} {x : D} (h : xs[i]? = some x) : dIx (.tup xs) (.int (i : Int)) = some (false, x) := by
  show (match L2.atI xs (i : Int) with | some d => some (false, d) | none => none) = _
  have : L2.atI xs (i : Int) = some x := by
    unfold L2.atI L2.ixN
    obtain ⟨hl, hv⟩ := List.getElem?_eq_some_iff.mp h
    simp [hl, hv]
  rw [this]
theorem ne_self {i : Int} : dNe (.int i) (.int i) = some (false, .bl false) := by
  rw [ne_ii, decide_eq_true rfl]
  rfl
theorem eq_nil : dEq (.lst []) (.lst []) = some (false, .bl true) := (dEq_of (eqv_of (p := .list []) (q := .list []) rfl rfl rfl rfl)).trans rfl
theorem L16 (t) : ∀ (n m : Nat) (d : D), Pl n d → cl t (m + n + 3) 16 [fz d, fz d] = .ok false (.bl true) [some (fz d), some (fz d)] := by
  intro n
  induction n with
  | zero =>
    intro m d h
    cases h with
    | int i => exact L16i t m i
  | succ n ih =>
    intro m d h
    cases h with
    | int i => exact L16i t (m + (n + 1)) i
    | tup hx hl =>
      rename_i xs
      rw [q16, g16]
      have e1 : (xs.length : Int).toNat = xs.length := by simp
      have it : ∀ i ∈ List.range xs.length, lcB (sTNot (sTruth (sCall (pinL [0, 1]) (cl t (m + (n + 1) + 2) 16) [sOp (op2 dIx) [sVar 0, sVar 2], sOp (op2 dIx) [sVar 1, sVar 2]]))) (sVar 2) [2] ((Tgt.nm 2).bd (.int (0 + (i : Int) * 1)) [some (fz (.tup xs)), some (fz (.tup xs)), none]) = .ok none [some (fz (.tup xs)), some (fz (.tup xs)), none] := fun i hi => by
        have hi := List.mem_range.mp hi
        have hx1 := List.getElem?_eq_getElem hi
        have e2 : (0 : Int) + (i : Int) * 1 = (i : Int) := by omega
        have := ih m _ (hx _ (List.getElem_mem hi))
        have e3 : m + (n + 1) + 2 = m + n + 3 := by omega
        rw [e2, e3]
        simp only [ix_t hx1, this, bind_ok, bind_exc, toS_ok, toS_exc, seq_nx, seq_rt, seq_bk, seq_ct, seq_exc, loop_nx, loop_ct, loop_bk, loop_rt, loop_exc, nox_ok, sVar_at, varR_frz, varR_own, sLit_at, get_0, get_s, set_0, set_s, der_v, der_ali, slotO_s, frz1_v, frz1_ali, frzO_own, frzO_frz, frzs_nil, frzC_some, frzs_v, frzD_some, frzs_ali, sArgs_nil, sArgs_cons, fin_some, op1K_some, op2K_some, sOp1_at, sOp2_at, opNK_some, sOpIsi_at, sOpSl0_at, sOpSl1_at, sOpSl2_at, sOpSl3_at, ders_nil, dersC_some, ders_cons, truF_some, truK_some, sTruth_at, sTNot_at, sTAnd_at, sTOr_at, sIte_at, sAnd_at, sOr_at, andK_bl, orK_bl, sNot_at, notK_bl, truth_bl, truth_int, truth_lst, truth_tup, truth_non, sChain_at, chK_int, sNil_at, sSeq_at, sIf_at, sRet_at, sDrop_at, setF_some, setK_own, setK_frz, setK_ali, sSet_at, sAug_at, augK_int, tupK_0, lstK_0, tupK_1, lstK_1, tupK_2, lstK_2, tupK_3, lstK_3, tupK_4, lstK_4, tupK_5, lstK_5, tupK_6, lstK_6, tupK_7, lstK_7, tupK_8, lstK_8, tupK_9, lstK_9, tupK_10, lstK_10, tupK_11, lstK_11, tupK_12, lstK_12, tupK_13, lstK_13, tupK_14, lstK_14, tupK_15, lstK_15, tupK_16, lstK_16, sTup_at, sLst_at, sNewD_at, pinL_at, normA_nil, normA_cons, normC_frz, normC_own, normC_ali, argV_frz, argV_ownP, argV_ali, argO_own, argO_frz, argC_some, argsV_nil, argsV_cons, outsOf_nil, outsOf_v, outsOf_ali, outsK_own, putOuts_nil, putOuts_cons, optJ_some, callR_ok, callR_exc, callA_some, callN_some, sCall_at, endRun_nx, endRun_v, endRun_exc, endRun_ali, endO_frz, endO_own, outE_0, outE_1, outE_2, outE_3, outE_4, outE_5, outE_6, outV_at, seqK_some, sqK_some, seqB_lst, seqB_tup, seqB_ktp, seqB_scr, wSq_at, wRg1_at, rg2K_int, wRg2_at, zip2_some, zipK_some, wZip_at, bd_nm, bd_tup, bd_ktp, bNames_nil, bNames_cons, lpB_some, sFor_at, lcF_some, lcB_some, lcE_ok, lcH_some, sLc_at, sYes_at, hideS_nil, hideS_cons, hideK_none, hideK_frz, hideK_own, wipeE_nil, wipeE_cons, restE_nil, restE_cons, putSlot_at, mutP_some, mutF_own, mutQ_some, mutK_own, sMut_at, isLst_lst, extE_own, extD_lst, extK_own, sExt_at, sDisp_at, flat2_nil, flat2_cons, putQ_some, putE_own, putD_some, putF_some, putK_some, sPut_at, sPar_at, parB_some, parK_some, normB_nil, normB_cons, normBC_v, bindVs_nil, bindVs_frz, bindVs_own, setTK_some, sSetT_at, raiseK_some, sRaise_at, if_true, if_false, Bool.true_and, Bool.and_true, Bool.false_and, Bool.and_false, Bool.not_true, Bool.not_false, Bool.false_eq_true, reduceIte, List.length_cons, List.length_nil, List.map_cons, List.map_nil, List.contains_cons, List.contains_nil, List.any_nil, List.any_cons, beq_self_eq_true, Bool.true_or, Bool.or_true, Bool.false_or, Bool.or_false, isAli, List.nodup_nil, List.nodup_cons, List.not_mem_nil, not_false_eq_true, and_true, true_and, and_self, decide_true, decide_false, Nat.reduceAdd, Nat.reduceLeDiff, Nat.reduceBEq, Nat.reduceEqDiff, Nat.reduceLT, Int.reducePow, Int.reduceNeg, Int.reduceLT, Int.reduceLE, List.append_nil, List.nil_append, List.cons_append, List.isEmpty_cons, List.isEmpty_nil, decide_eq_true_eq]
      have key := lcS_each (bd := (Tgt.nm 2).bd) (vs := [2]) (List.range xs.length) (fun (i : Nat) => D.int (0 + (i : Int) * 1)) (fun _ => none) it (by rw [List.length_range]; exact size_big hl)
      have e4 : (List.range xs.length).filterMap (fun _ => (none : Option D)) = [] := by simp
      have bd : -4611686018427387904 ≤ (xs.length : Int) ∧ (xs.length : Int) < 4611686018427387904 := by constructor <;> omega
      simp only [isi_t, sub_tt, fLen_t, ne_self, rg1K_nat hl, bind_ok, bind_exc, toS_ok, toS_exc, seq_nx, seq_rt, seq_bk, seq_ct, seq_exc, loop_nx, loop_ct, loop_bk, loop_rt, loop_exc, nox_ok, sVar_at, varR_frz, varR_own, sLit_at, get_0, get_s, set_0, set_s, der_v, der_ali, slotO_s, frz1_v, frz1_ali, frzO_own, frzO_frz, frzs_nil, frzC_some, frzs_v, frzD_some, frzs_ali, sArgs_nil, sArgs_cons, fin_some, op1K_some, op2K_some, sOp1_at, sOp2_at, opNK_some, sOpIsi_at, sOpSl0_at, sOpSl1_at, sOpSl2_at, sOpSl3_at, ders_nil, dersC_some, ders_cons, truF_some, truK_some, sTruth_at, sTNot_at, sTAnd_at, sTOr_at, sIte_at, sAnd_at, sOr_at, andK_bl, orK_bl, sNot_at, notK_bl, truth_bl, truth_int, truth_lst, truth_tup, truth_non, sChain_at, chK_int, sNil_at, sSeq_at, sIf_at, sRet_at, sDrop_at, setF_some, setK_own, setK_frz, setK_ali, sSet_at, sAug_at, augK_int, tupK_0, lstK_0, tupK_1, lstK_1, tupK_2, lstK_2, tupK_3, lstK_3, tupK_4, lstK_4, tupK_5, lstK_5, tupK_6, lstK_6, tupK_7, lstK_7, tupK_8, lstK_8, tupK_9, lstK_9, tupK_10, lstK_10, tupK_11, lstK_11, tupK_12, lstK_12, tupK_13, lstK_13, tupK_14, lstK_14, tupK_15, lstK_15, tupK_16, lstK_16, sTup_at, sLst_at, sNewD_at, pinL_at, normA_nil, normA_cons, normC_frz, normC_own, normC_ali, argV_frz, argV_ownP, argV_ali, argO_own, argO_frz, argC_some, argsV_nil, argsV_cons, outsOf_nil, outsOf_v, outsOf_ali, outsK_own, putOuts_nil, putOuts_cons, optJ_some, callR_ok, callR_exc, callA_some, callN_some, sCall_at, endRun_nx, endRun_v, endRun_exc, endRun_ali, endO_frz, endO_own, outE_0, outE_1, outE_2, outE_3, outE_4, outE_5, outE_6, outV_at, seqK_some, sqK_some, seqB_lst, seqB_tup, seqB_ktp, seqB_scr, wSq_at, wRg1_at, rg2K_int, wRg2_at, zip2_some, zipK_some, wZip_at, bd_nm, bd_tup, bd_ktp, bNames_nil, bNames_cons, lpB_some, sFor_at, lcF_some, lcB_some, lcE_ok, lcH_some, sLc_at, sYes_at, hideS_nil, hideS_cons, hideK_none, hideK_frz, hideK_own, wipeE_nil, wipeE_cons, restE_nil, restE_cons, putSlot_at, mutP_some, mutF_own, mutQ_some, mutK_own, sMut_at, isLst_lst, extE_own, extD_lst, extK_own, sExt_at, sDisp_at, flat2_nil, flat2_cons, putQ_some, putE_own, putD_some, putF_some, putK_some, sPut_at, sPar_at, parB_some, parK_some, normB_nil, normB_cons, normBC_v, bindVs_nil, bindVs_frz, bindVs_own, setTK_some, sSetT_at, raiseK_some, sRaise_at, if_true, if_false, Bool.true_and, Bool.and_true, Bool.false_and, Bool.and_false, Bool.not_true, Bool.not_false, Bool.false_eq_true, reduceIte, List.length_cons, List.length_nil, List.map_cons, List.map_nil, List.contains_cons, List.contains_nil, List.any_nil, List.any_cons, beq_self_eq_true, Bool.true_or, Bool.or_true, Bool.false_or, Bool.or_false, isAli, List.nodup_nil, List.nodup_cons, List.not_mem_nil, not_false_eq_true, and_true, true_and, and_self, decide_true, decide_false, Nat.reduceAdd, Nat.reduceLeDiff, Nat.reduceBEq, Nat.reduceEqDiff, Nat.reduceLT, Int.reducePow, Int.reduceNeg, Int.reduceLT, Int.reduceLE, List.append_nil, List.nil_append, List.cons_append, List.isEmpty_cons, List.isEmpty_nil, decide_eq_true_eq]
      rw [key, e4]
      simp only [eq_nil, bind_ok, bind_exc, toS_ok, toS_exc, seq_nx, seq_rt, seq_bk, seq_ct, seq_exc, loop_nx, loop_ct, loop_bk, loop_rt, loop_exc, nox_ok, sVar_at, varR_frz, varR_own, sLit_at, get_0, get_s, set_0, set_s, der_v, der_ali, slotO_s, frz1_v, frz1_ali, frzO_own, frzO_frz, frzs_nil, frzC_some, frzs_v, frzD_some, frzs_ali, sArgs_nil, sArgs_cons, fin_some, op1K_some, op2K_some, sOp1_at, sOp2_at, opNK_some, sOpIsi_at, sOpSl0_at, sOpSl1_at, sOpSl2_at, sOpSl3_at, ders_nil, dersC_some, ders_cons, truF_some, truK_some, sTruth_at, sTNot_at, sTAnd_at, sTOr_at, sIte_at, sAnd_at, sOr_at, andK_bl, orK_bl, sNot_at, notK_bl, truth_bl, truth_int, truth_lst, truth_tup, truth_non, sChain_at, chK_int, sNil_at, sSeq_at, sIf_at, sRet_at, sDrop_at, setF_some, setK_own, setK_frz, setK_ali, sSet_at, sAug_at, augK_int, tupK_0, lstK_0, tupK_1, lstK_1, tupK_2, lstK_2, tupK_3, lstK_3, tupK_4, lstK_4, tupK_5, lstK_5, tupK_6, lstK_6, tupK_7, lstK_7, tupK_8, lstK_8, tupK_9, lstK_9, tupK_10, lstK_10, tupK_11, lstK_11, tupK_12, lstK_12, tupK_13, lstK_13, tupK_14, lstK_14, tupK_15, lstK_15, tupK_16, lstK_16, sTup_at, sLst_at, sNewD_at, pinL_at, normA_nil, normA_cons, normC_frz, normC_own, normC_ali, argV_frz, argV_ownP, argV_ali, argO_own, argO_frz, argC_some, argsV_nil, argsV_cons, outsOf_nil, outsOf_v, outsOf_ali, outsK_own, putOuts_nil, putOuts_cons, optJ_some, callR_ok, callR_exc, callA_some, callN_some, sCall_at, endRun_nx, endRun_v, endRun_exc, endRun_ali, endO_frz, endO_own, outE_0, outE_1, outE_2, outE_3, outE_4, outE_5, outE_6, outV_at, seqK_some, sqK_some, seqB_lst, seqB_tup, seqB_ktp, seqB_scr, wSq_at, wRg1_at, rg2K_int, wRg2_at, zip2_some, zipK_some, wZip_at, bd_nm, bd_tup, bd_ktp, bNames_nil, bNames_cons, lpB_some, sFor_at, lcF_some, lcB_some, lcE_ok, lcH_some, sLc_at, sYes_at, hideS_nil, hideS_cons, hideK_none, hideK_frz, hideK_own, wipeE_nil, wipeE_cons, restE_nil, restE_cons, putSlot_at, mutP_some, mutF_own, mutQ_some, mutK_own, sMut_at, isLst_lst, extE_own, extD_lst, extK_own, sExt_at, sDisp_at, flat2_nil, flat2_cons, putQ_some, putE_own, putD_some, putF_some, putK_some, sPut_at, sPar_at, parB_some, parK_some, normB_nil, normB_cons, normBC_v, bindVs_nil, bindVs_frz, bindVs_own, setTK_some, sSetT_at, raiseK_some, sRaise_at, if_true, if_false, Bool.true_and, Bool.and_true, Bool.false_and, Bool.and_false, Bool.not_true, Bool.not_false, Bool.false_eq_true, reduceIte, List.length_cons, List.length_nil, List.map_cons, List.map_nil, List.contains_cons, List.contains_nil, List.any_nil, List.any_cons, beq_self_eq_true, Bool.true_or, Bool.or_true, Bool.false_or, Bool.or_false, isAli, List.nodup_nil, List.nodup_cons, List.not_mem_nil, not_false_eq_true, and_true, true_and, and_self, decide_true, decide_false, Nat.reduceAdd, Nat.reduceLeDiff, Nat.reduceBEq, Nat.reduceEqDiff, Nat.reduceLT, Int.reducePow, Int.reduceNeg, Int.reduceLT, Int.reduceLE, List.append_nil, List.nil_append, List.cons_append, List.isEmpty_cons, List.isEmpty_nil, decide_eq_true_eq]
/-! the law's own products -/
def bpr (a b : List Int) : Int := match a, b with
  | [a0, a1, a2, a3, a4, a5], [b0, b1, b2, b3, b4, b5] => (0 + 0 + a0 * b1 + a0 * b2 + a0 * b3 + a0 * b4 + a0 * b5 + a1 * b0 + 0 + a1 * b2 + a1 * b3 + a1 * b4 + a1 * b5 + a2 * b0 + a2 * b1 + 0 + a2 * b3 + a2 * b4 + a2 * b5 + a3 * b0 + a3 * b1 + a3 * b2 + 0 + a3 * b4 + a3 * b5 + a4 * b0 + a4 * b1 + a4 * b2 + a4 * b3 + 0 + a4 * b5 + a5 * b0 + a5 * b1 + a5 * b2 + a5 * b3 + a5 * b4 + 0 : Int).fmod 2
  | _, _ => 0
theorem row6 {r : List Int} (h : Row r) : ∃ a b c d e f, r = [a, b, c, d, e, f] := by
  have := h.len
  match r, this with
  | [a, b, c, d, e, f], _ => exact ⟨a, b, c, d, e, f, rfl⟩
theorem ix_l {x : D} {xs : List D} {i : Int} (h : L2.atI xs i = some x) : dIx (.tup xs) (.int i) = some (false, x) := by
  show (match L2.atI xs i with | some d => some (false, d) | none => none) = _
  rw [h]
theorem L21 (t m a b) (ha : Row a) (hb : Row b) : cl t (m + 3) 21 [fz (tI a), fz (tI b)] = .ok false (.int (bpr a b)) [some (fz (tI a)), some (fz (tI b))] := by
  obtain ⟨a0, a1, a2, a3, a4, a5, rfl⟩ := row6 ha
  obtain ⟨b0, b1, b2, b3, b4, b5, rfl⟩ := row6 hb
  rw [q21, g21]
  have s0 := bit_small (ha.bit a0 (by simp))
  have s1 := bit_small (ha.bit a1 (by simp))
  have s2 := bit_small (ha.bit a2 (by simp))
  have s3 := bit_small (ha.bit a3 (by simp))
  have s4 := bit_small (ha.bit a4 (by simp))
  have s5 := bit_small (ha.bit a5 (by simp))
  have rg : ∀ ρ, rg1K ρ (some (.int 6)) = .ok [.int 0, .int 1, .int 2, .int 3, .int 4, .int 5] ρ := fun _ => by kernel_rfl
  have x0 : ∀ c0 c1 c2 c3 c4 c5 : Int, dIx (tI [c0, c1, c2, c3, c4, c5]) (.int 0) = some (false, .int c0) := fun _ _ _ _ _ _ => rfl
  have x1 : ∀ c0 c1 c2 c3 c4 c5 : Int, dIx (tI [c0, c1, c2, c3, c4, c5]) (.int 1) = some (false, .int c1) := fun _ _ _ _ _ _ => rfl
  have x2 : ∀ c0 c1 c2 c3 c4 c5 : Int, dIx (tI [c0, c1, c2, c3, c4, c5]) (.int 2) = some (false, .int c2) := fun _ _ _ _ _ _ => rfl
  have x3 : ∀ c0 c1 c2 c3 c4 c5 : Int, dIx (tI [c0, c1, c2, c3, c4, c5]) (.int 3) = some (false, .int c3) := fun _ _ _ _ _ _ => rfl
  have x4 : ∀ c0 c1 c2 c3 c4 c5 : Int, dIx (tI [c0, c1, c2, c3, c4, c5]) (.int 4) = some (false, .int c4) := fun _ _ _ _ _ _ => rfl
  have x5 : ∀ c0 c1 c2 c3 c4 c5 : Int, dIx (tI [c0, c1, c2, c3, c4, c5]) (.int 5) = some (false, .int c5) := fun _ _ _ _ _ _ => rfl
  have nn : ∀ i j : Int, dNe (.int i) (.int j) = some (false, .bl (!decide (i = j))) := fun i j => ne_ii
  simp only [rg, loopS_cons, loopS_nil, x0, x1, x2, x3, x4, x5, nn, mul_ii (small_l s0), mul_ii (small_l s1), mul_ii (small_l s2), mul_ii (small_l s3), mul_ii (small_l s4), mul_ii (small_l s5), add_ii, mod_ii (show (2 : Int) ≠ 0 by decide), Int.reduceEq, bind_ok, bind_exc, toS_ok, toS_exc, seq_nx, seq_rt, seq_bk, seq_ct, seq_exc, loop_nx, loop_ct, loop_bk, loop_rt, loop_exc, nox_ok, sVar_at, varR_frz, varR_own, sLit_at, get_0, get_s, set_0, set_s, der_v, der_ali, slotO_s, frz1_v, frz1_ali, frzO_own, frzO_frz, frzs_nil, frzC_some, frzs_v, frzD_some, frzs_ali, sArgs_nil, sArgs_cons, fin_some, op1K_some, op2K_some, sOp1_at, sOp2_at, opNK_some, sOpIsi_at, sOpSl0_at, sOpSl1_at, sOpSl2_at, sOpSl3_at, ders_nil, dersC_some, ders_cons, truF_some, truK_some, sTruth_at, sTNot_at, sTAnd_at, sTOr_at, sIte_at, sAnd_at, sOr_at, andK_bl, orK_bl, sNot_at, notK_bl, truth_bl, truth_int, truth_lst, truth_tup, truth_non, sChain_at, chK_int, sNil_at, sSeq_at, sIf_at, sRet_at, sDrop_at, setF_some, setK_own, setK_frz, setK_ali, sSet_at, sAug_at, augK_int, tupK_0, lstK_0, tupK_1, lstK_1, tupK_2, lstK_2, tupK_3, lstK_3, tupK_4, lstK_4, tupK_5, lstK_5, tupK_6, lstK_6, tupK_7, lstK_7, tupK_8, lstK_8, tupK_9, lstK_9, tupK_10, lstK_10, tupK_11, lstK_11, tupK_12, lstK_12, tupK_13, lstK_13, tupK_14, lstK_14, tupK_15, lstK_15, tupK_16, lstK_16, sTup_at, sLst_at, sNewD_at, pinL_at, normA_nil, normA_cons, normC_frz, normC_own, normC_ali, argV_frz, argV_ownP, argV_ali, argO_own, argO_frz, argC_some, argsV_nil, argsV_cons, outsOf_nil, outsOf_v, outsOf_ali, outsK_own, putOuts_nil, putOuts_cons, optJ_some, callR_ok, callR_exc, callA_some, callN_some, sCall_at, endRun_nx, endRun_v, endRun_exc, endRun_ali, endO_frz, endO_own, outE_0, outE_1, outE_2, outE_3, outE_4, outE_5, outE_6, outV_at, seqK_some, sqK_some, seqB_lst, seqB_tup, seqB_ktp, seqB_scr, wSq_at, wRg1_at, rg2K_int, wRg2_at, zip2_some, zipK_some, wZip_at, bd_nm, bd_tup, bd_ktp, bNames_nil, bNames_cons, lpB_some, sFor_at, lcF_some, lcB_some, lcE_ok, lcH_some, sLc_at, sYes_at, hideS_nil, hideS_cons, hideK_none, hideK_frz, hideK_own, wipeE_nil, wipeE_cons, restE_nil, restE_cons, putSlot_at, mutP_some, mutF_own, mutQ_some, mutK_own, sMut_at, isLst_lst, extE_own, extD_lst, extK_own, sExt_at, sDisp_at, flat2_nil, flat2_cons, putQ_some, putE_own, putD_some, putF_some, putK_some, sPut_at, sPar_at, parB_some, parK_some, normB_nil, normB_cons, normBC_v, bindVs_nil, bindVs_frz, bindVs_own, setTK_some, sSetT_at, raiseK_some, sRaise_at, if_true, if_false, Bool.true_and, Bool.and_true, Bool.false_and, Bool.and_false, Bool.not_true, Bool.not_false, Bool.false_eq_true, reduceIte, List.length_cons, List.length_nil, List.map_cons, List.map_nil, List.contains_cons, List.contains_nil, List.any_nil, List.any_cons, beq_self_eq_true, Bool.true_or, Bool.or_true, Bool.false_or, Bool.or_false, isAli, List.nodup_nil, List.nodup_cons, List.not_mem_nil, not_false_eq_true, and_true, true_and, and_self, decide_true, decide_false, Nat.reduceAdd, Nat.reduceLeDiff, Nat.reduceBEq, Nat.reduceEqDiff, Nat.reduceLT, Int.reducePow, Int.reduceNeg, Int.reduceLT, Int.reduceLE, List.append_nil, List.nil_append, List.cons_append, List.isEmpty_cons, List.isEmpty_nil, decide_eq_true_eq]
  rfl
end Hd

namespace Hd
open PySem PySem.Spec PyProof.Rows Ev
def fwr (a b : List Int) : Int := match a, b with
  | [a0, a1, a2, a3, a4, a5], [b0, b1, b2, b3, b4, b5] => (0 + a0 * b0 + a1 * b1 + b1 * b0 + a2 * b2 + b2 * b0 + b2 * b1 + a3 * b3 + b3 * b0 + b3 * b1 + b3 * b2 + a4 * b4 + b4 * b0 + b4 * b1 + b4 * b2 + b4 * b3 + a5 * b5 + b5 * b0 + b5 * b1 + b5 * b2 + b5 * b3 + b5 * b4 : Int).fmod 2
  | _, _ => 0
theorem x0 (c0 c1 c2 c3 c4 c5 : Int) : dIx (tI [c0, c1, c2, c3, c4, c5]) (.int 0) = some (false, .int c0) := (rfl)
theorem x1 (c0 c1 c2 c3 c4 c5 : Int) : dIx (tI [c0, c1, c2, c3, c4, c5]) (.int 1) = some (false, .int c1) := (rfl)
theorem x2 (c0 c1 c2 c3 c4 c5 : Int) : dIx (tI [c0, c1, c2, c3, c4, c5]) (.int 2) = some (false, .int c2) := (rfl)
theorem x3 (c0 c1 c2 c3 c4 c5 : Int) : dIx (tI [c0, c1, c2, c3, c4, c5]) (.int 3) = some (false, .int c3) := (rfl)
theorem x4 (c0 c1 c2 c3 c4 c5 : Int) : dIx (tI [c0, c1, c2, c3, c4, c5]) (.int 4) = some (false, .int c4) := (rfl)
theorem x5 (c0 c1 c2 c3 c4 c5 : Int) : dIx (tI [c0, c1, c2, c3, c4, c5]) (.int 5) = some (false, .int c5) := (rfl)
theorem rg0 {ρ} : rg1K ρ (some (.int 0)) = .ok [] ρ := (rfl)
theorem rg1 {ρ} : rg1K ρ (some (.int 1)) = .ok [.int 0] ρ := (rfl)
theorem rg2 {ρ} : rg1K ρ (some (.int 2)) = .ok [.int 0, .int 1] ρ := (rfl)
theorem rg3 {ρ} : rg1K ρ (some (.int 3)) = .ok [.int 0, .int 1, .int 2] ρ := (rfl)
theorem rg4 {ρ} : rg1K ρ (some (.int 4)) = .ok [.int 0, .int 1, .int 2, .int 3] ρ := (rfl)
theorem rg5 {ρ} : rg1K ρ (some (.int 5)) = .ok [.int 0, .int 1, .int 2, .int 3, .int 4] ρ := (rfl)
theorem rg6 {ρ} : rg1K ρ (some (.int 6)) = .ok [.int 0, .int 1, .int 2, .int 3, .int 4, .int 5] ρ := (rfl)
theorem L22 (t m a b) (ha : Row a) (hb : Row b) : cl t (m + 3) 22 [fz (tI a), fz (tI b)] = .ok false (.int (fwr a b)) [some (fz (tI a)), some (fz (tI b))] := by
  obtain ⟨a0, a1, a2, a3, a4, a5, rfl⟩ := row6 ha
  obtain ⟨b0, b1, b2, b3, b4, b5, rfl⟩ := row6 hb
  rw [q22, g22]
  have s0 := bit_small (hb.bit b0 (by simp))
  have s1 := bit_small (hb.bit b1 (by simp))
  have s2 := bit_small (hb.bit b2 (by simp))
  have s3 := bit_small (hb.bit b3 (by simp))
  have s4 := bit_small (hb.bit b4 (by simp))
  have s5 := bit_small (hb.bit b5 (by simp))
  simp only [rg0, rg1, rg2, rg3, rg4, rg5, rg6, loopS_cons, loopS_nil, x0, x1, x2, x3, x4, x5, mul_ii (small_r s0), mul_ii (small_r s1), mul_ii (small_r s2), mul_ii (small_r s3), mul_ii (small_r s4), mul_ii (small_r s5), add_ii, mod_ii (show (2 : Int) ≠ 0 by decide), bind_ok, bind_exc, toS_ok, toS_exc, seq_nx, seq_rt, seq_bk, seq_ct, seq_exc, loop_nx, loop_ct, loop_bk, loop_rt, loop_exc, nox_ok, sVar_at, varR_frz, varR_own, sLit_at, get_0, get_s, set_0, set_s, der_v, der_ali, slotO_s, frz1_v, frz1_ali, frzO_own, frzO_frz, frzs_nil, frzC_some, frzs_v, frzD_some, frzs_ali, sArgs_nil, sArgs_cons, fin_some, op1K_some, op2K_some, sOp1_at, sOp2_at, opNK_some, sOpIsi_at, sOpSl0_at, sOpSl1_at, sOpSl2_at, sOpSl3_at, ders_nil, dersC_some, ders_cons, truF_some, truK_some, sTruth_at, sTNot_at, sTAnd_at, sTOr_at, sIte_at, sAnd_at, sOr_at, andK_bl, orK_bl, sNot_at, notK_bl, truth_bl, truth_int, truth_lst, truth_tup, truth_non, sChain_at, chK_int, sNil_at, sSeq_at, sIf_at, sRet_at, sDrop_at, setF_some, setK_own, setK_frz, setK_ali, sSet_at, sAug_at, augK_int, tupK_0, lstK_0, tupK_1, lstK_1, tupK_2, lstK_2, tupK_3, lstK_3, tupK_4, lstK_4, tupK_5, lstK_5, tupK_6, lstK_6, tupK_7, lstK_7, tupK_8, lstK_8, tupK_9, lstK_9, tupK_10, lstK_10, tupK_11, lstK_11, tupK_12, lstK_12, tupK_13, lstK_13, tupK_14, lstK_14, tupK_15, lstK_15, tupK_16, lstK_16, sTup_at, sLst_at, sNewD_at, pinL_at, normA_nil, normA_cons, normC_frz, normC_own, normC_ali, argV_frz, argV_ownP, argV_ali, argO_own, argO_frz, argC_some, argsV_nil, argsV_cons, outsOf_nil, outsOf_v, outsOf_ali, outsK_own, putOuts_nil, putOuts_cons, optJ_some, callR_ok, callR_exc, callA_some, callN_some, sCall_at, endRun_nx, endRun_v, endRun_exc, endRun_ali, endO_frz, endO_own, outE_0, outE_1, outE_2, outE_3, outE_4, outE_5, outE_6, outV_at, seqK_some, sqK_some, seqB_lst, seqB_tup, seqB_ktp, seqB_scr, wSq_at, wRg1_at, rg2K_int, wRg2_at, zip2_some, zipK_some, wZip_at, bd_nm, bd_tup, bd_ktp, bNames_nil, bNames_cons, lpB_some, sFor_at, lcF_some, lcB_some, lcE_ok, lcH_some, sLc_at, sYes_at, hideS_nil, hideS_cons, hideK_none, hideK_frz, hideK_own, wipeE_nil, wipeE_cons, restE_nil, restE_cons, putSlot_at, mutP_some, mutF_own, mutQ_some, mutK_own, sMut_at, isLst_lst, extE_own, extD_lst, extK_own, sExt_at, sDisp_at, flat2_nil, flat2_cons, putQ_some, putE_own, putD_some, putF_some, putK_some, sPut_at, sPar_at, parB_some, parK_some, normB_nil, normB_cons, normBC_v, bindVs_nil, bindVs_frz, bindVs_own, setTK_some, sSetT_at, raiseK_some, sRaise_at, if_true, if_false, Bool.true_and, Bool.and_true, Bool.false_and, Bool.and_false, Bool.not_true, Bool.not_false, Bool.false_eq_true, reduceIte, List.length_cons, List.length_nil, List.map_cons, List.map_nil, List.contains_cons, List.contains_nil, List.any_nil, List.any_cons, beq_self_eq_true, Bool.true_or, Bool.or_true, Bool.false_or, Bool.or_false, isAli, List.nodup_nil, List.nodup_cons, List.not_mem_nil, not_false_eq_true, and_true, true_and, and_self, decide_true, decide_false, Nat.reduceAdd, Nat.reduceLeDiff, Nat.reduceBEq, Nat.reduceEqDiff, Nat.reduceLT, Int.reducePow, Int.reduceNeg, Int.reduceLT, Int.reduceLE, List.append_nil, List.nil_append, List.cons_append, List.isEmpty_cons, List.isEmpty_nil, decide_eq_true_eq]
  rfl
/-- the sum of two rows -/
def rsum (a b : List Int) : List Int := (a.zip b).map fun p => (p.1 + p.2).fmod 2
theorem bits2 {x y : Int} (hx : x = 0 ∨ x = 1) (hy : y = 0 ∨ y = 1) : (x + y).fmod 2 = 0 ∨ (x + y).fmod 2 = 1 := by
  rcases hx with rfl | rfl <;> rcases hy with rfl | rfl <;> decide
theorem rsum_row {a b} (ha : Row a) (hb : Row b) : Row (rsum a b) := by
  refine ⟨by unfold rsum; simp [ha.len, hb.len], fun x hx => ?_⟩
  obtain ⟨p, hp, rfl⟩ := List.mem_map.mp hx
  exact bits2 (ha.bit _ (List.of_mem_zip hp).1) (hb.bit _ (List.of_mem_zip hp).2)
theorem sum2 {x y : Int} : fSum (.lst [.int x, .int y]) = some (false, .int (x + y)) := by
  have := fSum_l (r := [x, y])
  simpa using this
theorem L24 (t m a b) (ha : Row a) (hb : Row b) : cl t (m + 3) 24 [⟨.own, .lst [tI a, tI b]⟩] = .ok false (tI (rsum a b)) [some (fz (.lst [tI a, tI b]))] := by
  obtain ⟨a0, a1, a2, a3, a4, a5, rfl⟩ := row6 ha
  obtain ⟨b0, b1, b2, b3, b4, b5, rfl⟩ := row6 hb
  rw [q24, g24]
  have lcS_nil : ∀ {bd tt f vs acc ρ}, lcS bd tt f vs [] acc ρ = .ok acc ρ := (rfl)
  have lcN_some : ∀ {bd tt f vs xs acc ρ d}, acc.length < 1000000 → lcN bd tt f vs xs acc ρ (some d) = lcS bd tt f vs xs (acc ++ [d]) ρ := fun {bd tt f vs xs acc ρ d} h => by
    unfold lcN
    dsimp only
    rw [if_pos (by rw [size_lit]; omega)]
  simp only [rg6, lcS_cons, lcS_nil, lcN_some, x0, x1, x2, x3, x4, x5, sum2, mod_ii (show (2 : Int) ≠ 0 by decide), fTup_l, List.length_append, bind_ok, bind_exc, toS_ok, toS_exc, seq_nx, seq_rt, seq_bk, seq_ct, seq_exc, loop_nx, loop_ct, loop_bk, loop_rt, loop_exc, nox_ok, sVar_at, varR_frz, varR_own, sLit_at, get_0, get_s, set_0, set_s, der_v, der_ali, slotO_s, frz1_v, frz1_ali, frzO_own, frzO_frz, frzs_nil, frzC_some, frzs_v, frzD_some, frzs_ali, sArgs_nil, sArgs_cons, fin_some, op1K_some, op2K_some, sOp1_at, sOp2_at, opNK_some, sOpIsi_at, sOpSl0_at, sOpSl1_at, sOpSl2_at, sOpSl3_at, ders_nil, dersC_some, ders_cons, truF_some, truK_some, sTruth_at, sTNot_at, sTAnd_at, sTOr_at, sIte_at, sAnd_at, sOr_at, andK_bl, orK_bl, sNot_at, notK_bl, truth_bl, truth_int, truth_lst, truth_tup, truth_non, sChain_at, chK_int, sNil_at, sSeq_at, sIf_at, sRet_at, sDrop_at, setF_some, setK_own, setK_frz, setK_ali, sSet_at, sAug_at, augK_int, tupK_0, lstK_0, tupK_1, lstK_1, tupK_2, lstK_2, tupK_3, lstK_3, tupK_4, lstK_4, tupK_5, lstK_5, tupK_6, lstK_6, tupK_7, lstK_7, tupK_8, lstK_8, tupK_9, lstK_9, tupK_10, lstK_10, tupK_11, lstK_11, tupK_12, lstK_12, tupK_13, lstK_13, tupK_14, lstK_14, tupK_15, lstK_15, tupK_16, lstK_16, sTup_at, sLst_at, sNewD_at, pinL_at, normA_nil, normA_cons, normC_frz, normC_own, normC_ali, argV_frz, argV_ownP, argV_ali, argO_own, argO_frz, argC_some, argsV_nil, argsV_cons, outsOf_nil, outsOf_v, outsOf_ali, outsK_own, putOuts_nil, putOuts_cons, optJ_some, callR_ok, callR_exc, callA_some, callN_some, sCall_at, endRun_nx, endRun_v, endRun_exc, endRun_ali, endO_frz, endO_own, outE_0, outE_1, outE_2, outE_3, outE_4, outE_5, outE_6, outV_at, seqK_some, sqK_some, seqB_lst, seqB_tup, seqB_ktp, seqB_scr, wSq_at, wRg1_at, rg2K_int, wRg2_at, zip2_some, zipK_some, wZip_at, bd_nm, bd_tup, bd_ktp, bNames_nil, bNames_cons, lpB_some, sFor_at, lcF_some, lcB_some, lcE_ok, lcH_some, sLc_at, sYes_at, hideS_nil, hideS_cons, hideK_none, hideK_frz, hideK_own, wipeE_nil, wipeE_cons, restE_nil, restE_cons, putSlot_at, mutP_some, mutF_own, mutQ_some, mutK_own, sMut_at, isLst_lst, extE_own, extD_lst, extK_own, sExt_at, sDisp_at, flat2_nil, flat2_cons, putQ_some, putE_own, putD_some, putF_some, putK_some, sPut_at, sPar_at, parB_some, parK_some, normB_nil, normB_cons, normBC_v, bindVs_nil, bindVs_frz, bindVs_own, setTK_some, sSetT_at, raiseK_some, sRaise_at, if_true, if_false, Bool.true_and, Bool.and_true, Bool.false_and, Bool.and_false, Bool.not_true, Bool.not_false, Bool.false_eq_true, reduceIte, List.length_cons, List.length_nil, List.map_cons, List.map_nil, List.contains_cons, List.contains_nil, List.any_nil, List.any_cons, beq_self_eq_true, Bool.true_or, Bool.or_true, Bool.false_or, Bool.or_false, isAli, List.nodup_nil, List.nodup_cons, List.not_mem_nil, not_false_eq_true, and_true, true_and, and_self, decide_true, decide_false, Nat.reduceAdd, Nat.reduceLeDiff, Nat.reduceBEq, Nat.reduceEqDiff, Nat.reduceLT, Int.reducePow, Int.reduceNeg, Int.reduceLT, Int.reduceLE, List.append_nil, List.nil_append, List.cons_append, List.isEmpty_cons, List.isEmpty_nil, decide_eq_true_eq]
  rfl
end Hd

namespace Hd
open PySem PySem.Spec PyProof.Rows Ev
/-! ## the pen -/
def penD (ns : List Int) (at_ dg ct fo : Int) : D := .dK [(.inr "cells", .lst (ns.map .int)), (.inr "at", .int at_), (.inr "digits", .int dg), (.inr "count", .int ct), (.inr "fold", .int fo)]
structure PenOk (ns : List Int) (at_ dg ct fo : Int) : Prop where
  a0 : 0 ≤ at_
  d0 : 0 ≤ dg
section
variable {ns : List Int} {a d c f v : Int} {L : List D}
theorem pn_cells : dIx (penD ns a d c f) (.str "cells") = some (false, .lst (ns.map .int)) := by kernel_rfl
theorem pn_at : dIx (penD ns a d c f) (.str "at") = some (false, .int a) := by kernel_rfl
theorem pn_digits : dIx (penD ns a d c f) (.str "digits") = some (false, .int d) := by kernel_rfl
theorem pn_count : dIx (penD ns a d c f) (.str "count") = some (false, .int c) := by kernel_rfl
theorem pn_fold : dIx (penD ns a d c f) (.str "fold") = some (false, .int f) := by kernel_rfl
theorem ps_at : oSetL (penD ns a d c f) [.str "at", .int v] = some (penD ns v d c f, .non) := by kernel_rfl
theorem ps_digits : oSetL (penD ns a d c f) [.str "digits", .int v] = some (penD ns a v c f, .non) := by kernel_rfl
theorem ps_count : oSetL (penD ns a d c f) [.str "count", .int v] = some (penD ns a d v f, .non) := by kernel_rfl
theorem ps_fold : oSetL (penD ns a d c f) [.str "fold", .int v] = some (penD ns a d c v, .non) := by kernel_rfl
theorem pow18 : dPow (.int 10) (.int 18) = some (false, .int 1000000000000000000) := by kernel_rfl
theorem ix_cell (h0 : 0 ≤ a) (h : a < ns.length) : ∃ x, dIx (.lst (ns.map .int)) (.int a) = some (false, .int x) := by
  have hl : a.toNat < ns.length := by omega
  refine ⟨ns[a.toNat], ?_⟩
  show (match L2.atI (ns.map D.int) a with | some d => some (false, d) | none => none) = _
  have : L2.atI (ns.map D.int) a = some (.int ns[a.toNat]) := by
    unfold L2.atI L2.ixN
    simp [h0, h, hl]
  rw [this]
theorem m47 : dMul (.int v) (.int 47) = some (false, .int (v * 47)) := mul_ii (small_r rfl)
theorem m69069 : dMul (.int v) (.int 69069) = some (false, .int (v * 69069)) := mul_ii (small_r rfl)
theorem m48271 : dMul (.int v) (.int 48271) = some (false, .int (v * 48271)) := mul_ii (small_r rfl)
theorem m7919 : dMul (.int v) (.int 7919) = some (false, .int (v * 7919)) := mul_ii (small_r rfl)
theorem m16807 : dMul (.int v) (.int 16807) = some (false, .int (v * 16807)) := mul_ii (small_r rfl)
theorem m31 : dMul (.int 31) (.int v) = some (false, .int (31 * v)) := mul_ii (small_l rfl)
theorem mbb : dMul (.int (v.fmod 2147483647)) (.int (v.fmod 2147483647)) = some (false, .int (v.fmod 2147483647 * v.fmod 2147483647)) := mul_ii (small_l (small_of (by
  have := Int.fmod_nonneg_of_pos v (show (0 : Int) < 2147483647 by decide)
  omega) (by
  have := Int.fmod_lt_of_pos v (show (0 : Int) < 2147483647 by decide)
  omega)))
theorem md1 : dMod (.int v) (.int 2147483587) = some (false, .int (v.fmod 2147483587)) := mod_ii (by decide)
theorem md2 : dMod (.int v) (.int 2147483647) = some (false, .int (v.fmod 2147483647)) := mod_ii (by decide)
theorem md3 : dMod (.int v) (.int 2147483629) = some (false, .int (v.fmod 2147483629)) := mod_ii (by decide)
theorem md4 : dMod (.int v) (.int 1000000007) = some (false, .int (v.fmod 1000000007)) := mod_ii (by decide)
theorem dv64 : dDiv (.int v) (.int 64) = some (false, .int (v.fdiv 64)) := div_ii (by decide) (by decide)
end
abbrev bl1 (F C : Int) : Int := (F * 48271 + C * 7919 + 13).fmod 2147483647
abbrev bl2 (F C : Int) : Int := (bl1 F C * bl1 F C + 31 * bl1 F C + C).fmod 2147483629
abbrev bl3 (F C : Int) : Int := (bl2 F C * 16807 + 7).fmod 2147483647
theorem L14 (t m ns a d c f k) (h : PenOk ns a d c f) (hk : 0 < k ∧ k < 1073741824) : ∃ r a' d' c' f', PenOk ns a' d' c' f' ∧ 0 ≤ r ∧ r < k ∧
    cl t (m + 3) 14 [⟨.own, penD ns a d c f⟩, fz (.int k)] = .ok false (.int r) [some ⟨.own, penD ns a' d' c' f'⟩, some (fz (.int k))] := by
  have k0 : k ≠ 0 := by omega
  have kb : k.natAbs < 1073741824 := by omega
  have fm : ∀ x : Int, 0 ≤ x.fmod k ∧ x.fmod k < k := fun x => ⟨Int.fmod_nonneg_of_pos x hk.1, Int.fmod_lt_of_pos x hk.1⟩
  obtain ⟨h1, h2⟩ := h
  rw [q14, g14]
  by_cases hd : d = 0
  · by_cases ha : a < (ns.length : Int)
    · obtain ⟨x, hx⟩ := ix_cell h1 ha
      by_cases hc : 1000000000000000000 ≤ x
      · by_cases hp : 0 < x - 1000000000000000000
        · refine ⟨(x - 1000000000000000000).fmod k, a + 1, (x - 1000000000000000000).fdiv k, c + 1, f, ⟨by omega, Int.fdiv_nonneg (by omega) (by omega)⟩, (fm _).1, (fm _).2, ?_⟩
          simp only [pn_cells, pn_at, pn_digits, pn_count, pn_fold, ps_at, ps_digits, ps_count, ps_fold, pow18, hx, hd, ha, hc, hp, eq_ii, lt_ii, gt_ii, ge_ii, add_ii, subt_ii, fLen_l, fInt_i, mod_ii k0, div_ii k0 kb, List.length_map, bind_ok, bind_exc, toS_ok, toS_exc, seq_nx, seq_rt, seq_bk, seq_ct, seq_exc, loop_nx, loop_ct, loop_bk, loop_rt, loop_exc, nox_ok, sVar_at, varR_frz, varR_own, sLit_at, get_0, get_s, set_0, set_s, der_v, der_ali, slotO_s, frz1_v, frz1_ali, frzO_own, frzO_frz, frzs_nil, frzC_some, frzs_v, frzD_some, frzs_ali, sArgs_nil, sArgs_cons, fin_some, op1K_some, op2K_some, sOp1_at, sOp2_at, opNK_some, sOpIsi_at, sOpSl0_at, sOpSl1_at, sOpSl2_at, sOpSl3_at, ders_nil, dersC_some, ders_cons, truF_some, truK_some, sTruth_at, sTNot_at, sTAnd_at, sTOr_at, sIte_at, sAnd_at, sOr_at, andK_bl, orK_bl, sNot_at, notK_bl, truth_bl, truth_int, truth_lst, truth_tup, truth_non, sChain_at, chK_int, sNil_at, sSeq_at, sIf_at, sRet_at, sDrop_at, setF_some, setK_own, setK_frz, setK_ali, sSet_at, sAug_at, augK_int, tupK_0, lstK_0, tupK_1, lstK_1, tupK_2, lstK_2, tupK_3, lstK_3, tupK_4, lstK_4, tupK_5, lstK_5, tupK_6, lstK_6, tupK_7, lstK_7, tupK_8, lstK_8, tupK_9, lstK_9, tupK_10, lstK_10, tupK_11, lstK_11, tupK_12, lstK_12, tupK_13, lstK_13, tupK_14, lstK_14, tupK_15, lstK_15, tupK_16, lstK_16, sTup_at, sLst_at, sNewD_at, pinL_at, normA_nil, normA_cons, normC_frz, normC_own, normC_ali, argV_frz, argV_ownP, argV_ali, argO_own, argO_frz, argC_some, argsV_nil, argsV_cons, outsOf_nil, outsOf_v, outsOf_ali, outsK_own, putOuts_nil, putOuts_cons, optJ_some, callR_ok, callR_exc, callA_some, callN_some, sCall_at, endRun_nx, endRun_v, endRun_exc, endRun_ali, endO_frz, endO_own, outE_0, outE_1, outE_2, outE_3, outE_4, outE_5, outE_6, outV_at, seqK_some, sqK_some, seqB_lst, seqB_tup, seqB_ktp, seqB_scr, wSq_at, wRg1_at, rg2K_int, wRg2_at, zip2_some, zipK_some, wZip_at, bd_nm, bd_tup, bd_ktp, bNames_nil, bNames_cons, lpB_some, sFor_at, lcF_some, lcB_some, lcE_ok, lcH_some, sLc_at, sYes_at, hideS_nil, hideS_cons, hideK_none, hideK_frz, hideK_own, wipeE_nil, wipeE_cons, restE_nil, restE_cons, putSlot_at, mutP_some, mutF_own, mutQ_some, mutK_own, sMut_at, isLst_lst, extE_own, extD_lst, extK_own, sExt_at, sDisp_at, flat2_nil, flat2_cons, putQ_some, putE_own, putD_some, putF_some, putK_some, sPut_at, sPar_at, parB_some, parK_some, normB_nil, normB_cons, normBC_v, bindVs_nil, bindVs_frz, bindVs_own, setTK_some, sSetT_at, raiseK_some, sRaise_at, if_true, if_false, Bool.true_and, Bool.and_true, Bool.false_and, Bool.and_false, Bool.not_true, Bool.not_false, Bool.false_eq_true, reduceIte, List.length_cons, List.length_nil, List.map_cons, List.map_nil, List.contains_cons, List.contains_nil, List.any_nil, List.any_cons, beq_self_eq_true, Bool.true_or, Bool.or_true, Bool.false_or, Bool.or_false, isAli, List.nodup_nil, List.nodup_cons, List.not_mem_nil, not_false_eq_true, and_true, true_and, and_self, decide_true, decide_false, Nat.reduceAdd, Nat.reduceLeDiff, Nat.reduceBEq, Nat.reduceEqDiff, Nat.reduceLT, Int.reducePow, Int.reduceNeg, Int.reduceLT, Int.reduceLE, List.append_nil, List.nil_append, List.cons_append, List.isEmpty_cons, List.isEmpty_nil, decide_eq_true_eq]
        · refine ⟨((bl2 f (c + 1)).fdiv 64).fmod k, a + 1, x - 1000000000000000000, c + 1, bl3 f (c + 1), ⟨by omega, by omega⟩, (fm _).1, (fm _).2, ?_⟩
          simp only [pn_cells, pn_at, pn_digits, pn_count, pn_fold, ps_at, ps_digits, ps_count, ps_fold, pow18, hx, hd, ha, hc, hp, eq_ii, lt_ii, gt_ii, ge_ii, add_ii, subt_ii, fLen_l, fInt_i, mod_ii k0, div_ii k0 kb, List.length_map, m69069, m48271, m7919, m16807, m31, mbb, md1, md2, md3, dv64, bind_ok, bind_exc, toS_ok, toS_exc, seq_nx, seq_rt, seq_bk, seq_ct, seq_exc, loop_nx, loop_ct, loop_bk, loop_rt, loop_exc, nox_ok, sVar_at, varR_frz, varR_own, sLit_at, get_0, get_s, set_0, set_s, der_v, der_ali, slotO_s, frz1_v, frz1_ali, frzO_own, frzO_frz, frzs_nil, frzC_some, frzs_v, frzD_some, frzs_ali, sArgs_nil, sArgs_cons, fin_some, op1K_some, op2K_some, sOp1_at, sOp2_at, opNK_some, sOpIsi_at, sOpSl0_at, sOpSl1_at, sOpSl2_at, sOpSl3_at, ders_nil, dersC_some, ders_cons, truF_some, truK_some, sTruth_at, sTNot_at, sTAnd_at, sTOr_at, sIte_at, sAnd_at, sOr_at, andK_bl, orK_bl, sNot_at, notK_bl, truth_bl, truth_int, truth_lst, truth_tup, truth_non, sChain_at, chK_int, sNil_at, sSeq_at, sIf_at, sRet_at, sDrop_at, setF_some, setK_own, setK_frz, setK_ali, sSet_at, sAug_at, augK_int, tupK_0, lstK_0, tupK_1, lstK_1, tupK_2, lstK_2, tupK_3, lstK_3, tupK_4, lstK_4, tupK_5, lstK_5, tupK_6, lstK_6, tupK_7, lstK_7, tupK_8, lstK_8, tupK_9, lstK_9, tupK_10, lstK_10, tupK_11, lstK_11, tupK_12, lstK_12, tupK_13, lstK_13, tupK_14, lstK_14, tupK_15, lstK_15, tupK_16, lstK_16, sTup_at, sLst_at, sNewD_at, pinL_at, normA_nil, normA_cons, normC_frz, normC_own, normC_ali, argV_frz, argV_ownP, argV_ali, argO_own, argO_frz, argC_some, argsV_nil, argsV_cons, outsOf_nil, outsOf_v, outsOf_ali, outsK_own, putOuts_nil, putOuts_cons, optJ_some, callR_ok, callR_exc, callA_some, callN_some, sCall_at, endRun_nx, endRun_v, endRun_exc, endRun_ali, endO_frz, endO_own, outE_0, outE_1, outE_2, outE_3, outE_4, outE_5, outE_6, outV_at, seqK_some, sqK_some, seqB_lst, seqB_tup, seqB_ktp, seqB_scr, wSq_at, wRg1_at, rg2K_int, wRg2_at, zip2_some, zipK_some, wZip_at, bd_nm, bd_tup, bd_ktp, bNames_nil, bNames_cons, lpB_some, sFor_at, lcF_some, lcB_some, lcE_ok, lcH_some, sLc_at, sYes_at, hideS_nil, hideS_cons, hideK_none, hideK_frz, hideK_own, wipeE_nil, wipeE_cons, restE_nil, restE_cons, putSlot_at, mutP_some, mutF_own, mutQ_some, mutK_own, sMut_at, isLst_lst, extE_own, extD_lst, extK_own, sExt_at, sDisp_at, flat2_nil, flat2_cons, putQ_some, putE_own, putD_some, putF_some, putK_some, sPut_at, sPar_at, parB_some, parK_some, normB_nil, normB_cons, normBC_v, bindVs_nil, bindVs_frz, bindVs_own, setTK_some, sSetT_at, raiseK_some, sRaise_at, if_true, if_false, Bool.true_and, Bool.and_true, Bool.false_and, Bool.and_false, Bool.not_true, Bool.not_false, Bool.false_eq_true, reduceIte, List.length_cons, List.length_nil, List.map_cons, List.map_nil, List.contains_cons, List.contains_nil, List.any_nil, List.any_cons, beq_self_eq_true, Bool.true_or, Bool.or_true, Bool.false_or, Bool.or_false, isAli, List.nodup_nil, List.nodup_cons, List.not_mem_nil, not_false_eq_true, and_true, true_and, and_self, decide_true, decide_false, Nat.reduceAdd, Nat.reduceLeDiff, Nat.reduceBEq, Nat.reduceEqDiff, Nat.reduceLT, Int.reducePow, Int.reduceNeg, Int.reduceLT, Int.reduceLE, List.append_nil, List.nil_append, List.cons_append, List.isEmpty_cons, List.isEmpty_nil, decide_eq_true_eq]
      · refine ⟨((bl2 ((f * 69069 + x).fmod 2147483587) (c + 1)).fdiv 64).fmod k, a + 1, 0, c + 1, bl3 ((f * 69069 + x).fmod 2147483587) (c + 1), ⟨by omega, by omega⟩, (fm _).1, (fm _).2, ?_⟩
        simp only [pn_cells, pn_at, pn_digits, pn_count, pn_fold, ps_at, ps_digits, ps_count, ps_fold, pow18, hx, hd, ha, hc, eq_ii, lt_ii, gt_ii, ge_ii, add_ii, subt_ii, fLen_l, fInt_i, mod_ii k0, div_ii k0 kb, List.length_map, m69069, m48271, m7919, m16807, m31, mbb, md1, md2, md3, dv64, Int.lt_irrefl, bind_ok, bind_exc, toS_ok, toS_exc, seq_nx, seq_rt, seq_bk, seq_ct, seq_exc, loop_nx, loop_ct, loop_bk, loop_rt, loop_exc, nox_ok, sVar_at, varR_frz, varR_own, sLit_at, get_0, get_s, set_0, set_s, der_v, der_ali, slotO_s, frz1_v, frz1_ali, frzO_own, frzO_frz, frzs_nil, frzC_some, frzs_v, frzD_some, frzs_ali, sArgs_nil, sArgs_cons, fin_some, op1K_some, op2K_some, sOp1_at, sOp2_at, opNK_some, sOpIsi_at, sOpSl0_at, sOpSl1_at, sOpSl2_at, sOpSl3_at, ders_nil, dersC_some, ders_cons, truF_some, truK_some, sTruth_at, sTNot_at, sTAnd_at, sTOr_at, sIte_at, sAnd_at, sOr_at, andK_bl, orK_bl, sNot_at, notK_bl, truth_bl, truth_int, truth_lst, truth_tup, truth_non, sChain_at, chK_int, sNil_at, sSeq_at, sIf_at, sRet_at, sDrop_at, setF_some, setK_own, setK_frz, setK_ali, sSet_at, sAug_at, augK_int, tupK_0, lstK_0, tupK_1, lstK_1, tupK_2, lstK_2, tupK_3, lstK_3, tupK_4, lstK_4, tupK_5, lstK_5, tupK_6, lstK_6, tupK_7, lstK_7, tupK_8, lstK_8, tupK_9, lstK_9, tupK_10, lstK_10, tupK_11, lstK_11, tupK_12, lstK_12, tupK_13, lstK_13, tupK_14, lstK_14, tupK_15, lstK_15, tupK_16, lstK_16, sTup_at, sLst_at, sNewD_at, pinL_at, normA_nil, normA_cons, normC_frz, normC_own, normC_ali, argV_frz, argV_ownP, argV_ali, argO_own, argO_frz, argC_some, argsV_nil, argsV_cons, outsOf_nil, outsOf_v, outsOf_ali, outsK_own, putOuts_nil, putOuts_cons, optJ_some, callR_ok, callR_exc, callA_some, callN_some, sCall_at, endRun_nx, endRun_v, endRun_exc, endRun_ali, endO_frz, endO_own, outE_0, outE_1, outE_2, outE_3, outE_4, outE_5, outE_6, outV_at, seqK_some, sqK_some, seqB_lst, seqB_tup, seqB_ktp, seqB_scr, wSq_at, wRg1_at, rg2K_int, wRg2_at, zip2_some, zipK_some, wZip_at, bd_nm, bd_tup, bd_ktp, bNames_nil, bNames_cons, lpB_some, sFor_at, lcF_some, lcB_some, lcE_ok, lcH_some, sLc_at, sYes_at, hideS_nil, hideS_cons, hideK_none, hideK_frz, hideK_own, wipeE_nil, wipeE_cons, restE_nil, restE_cons, putSlot_at, mutP_some, mutF_own, mutQ_some, mutK_own, sMut_at, isLst_lst, extE_own, extD_lst, extK_own, sExt_at, sDisp_at, flat2_nil, flat2_cons, putQ_some, putE_own, putD_some, putF_some, putK_some, sPut_at, sPar_at, parB_some, parK_some, normB_nil, normB_cons, normBC_v, bindVs_nil, bindVs_frz, bindVs_own, setTK_some, sSetT_at, raiseK_some, sRaise_at, if_true, if_false, Bool.true_and, Bool.and_true, Bool.false_and, Bool.and_false, Bool.not_true, Bool.not_false, Bool.false_eq_true, reduceIte, List.length_cons, List.length_nil, List.map_cons, List.map_nil, List.contains_cons, List.contains_nil, List.any_nil, List.any_cons, beq_self_eq_true, Bool.true_or, Bool.or_true, Bool.false_or, Bool.or_false, isAli, List.nodup_nil, List.nodup_cons, List.not_mem_nil, not_false_eq_true, and_true, true_and, and_self, decide_true, decide_false, Nat.reduceAdd, Nat.reduceLeDiff, Nat.reduceBEq, Nat.reduceEqDiff, Nat.reduceLT, Int.reducePow, Int.reduceNeg, Int.reduceLT, Int.reduceLE, List.append_nil, List.nil_append, List.cons_append, List.isEmpty_cons, List.isEmpty_nil, decide_eq_true_eq]
    · refine ⟨((bl2 f (c + 1)).fdiv 64).fmod k, a, 0, c + 1, bl3 f (c + 1), ⟨by omega, by omega⟩, (fm _).1, (fm _).2, ?_⟩
      simp only [pn_cells, pn_at, pn_digits, pn_count, pn_fold, ps_at, ps_digits, ps_count, ps_fold, pow18, hd, ha, eq_ii, lt_ii, gt_ii, ge_ii, add_ii, subt_ii, fLen_l, fInt_i, mod_ii k0, div_ii k0 kb, List.length_map, m69069, m48271, m7919, m16807, m31, mbb, md1, md2, md3, dv64, Int.lt_irrefl, bind_ok, bind_exc, toS_ok, toS_exc, seq_nx, seq_rt, seq_bk, seq_ct, seq_exc, loop_nx, loop_ct, loop_bk, loop_rt, loop_exc, nox_ok, sVar_at, varR_frz, varR_own, sLit_at, get_0, get_s, set_0, set_s, der_v, der_ali, slotO_s, frz1_v, frz1_ali, frzO_own, frzO_frz, frzs_nil, frzC_some, frzs_v, frzD_some, frzs_ali, sArgs_nil, sArgs_cons, fin_some, op1K_some, op2K_some, sOp1_at, sOp2_at, opNK_some, sOpIsi_at, sOpSl0_at, sOpSl1_at, sOpSl2_at, sOpSl3_at, ders_nil, dersC_some, ders_cons, truF_some, truK_some, sTruth_at, sTNot_at, sTAnd_at, sTOr_at, sIte_at, sAnd_at, sOr_at, andK_bl, orK_bl, sNot_at, notK_bl, truth_bl, truth_int, truth_lst, truth_tup, truth_non, sChain_at, chK_int, sNil_at, sSeq_at, sIf_at, sRet_at, sDrop_at, setF_some, setK_own, setK_frz, setK_ali, sSet_at, sAug_at, augK_int, tupK_0, lstK_0, tupK_1, lstK_1, tupK_2, lstK_2, tupK_3, lstK_3, tupK_4, lstK_4, tupK_5, lstK_5, tupK_6, lstK_6, tupK_7, lstK_7, tupK_8, lstK_8, tupK_9, lstK_9, tupK_10, lstK_10, tupK_11, lstK_11, tupK_12, lstK_12, tupK_13, lstK_13, tupK_14, lstK_14, tupK_15, lstK_15, tupK_16, lstK_16, sTup_at, sLst_at, sNewD_at, pinL_at, normA_nil, normA_cons, normC_frz, normC_own, normC_ali, argV_frz, argV_ownP, argV_ali, argO_own, argO_frz, argC_some, argsV_nil, argsV_cons, outsOf_nil, outsOf_v, outsOf_ali, outsK_own, putOuts_nil, putOuts_cons, optJ_some, callR_ok, callR_exc, callA_some, callN_some, sCall_at, endRun_nx, endRun_v, endRun_exc, endRun_ali, endO_frz, endO_own, outE_0, outE_1, outE_2, outE_3, outE_4, outE_5, outE_6, outV_at, seqK_some, sqK_some, seqB_lst, seqB_tup, seqB_ktp, seqB_scr, wSq_at, wRg1_at, rg2K_int, wRg2_at, zip2_some, zipK_some, wZip_at, bd_nm, bd_tup, bd_ktp, bNames_nil, bNames_cons, lpB_some, sFor_at, lcF_some, lcB_some, lcE_ok, lcH_some, sLc_at, sYes_at, hideS_nil, hideS_cons, hideK_none, hideK_frz, hideK_own, wipeE_nil, wipeE_cons, restE_nil, restE_cons, putSlot_at, mutP_some, mutF_own, mutQ_some, mutK_own, sMut_at, isLst_lst, extE_own, extD_lst, extK_own, sExt_at, sDisp_at, flat2_nil, flat2_cons, putQ_some, putE_own, putD_some, putF_some, putK_some, sPut_at, sPar_at, parB_some, parK_some, normB_nil, normB_cons, normBC_v, bindVs_nil, bindVs_frz, bindVs_own, setTK_some, sSetT_at, raiseK_some, sRaise_at, if_true, if_false, Bool.true_and, Bool.and_true, Bool.false_and, Bool.and_false, Bool.not_true, Bool.not_false, Bool.false_eq_true, reduceIte, List.length_cons, List.length_nil, List.map_cons, List.map_nil, List.contains_cons, List.contains_nil, List.any_nil, List.any_cons, beq_self_eq_true, Bool.true_or, Bool.or_true, Bool.false_or, Bool.or_false, isAli, List.nodup_nil, List.nodup_cons, List.not_mem_nil, not_false_eq_true, and_true, true_and, and_self, decide_true, decide_false, Nat.reduceAdd, Nat.reduceLeDiff, Nat.reduceBEq, Nat.reduceEqDiff, Nat.reduceLT, Int.reducePow, Int.reduceNeg, Int.reduceLT, Int.reduceLE, List.append_nil, List.nil_append, List.cons_append, List.isEmpty_cons, List.isEmpty_nil, decide_eq_true_eq]
  · have hp : 0 < d := by omega
    refine ⟨d.fmod k, a, d.fdiv k, c + 1, f, ⟨by omega, Int.fdiv_nonneg (by omega) (by omega)⟩, (fm _).1, (fm _).2, ?_⟩
    simp only [pn_cells, pn_at, pn_digits, pn_count, pn_fold, ps_at, ps_digits, ps_count, ps_fold, pow18, hd, hp, eq_ii, lt_ii, gt_ii, ge_ii, add_ii, subt_ii, fLen_l, fInt_i, mod_ii k0, div_ii k0 kb, List.length_map, bind_ok, bind_exc, toS_ok, toS_exc, seq_nx, seq_rt, seq_bk, seq_ct, seq_exc, loop_nx, loop_ct, loop_bk, loop_rt, loop_exc, nox_ok, sVar_at, varR_frz, varR_own, sLit_at, get_0, get_s, set_0, set_s, der_v, der_ali, slotO_s, frz1_v, frz1_ali, frzO_own, frzO_frz, frzs_nil, frzC_some, frzs_v, frzD_some, frzs_ali, sArgs_nil, sArgs_cons, fin_some, op1K_some, op2K_some, sOp1_at, sOp2_at, opNK_some, sOpIsi_at, sOpSl0_at, sOpSl1_at, sOpSl2_at, sOpSl3_at, ders_nil, dersC_some, ders_cons, truF_some, truK_some, sTruth_at, sTNot_at, sTAnd_at, sTOr_at, sIte_at, sAnd_at, sOr_at, andK_bl, orK_bl, sNot_at, notK_bl, truth_bl, truth_int, truth_lst, truth_tup, truth_non, sChain_at, chK_int, sNil_at, sSeq_at, sIf_at, sRet_at, sDrop_at, setF_some, setK_own, setK_frz, setK_ali, sSet_at, sAug_at, augK_int, tupK_0, lstK_0, tupK_1, lstK_1, tupK_2, lstK_2, tupK_3, lstK_3, tupK_4, lstK_4, tupK_5, lstK_5, tupK_6, lstK_6, tupK_7, lstK_7, tupK_8, lstK_8, tupK_9, lstK_9, tupK_10, lstK_10, tupK_11, lstK_11, tupK_12, lstK_12, tupK_13, lstK_13, tupK_14, lstK_14, tupK_15, lstK_15, tupK_16, lstK_16, sTup_at, sLst_at, sNewD_at, pinL_at, normA_nil, normA_cons, normC_frz, normC_own, normC_ali, argV_frz, argV_ownP, argV_ali, argO_own, argO_frz, argC_some, argsV_nil, argsV_cons, outsOf_nil, outsOf_v, outsOf_ali, outsK_own, putOuts_nil, putOuts_cons, optJ_some, callR_ok, callR_exc, callA_some, callN_some, sCall_at, endRun_nx, endRun_v, endRun_exc, endRun_ali, endO_frz, endO_own, outE_0, outE_1, outE_2, outE_3, outE_4, outE_5, outE_6, outV_at, seqK_some, sqK_some, seqB_lst, seqB_tup, seqB_ktp, seqB_scr, wSq_at, wRg1_at, rg2K_int, wRg2_at, zip2_some, zipK_some, wZip_at, bd_nm, bd_tup, bd_ktp, bNames_nil, bNames_cons, lpB_some, sFor_at, lcF_some, lcB_some, lcE_ok, lcH_some, sLc_at, sYes_at, hideS_nil, hideS_cons, hideK_none, hideK_frz, hideK_own, wipeE_nil, wipeE_cons, restE_nil, restE_cons, putSlot_at, mutP_some, mutF_own, mutQ_some, mutK_own, sMut_at, isLst_lst, extE_own, extD_lst, extK_own, sExt_at, sDisp_at, flat2_nil, flat2_cons, putQ_some, putE_own, putD_some, putF_some, putK_some, sPut_at, sPar_at, parB_some, parK_some, normB_nil, normB_cons, normBC_v, bindVs_nil, bindVs_frz, bindVs_own, setTK_some, sSetT_at, raiseK_some, sRaise_at, if_true, if_false, Bool.true_and, Bool.and_true, Bool.false_and, Bool.and_false, Bool.not_true, Bool.not_false, Bool.false_eq_true, reduceIte, List.length_cons, List.length_nil, List.map_cons, List.map_nil, List.contains_cons, List.contains_nil, List.any_nil, List.any_cons, beq_self_eq_true, Bool.true_or, Bool.or_true, Bool.false_or, Bool.or_false, isAli, List.nodup_nil, List.nodup_cons, List.not_mem_nil, not_false_eq_true, and_true, true_and, and_self, decide_true, decide_false, Nat.reduceAdd, Nat.reduceLeDiff, Nat.reduceBEq, Nat.reduceEqDiff, Nat.reduceLT, Int.reducePow, Int.reduceNeg, Int.reduceLT, Int.reduceLE, List.append_nil, List.nil_append, List.cons_append, List.isEmpty_cons, List.isEmpty_nil, decide_eq_true_eq]
theorem L15 (t m ns a d c f) (xs : List D) (h : PenOk ns a d c f) (hx : 0 < xs.length ∧ xs.length < 1000000) : ∃ x a' d' c' f', PenOk ns a' d' c' f' ∧ x ∈ xs ∧
    cl t (m + 4) 15 [⟨.own, penD ns a d c f⟩, fz (.lst xs)] = .ok false x [some ⟨.own, penD ns a' d' c' f'⟩, some (fz (.lst xs))] ∧
    cl t (m + 4) 15 [⟨.own, penD ns a d c f⟩, ⟨.own, .lst xs⟩] = .ok false x [some ⟨.own, penD ns a' d' c' f'⟩, some ⟨.own, .lst xs⟩] := by
  obtain ⟨r, a', d', c', f', p, r0, r1, e⟩ := L14 t m ns a d c f (xs.length : Int) h (by omega)
  have hr : r.toNat < xs.length := by omega
  have ix : dIx (.lst xs) (.int r) = some (false, xs[r.toNat]) := by
    show (match L2.atI xs r with | some d => some (false, d) | none => none) = _
    have : L2.atI xs r = some xs[r.toNat] := by
      unfold L2.atI L2.ixN
      simp [r0, r1, hr]
    rw [this]
  refine ⟨xs[r.toNat], a', d', c', f', p, List.getElem_mem hr, ?_, ?_⟩
  · rw [q15, g15]
    simp only [e, ix, fLen_l, bind_ok, bind_exc, toS_ok, toS_exc, seq_nx, seq_rt, seq_bk, seq_ct, seq_exc, loop_nx, loop_ct, loop_bk, loop_rt, loop_exc, nox_ok, sVar_at, varR_frz, varR_own, sLit_at, get_0, get_s, set_0, set_s, der_v, der_ali, slotO_s, frz1_v, frz1_ali, frzO_own, frzO_frz, frzs_nil, frzC_some, frzs_v, frzD_some, frzs_ali, sArgs_nil, sArgs_cons, fin_some, op1K_some, op2K_some, sOp1_at, sOp2_at, opNK_some, sOpIsi_at, sOpSl0_at, sOpSl1_at, sOpSl2_at, sOpSl3_at, ders_nil, dersC_some, ders_cons, truF_some, truK_some, sTruth_at, sTNot_at, sTAnd_at, sTOr_at, sIte_at, sAnd_at, sOr_at, andK_bl, orK_bl, sNot_at, notK_bl, truth_bl, truth_int, truth_lst, truth_tup, truth_non, sChain_at, chK_int, sNil_at, sSeq_at, sIf_at, sRet_at, sDrop_at, setF_some, setK_own, setK_frz, setK_ali, sSet_at, sAug_at, augK_int, tupK_0, lstK_0, tupK_1, lstK_1, tupK_2, lstK_2, tupK_3, lstK_3, tupK_4, lstK_4, tupK_5, lstK_5, tupK_6, lstK_6, tupK_7, lstK_7, tupK_8, lstK_8, tupK_9, lstK_9, tupK_10, lstK_10, tupK_11, lstK_11, tupK_12, lstK_12, tupK_13, lstK_13, tupK_14, lstK_14, tupK_15, lstK_15, tupK_16, lstK_16, sTup_at, sLst_at, sNewD_at, pinL_at, normA_nil, normA_cons, normC_frz, normC_own, normC_ali, argV_frz, argV_ownP, argV_ali, argO_own, argO_frz, argC_some, argsV_nil, argsV_cons, outsOf_nil, outsOf_v, outsOf_ali, outsK_own, putOuts_nil, putOuts_cons, optJ_some, callR_ok, callR_exc, callA_some, callN_some, sCall_at, endRun_nx, endRun_v, endRun_exc, endRun_ali, endO_frz, endO_own, outE_0, outE_1, outE_2, outE_3, outE_4, outE_5, outE_6, outV_at, seqK_some, sqK_some, seqB_lst, seqB_tup, seqB_ktp, seqB_scr, wSq_at, wRg1_at, rg2K_int, wRg2_at, zip2_some, zipK_some, wZip_at, bd_nm, bd_tup, bd_ktp, bNames_nil, bNames_cons, lpB_some, sFor_at, lcF_some, lcB_some, lcE_ok, lcH_some, sLc_at, sYes_at, hideS_nil, hideS_cons, hideK_none, hideK_frz, hideK_own, wipeE_nil, wipeE_cons, restE_nil, restE_cons, putSlot_at, mutP_some, mutF_own, mutQ_some, mutK_own, sMut_at, isLst_lst, extE_own, extD_lst, extK_own, sExt_at, sDisp_at, flat2_nil, flat2_cons, putQ_some, putE_own, putD_some, putF_some, putK_some, sPut_at, sPar_at, parB_some, parK_some, normB_nil, normB_cons, normBC_v, bindVs_nil, bindVs_frz, bindVs_own, setTK_some, sSetT_at, raiseK_some, sRaise_at, if_true, if_false, Bool.true_and, Bool.and_true, Bool.false_and, Bool.and_false, Bool.not_true, Bool.not_false, Bool.false_eq_true, reduceIte, List.length_cons, List.length_nil, List.map_cons, List.map_nil, List.contains_cons, List.contains_nil, List.any_nil, List.any_cons, beq_self_eq_true, Bool.true_or, Bool.or_true, Bool.false_or, Bool.or_false, isAli, List.nodup_nil, List.nodup_cons, List.not_mem_nil, not_false_eq_true, and_true, true_and, and_self, decide_true, decide_false, Nat.reduceAdd, Nat.reduceLeDiff, Nat.reduceBEq, Nat.reduceEqDiff, Nat.reduceLT, Int.reducePow, Int.reduceNeg, Int.reduceLT, Int.reduceLE, List.append_nil, List.nil_append, List.cons_append, List.isEmpty_cons, List.isEmpty_nil, decide_eq_true_eq]
  · rw [q15, g15]
    simp only [e, ix, fLen_l, bind_ok, bind_exc, toS_ok, toS_exc, seq_nx, seq_rt, seq_bk, seq_ct, seq_exc, loop_nx, loop_ct, loop_bk, loop_rt, loop_exc, nox_ok, sVar_at, varR_frz, varR_own, sLit_at, get_0, get_s, set_0, set_s, der_v, der_ali, slotO_s, frz1_v, frz1_ali, frzO_own, frzO_frz, frzs_nil, frzC_some, frzs_v, frzD_some, frzs_ali, sArgs_nil, sArgs_cons, fin_some, op1K_some, op2K_some, sOp1_at, sOp2_at, opNK_some, sOpIsi_at, sOpSl0_at, sOpSl1_at, sOpSl2_at, sOpSl3_at, ders_nil, dersC_some, ders_cons, truF_some, truK_some, sTruth_at, sTNot_at, sTAnd_at, sTOr_at, sIte_at, sAnd_at, sOr_at, andK_bl, orK_bl, sNot_at, notK_bl, truth_bl, truth_int, truth_lst, truth_tup, truth_non, sChain_at, chK_int, sNil_at, sSeq_at, sIf_at, sRet_at, sDrop_at, setF_some, setK_own, setK_frz, setK_ali, sSet_at, sAug_at, augK_int, tupK_0, lstK_0, tupK_1, lstK_1, tupK_2, lstK_2, tupK_3, lstK_3, tupK_4, lstK_4, tupK_5, lstK_5, tupK_6, lstK_6, tupK_7, lstK_7, tupK_8, lstK_8, tupK_9, lstK_9, tupK_10, lstK_10, tupK_11, lstK_11, tupK_12, lstK_12, tupK_13, lstK_13, tupK_14, lstK_14, tupK_15, lstK_15, tupK_16, lstK_16, sTup_at, sLst_at, sNewD_at, pinL_at, normA_nil, normA_cons, normC_frz, normC_own, normC_ali, argV_frz, argV_ownP, argV_ali, argO_own, argO_frz, argC_some, argsV_nil, argsV_cons, outsOf_nil, outsOf_v, outsOf_ali, outsK_own, putOuts_nil, putOuts_cons, optJ_some, callR_ok, callR_exc, callA_some, callN_some, sCall_at, endRun_nx, endRun_v, endRun_exc, endRun_ali, endO_frz, endO_own, outE_0, outE_1, outE_2, outE_3, outE_4, outE_5, outE_6, outV_at, seqK_some, sqK_some, seqB_lst, seqB_tup, seqB_ktp, seqB_scr, wSq_at, wRg1_at, rg2K_int, wRg2_at, zip2_some, zipK_some, wZip_at, bd_nm, bd_tup, bd_ktp, bNames_nil, bNames_cons, lpB_some, sFor_at, lcF_some, lcB_some, lcE_ok, lcH_some, sLc_at, sYes_at, hideS_nil, hideS_cons, hideK_none, hideK_frz, hideK_own, wipeE_nil, wipeE_cons, restE_nil, restE_cons, putSlot_at, mutP_some, mutF_own, mutQ_some, mutK_own, sMut_at, isLst_lst, extE_own, extD_lst, extK_own, sExt_at, sDisp_at, flat2_nil, flat2_cons, putQ_some, putE_own, putD_some, putF_some, putK_some, sPut_at, sPar_at, parB_some, parK_some, normB_nil, normB_cons, normBC_v, bindVs_nil, bindVs_frz, bindVs_own, setTK_some, sSetT_at, raiseK_some, sRaise_at, if_true, if_false, Bool.true_and, Bool.and_true, Bool.false_and, Bool.and_false, Bool.not_true, Bool.not_false, Bool.false_eq_true, reduceIte, List.length_cons, List.length_nil, List.map_cons, List.map_nil, List.contains_cons, List.contains_nil, List.any_nil, List.any_cons, beq_self_eq_true, Bool.true_or, Bool.or_true, Bool.false_or, Bool.or_false, isAli, List.nodup_nil, List.nodup_cons, List.not_mem_nil, not_false_eq_true, and_true, true_and, and_self, decide_true, decide_false, Nat.reduceAdd, Nat.reduceLeDiff, Nat.reduceBEq, Nat.reduceEqDiff, Nat.reduceLT, Int.reducePow, Int.reduceNeg, Int.reduceLT, Int.reduceLE, List.append_nil, List.nil_append, List.cons_append, List.isEmpty_cons, List.isEmpty_nil, decide_eq_true_eq]
theorem L13 (t m ns) : ∃ f, cl t (m + 3) 13 [fz (.scr ns)] = .ok true (penD ns 0 0 0 f) [some (fz (.scr ns))] := by
  rw [q13, g13]
  obtain ⟨ρ', e, f, y, hρ⟩ := loopS_inv (bd := (Tgt.nm 2).bd) (body := sSeq (sSet 1 (sOp (op2 dMod) [(sOp (op1 fInt) [(sOp (op2 dAdd) [(sOp (op2 dMul) [(sVar 1), (sLit (.int 47))]), (sVar 2)])]), (sLit (.int 1000000007))])) sNil)
    (fun _ ρ => ∃ (f : Int) (y : Option Val), ρ = [some (fz (.scr ns)), some (fz (.int f)), y]) (xs := ns.map .int) (ρ := [some (fz (.scr ns)), some (fz (.int 0)), none]) (fun j x ρ hj ⟨f, y, hρ⟩ => by
      rw [List.getElem?_map] at hj
      obtain ⟨i, _, rfl⟩ := Option.map_eq_some_iff.mp hj
      subst hρ
      refine ⟨[some (fz (.scr ns)), some (fz (.int ((f * 47 + i).fmod 1000000007))), some (fz (.int i))], ?_, _, _, rfl⟩
      simp only [m47, add_ii, fInt_i, md4, bind_ok, bind_exc, toS_ok, toS_exc, seq_nx, seq_rt, seq_bk, seq_ct, seq_exc, loop_nx, loop_ct, loop_bk, loop_rt, loop_exc, nox_ok, sVar_at, varR_frz, varR_own, sLit_at, get_0, get_s, set_0, set_s, der_v, der_ali, slotO_s, frz1_v, frz1_ali, frzO_own, frzO_frz, frzs_nil, frzC_some, frzs_v, frzD_some, frzs_ali, sArgs_nil, sArgs_cons, fin_some, op1K_some, op2K_some, sOp1_at, sOp2_at, opNK_some, sOpIsi_at, sOpSl0_at, sOpSl1_at, sOpSl2_at, sOpSl3_at, ders_nil, dersC_some, ders_cons, truF_some, truK_some, sTruth_at, sTNot_at, sTAnd_at, sTOr_at, sIte_at, sAnd_at, sOr_at, andK_bl, orK_bl, sNot_at, notK_bl, truth_bl, truth_int, truth_lst, truth_tup, truth_non, sChain_at, chK_int, sNil_at, sSeq_at, sIf_at, sRet_at, sDrop_at, setF_some, setK_own, setK_frz, setK_ali, sSet_at, sAug_at, augK_int, tupK_0, lstK_0, tupK_1, lstK_1, tupK_2, lstK_2, tupK_3, lstK_3, tupK_4, lstK_4, tupK_5, lstK_5, tupK_6, lstK_6, tupK_7, lstK_7, tupK_8, lstK_8, tupK_9, lstK_9, tupK_10, lstK_10, tupK_11, lstK_11, tupK_12, lstK_12, tupK_13, lstK_13, tupK_14, lstK_14, tupK_15, lstK_15, tupK_16, lstK_16, sTup_at, sLst_at, sNewD_at, pinL_at, normA_nil, normA_cons, normC_frz, normC_own, normC_ali, argV_frz, argV_ownP, argV_ali, argO_own, argO_frz, argC_some, argsV_nil, argsV_cons, outsOf_nil, outsOf_v, outsOf_ali, outsK_own, putOuts_nil, putOuts_cons, optJ_some, callR_ok, callR_exc, callA_some, callN_some, sCall_at, endRun_nx, endRun_v, endRun_exc, endRun_ali, endO_frz, endO_own, outE_0, outE_1, outE_2, outE_3, outE_4, outE_5, outE_6, outV_at, seqK_some, sqK_some, seqB_lst, seqB_tup, seqB_ktp, seqB_scr, wSq_at, wRg1_at, rg2K_int, wRg2_at, zip2_some, zipK_some, wZip_at, bd_nm, bd_tup, bd_ktp, bNames_nil, bNames_cons, lpB_some, sFor_at, lcF_some, lcB_some, lcE_ok, lcH_some, sLc_at, sYes_at, hideS_nil, hideS_cons, hideK_none, hideK_frz, hideK_own, wipeE_nil, wipeE_cons, restE_nil, restE_cons, putSlot_at, mutP_some, mutF_own, mutQ_some, mutK_own, sMut_at, isLst_lst, extE_own, extD_lst, extK_own, sExt_at, sDisp_at, flat2_nil, flat2_cons, putQ_some, putE_own, putD_some, putF_some, putK_some, sPut_at, sPar_at, parB_some, parK_some, normB_nil, normB_cons, normBC_v, bindVs_nil, bindVs_frz, bindVs_own, setTK_some, sSetT_at, raiseK_some, sRaise_at, if_true, if_false, Bool.true_and, Bool.and_true, Bool.false_and, Bool.and_false, Bool.not_true, Bool.not_false, Bool.false_eq_true, reduceIte, List.length_cons, List.length_nil, List.map_cons, List.map_nil, List.contains_cons, List.contains_nil, List.any_nil, List.any_cons, beq_self_eq_true, Bool.true_or, Bool.or_true, Bool.false_or, Bool.or_false, isAli, List.nodup_nil, List.nodup_cons, List.not_mem_nil, not_false_eq_true, and_true, true_and, and_self, decide_true, decide_false, Nat.reduceAdd, Nat.reduceLeDiff, Nat.reduceBEq, Nat.reduceEqDiff, Nat.reduceLT, Int.reducePow, Int.reduceNeg, Int.reduceLT, Int.reduceLE, List.append_nil, List.nil_append, List.cons_append, List.isEmpty_cons, List.isEmpty_nil, decide_eq_true_eq]) ⟨0, none, rfl⟩
  subst hρ
  refine ⟨f, ?_⟩
  have ls : fList (.scr ns) = some (true, .lst (ns.map .int)) := rfl
  have pk : ∀ ρ, pairsK (some ([.str "cells", .lst (ns.map .int), .str "at", .int 0, .str "digits", .int 0, .str "count", .int 0, .str "fold", .int f], ρ)) = .ok (.v true (penD ns 0 0 0 f)) ρ := fun ρ => by kernel_rfl
  simp only [e, ls, pk, bind_ok, bind_exc, toS_ok, toS_exc, seq_nx, seq_rt, seq_bk, seq_ct, seq_exc, loop_nx, loop_ct, loop_bk, loop_rt, loop_exc, nox_ok, sVar_at, varR_frz, varR_own, sLit_at, get_0, get_s, set_0, set_s, der_v, der_ali, slotO_s, frz1_v, frz1_ali, frzO_own, frzO_frz, frzs_nil, frzC_some, frzs_v, frzD_some, frzs_ali, sArgs_nil, sArgs_cons, fin_some, op1K_some, op2K_some, sOp1_at, sOp2_at, opNK_some, sOpIsi_at, sOpSl0_at, sOpSl1_at, sOpSl2_at, sOpSl3_at, ders_nil, dersC_some, ders_cons, truF_some, truK_some, sTruth_at, sTNot_at, sTAnd_at, sTOr_at, sIte_at, sAnd_at, sOr_at, andK_bl, orK_bl, sNot_at, notK_bl, truth_bl, truth_int, truth_lst, truth_tup, truth_non, sChain_at, chK_int, sNil_at, sSeq_at, sIf_at, sRet_at, sDrop_at, setF_some, setK_own, setK_frz, setK_ali, sSet_at, sAug_at, augK_int, tupK_0, lstK_0, tupK_1, lstK_1, tupK_2, lstK_2, tupK_3, lstK_3, tupK_4, lstK_4, tupK_5, lstK_5, tupK_6, lstK_6, tupK_7, lstK_7, tupK_8, lstK_8, tupK_9, lstK_9, tupK_10, lstK_10, tupK_11, lstK_11, tupK_12, lstK_12, tupK_13, lstK_13, tupK_14, lstK_14, tupK_15, lstK_15, tupK_16, lstK_16, sTup_at, sLst_at, sNewD_at, pinL_at, normA_nil, normA_cons, normC_frz, normC_own, normC_ali, argV_frz, argV_ownP, argV_ali, argO_own, argO_frz, argC_some, argsV_nil, argsV_cons, outsOf_nil, outsOf_v, outsOf_ali, outsK_own, putOuts_nil, putOuts_cons, optJ_some, callR_ok, callR_exc, callA_some, callN_some, sCall_at, endRun_nx, endRun_v, endRun_exc, endRun_ali, endO_frz, endO_own, outE_0, outE_1, outE_2, outE_3, outE_4, outE_5, outE_6, outV_at, seqK_some, sqK_some, seqB_lst, seqB_tup, seqB_ktp, seqB_scr, wSq_at, wRg1_at, rg2K_int, wRg2_at, zip2_some, zipK_some, wZip_at, bd_nm, bd_tup, bd_ktp, bNames_nil, bNames_cons, lpB_some, sFor_at, lcF_some, lcB_some, lcE_ok, lcH_some, sLc_at, sYes_at, hideS_nil, hideS_cons, hideK_none, hideK_frz, hideK_own, wipeE_nil, wipeE_cons, restE_nil, restE_cons, putSlot_at, mutP_some, mutF_own, mutQ_some, mutK_own, sMut_at, isLst_lst, extE_own, extD_lst, extK_own, sExt_at, sDisp_at, flat2_nil, flat2_cons, putQ_some, putE_own, putD_some, putF_some, putK_some, sPut_at, sPar_at, parB_some, parK_some, normB_nil, normB_cons, normBC_v, bindVs_nil, bindVs_frz, bindVs_own, setTK_some, sSetT_at, raiseK_some, sRaise_at, if_true, if_false, Bool.true_and, Bool.and_true, Bool.false_and, Bool.and_false, Bool.not_true, Bool.not_false, Bool.false_eq_true, reduceIte, List.length_cons, List.length_nil, List.map_cons, List.map_nil, List.contains_cons, List.contains_nil, List.any_nil, List.any_cons, beq_self_eq_true, Bool.true_or, Bool.or_true, Bool.false_or, Bool.or_false, isAli, List.nodup_nil, List.nodup_cons, List.not_mem_nil, not_false_eq_true, and_true, true_and, and_self, decide_true, decide_false, Nat.reduceAdd, Nat.reduceLeDiff, Nat.reduceBEq, Nat.reduceEqDiff, Nat.reduceLT, Int.reducePow, Int.reduceNeg, Int.reduceLT, Int.reduceLE, List.append_nil, List.nil_append, List.cons_append, List.isEmpty_cons, List.isEmpty_nil, decide_eq_true_eq]
end Hd

namespace Hd
open PySem PySem.Spec PyProof.Rows Ev
theorem all2 {p : List Int → List Int → Bool} (h : (rows.all fun a => rows.all fun b => p a b) = true) {a b} (ha : a ∈ rows) (hb : b ∈ rows) : p a b = true :=
  List.all_eq_true.mp (List.all_eq_true.mp h a ha) b hb
theorem P1 {a b} (ha : a ∈ rows) (hb : b ∈ rows) : bpr a b = bprod a b := of_decide_eq_true (all2 (p := fun a b => decide (bpr a b = bprod a b)) (by decide +kernel) ha hb)
theorem P2 {a b} (ha : a ∈ rows) (hb : b ∈ rows) : bprod b a = bprod a b := of_decide_eq_true (all2 (p := fun a b => decide (bprod b a = bprod a b)) (by decide +kernel) ha hb)
theorem P3 {a} (ha : a ∈ rows) : bprod a a = 0 := of_decide_eq_true (List.all_eq_true.mp (show (rows.all fun a => decide (bprod a a = 0)) = true by decide +kernel) a ha)
theorem P4 {a b} (ha : a ∈ rows) (hb : b ∈ rows) : fwr a b = fval a b := of_decide_eq_true (all2 (p := fun a b => decide (fwr a b = fval a b)) (by decide +kernel) ha hb)
def qd (r : List Int) : Int := (r.sum * (r.sum - 1)).fdiv 2
theorem PQ {a b} (ha : a ∈ rows) (hb : b ∈ rows) : (qd (rsum a b)).fmod 2 = (qd a + qd b + bprod a b).fmod 2 := of_decide_eq_true (all2 (p := fun a b => decide ((qd (rsum a b)).fmod 2 = (qd a + qd b + bprod a b).fmod 2)) (by decide +kernel) ha hb)
theorem dot_lin : ∀ (f a b : List Int), f.length = a.length → a.length = b.length → (∀ x ∈ f, x = 0 ∨ x = 1) → ∃ z, dot f (rsum a b) + 2 * z = dot f a + dot f b
  | [], [], [], _, _, _ => ⟨0, by decide⟩
  | x :: f, y :: a, w :: b, h1, h2, h3 => by
    obtain ⟨z, e⟩ := dot_lin f a b (by simpa using h1) (by simpa using h2) fun u hu => h3 u (List.mem_cons_of_mem _ hu)
    have c : ∀ u v : Int, ∀ p q : List Int, dot (u :: p) (v :: q) = u * v + dot p q := fun u v p q => by simp [dot]
    have cr : rsum (y :: a) (w :: b) = (y + w).fmod 2 :: rsum a b := by simp [rsum]
    rw [cr, c, c, c]
    rw [Int.fmod_eq_emod_of_nonneg _ (show (0 : Int) ≤ 2 by decide)]
    rcases h3 x List.mem_cons_self with hx | hx
    · refine ⟨z, ?_⟩
      rw [hx]
      omega
    · refine ⟨z + (y + w) / 2, ?_⟩
      rw [hx]
      omega
theorem P5 {f a b} (hf : f ∈ rows) (ha : a ∈ rows) (hb : b ∈ rows) : fval f (rsum a b) = (fval f a + fval f b + bprod a b).fmod 2 := by
  obtain ⟨z, e⟩ := dot_lin f a b (by rw [(rows_row f hf).len, (rows_row a ha).len]) (by rw [(rows_row b hb).len, (rows_row a ha).len]) (rows_row f hf).bit
  have q := PQ ha hb
  have m : ∀ x : Int, x.fmod 2 = x % 2 := fun x => Int.fmod_eq_emod_of_nonneg _ (by decide)
  have u : ∀ r, fval f r = (qd r + dot f r) % 2 := fun r => by
    show (qd r + dot f r).fmod 2 = _
    rw [m]
  rw [u, u, u, m]
  rw [m, m] at q
  omega
theorem eq_self {i : Int} : dEq (.int i) (.int i) = some (false, .bl true) := by
  rw [eq_ii, decide_eq_true rfl]
theorem md_2 {v : Int} : dMod (.int v) (.int 2) = some (false, .int (v.fmod 2)) := mod_ii (by decide)
theorem L26 (t m ns a d c f) (h : PenOk ns a d c f) : ∃ a' d' c' f', PenOk ns a' d' c' f' ∧ cl t (m + 12) 26 [⟨.own, penD ns a d c f⟩] = .ok false (.bl true) [some ⟨.own, penD ns a' d' c' f'⟩] := by
  have rl : 0 < (rows.map tI).length ∧ (rows.map tI).length < 1000000 := by decide +kernel
  obtain ⟨x1, a1, d1, c1, f1, h1, m1, e1, _⟩ := L15 t (m + 7) ns a d c f (rows.map tI) h rl
  obtain ⟨x2, a2, d2, c2, f2, h2, m2, e2, _⟩ := L15 t (m + 7) ns a1 d1 c1 f1 (rows.map tI) h1 rl
  obtain ⟨x3, a3, d3, c3, f3, h3, m3, e3, _⟩ := L15 t (m + 7) ns a2 d2 c2 f2 (rows.map tI) h2 rl
  obtain ⟨p, hp, rfl⟩ := List.mem_map.mp m1
  obtain ⟨q, hq, rfl⟩ := List.mem_map.mp m2
  obtain ⟨g, hg, rfl⟩ := List.mem_map.mp m3
  have Rp := rows_row p hp
  have Rq := rows_row q hq
  have Rg := rows_row g hg
  have Rs := rsum_row Rp Rq
  refine ⟨a3, d3, c3, f3, h3, ?_⟩
  rw [q26, g26]
  simp only [L23 t (m + 7), e1, e2, e3, fList_t,
    L6 t (m + 4) p q ⟨.own, .lst (dI p)⟩ (fz (tI q)) Rp Rq .o .t, L6 t (m + 4) q p (fz (tI q)) (fz (tI p)) Rq Rp .t .t, L6 t (m + 4) p q (fz (tI p)) ⟨.own, .lst (dI q)⟩ Rp Rq .t .o, L6 t (m + 4) p p (fz (tI p)) (fz (tI p)) Rp Rp .t .t, L6 t (m + 4) p q (fz (tI p)) (fz (tI q)) Rp Rq .t .t,
    L21 t (m + 8) p q Rp Rq, P1 hp hq, P2 hp hq, P3 hp, L16i t (m + 8), ne_self,
    L8 t (m + 4) g p ⟨.own, .lst (dI g)⟩ (fz (tI p)) Rg Rp .o .t, L8 t (m + 4) g p (fz (tI g)) (fz (tI p)) Rg Rp .t .t, L8 t (m + 4) g q (fz (tI g)) (fz (tI q)) Rg Rq .t .t, L8 t (m + 4) g (rsum p q) (fz (tI g)) ⟨.own, .lst (dI (rsum p q))⟩ Rg Rs .t .o,
    L22 t (m + 8) g p Rg Rp, P4 hg hp, L24 t (m + 8) p q Rp Rq, add_ii, md_2, P5 hg hp hq, eq_self, bind_ok, bind_exc, toS_ok, toS_exc, seq_nx, seq_rt, seq_bk, seq_ct, seq_exc, loop_nx, loop_ct, loop_bk, loop_rt, loop_exc, nox_ok, sVar_at, varR_frz, varR_own, sLit_at, get_0, get_s, set_0, set_s, der_v, der_ali, slotO_s, frz1_v, frz1_ali, frzO_own, frzO_frz, frzs_nil, frzC_some, frzs_v, frzD_some, frzs_ali, sArgs_nil, sArgs_cons, fin_some, op1K_some, op2K_some, sOp1_at, sOp2_at, opNK_some, sOpIsi_at, sOpSl0_at, sOpSl1_at, sOpSl2_at, sOpSl3_at, ders_nil, dersC_some, ders_cons, truF_some, truK_some, sTruth_at, sTNot_at, sTAnd_at, sTOr_at, sIte_at, sAnd_at, sOr_at, andK_bl, orK_bl, sNot_at, notK_bl, truth_bl, truth_int, truth_lst, truth_tup, truth_non, sChain_at, chK_int, sNil_at, sSeq_at, sIf_at, sRet_at, sDrop_at, setF_some, setK_own, setK_frz, setK_ali, sSet_at, sAug_at, augK_int, tupK_0, lstK_0, tupK_1, lstK_1, tupK_2, lstK_2, tupK_3, lstK_3, tupK_4, lstK_4, tupK_5, lstK_5, tupK_6, lstK_6, tupK_7, lstK_7, tupK_8, lstK_8, tupK_9, lstK_9, tupK_10, lstK_10, tupK_11, lstK_11, tupK_12, lstK_12, tupK_13, lstK_13, tupK_14, lstK_14, tupK_15, lstK_15, tupK_16, lstK_16, sTup_at, sLst_at, sNewD_at, pinL_at, normA_nil, normA_cons, normC_frz, normC_own, normC_ali, argV_frz, argV_ownP, argV_ali, argO_own, argO_frz, argC_some, argsV_nil, argsV_cons, outsOf_nil, outsOf_v, outsOf_ali, outsK_own, putOuts_nil, putOuts_cons, optJ_some, callR_ok, callR_exc, callA_some, callN_some, sCall_at, endRun_nx, endRun_v, endRun_exc, endRun_ali, endO_frz, endO_own, outE_0, outE_1, outE_2, outE_3, outE_4, outE_5, outE_6, outV_at, seqK_some, sqK_some, seqB_lst, seqB_tup, seqB_ktp, seqB_scr, wSq_at, wRg1_at, rg2K_int, wRg2_at, zip2_some, zipK_some, wZip_at, bd_nm, bd_tup, bd_ktp, bNames_nil, bNames_cons, lpB_some, sFor_at, lcF_some, lcB_some, lcE_ok, lcH_some, sLc_at, sYes_at, hideS_nil, hideS_cons, hideK_none, hideK_frz, hideK_own, wipeE_nil, wipeE_cons, restE_nil, restE_cons, putSlot_at, mutP_some, mutF_own, mutQ_some, mutK_own, sMut_at, isLst_lst, extE_own, extD_lst, extK_own, sExt_at, sDisp_at, flat2_nil, flat2_cons, putQ_some, putE_own, putD_some, putF_some, putK_some, sPut_at, sPar_at, parB_some, parK_some, normB_nil, normB_cons, normBC_v, bindVs_nil, bindVs_frz, bindVs_own, setTK_some, sSetT_at, raiseK_some, sRaise_at, if_true, if_false, Bool.true_and, Bool.and_true, Bool.false_and, Bool.and_false, Bool.not_true, Bool.not_false, Bool.false_eq_true, reduceIte, List.length_cons, List.length_nil, List.map_cons, List.map_nil, List.contains_cons, List.contains_nil, List.any_nil, List.any_cons, beq_self_eq_true, Bool.true_or, Bool.or_true, Bool.false_or, Bool.or_false, isAli, List.nodup_nil, List.nodup_cons, List.not_mem_nil, not_false_eq_true, and_true, true_and, and_self, decide_true, decide_false, Nat.reduceAdd, Nat.reduceLeDiff, Nat.reduceBEq, Nat.reduceEqDiff, Nat.reduceLT, Int.reducePow, Int.reduceNeg, Int.reduceLT, Int.reduceLE, List.append_nil, List.nil_append, List.cons_append, List.isEmpty_cons, List.isEmpty_nil, decide_eq_true_eq]
end Hd

namespace Hd
open PySem PySem.Spec PyProof.Rows Ev
abbrev row0 : D := .tup [.int 0, .int 1, .int 0, .int 1, .int 1, .int 0]
def bads : List D := [.non, .int 3, tI [0, 1, 0, 1, 1], tI [0, 1, 0, 1, 1, 0, 0], tI [0, 1, 0, 1, 1, 2], tI [0, 1, 0, 1, 1, -1], .tup (dI [0, 1, 0, 1, 1] ++ [.non]), .tup (dI [0, 1, 0, 1, 1] ++ [.bl true]), .str "010101"]
def badE : En → Ev.R Opd := (sLst [(sLit .non), (sLit (.int 3)), (sOp opSl2 [(sVar 1), (sLit (.int 5))]), (sOp (op2 dAdd) [(sVar 1), (sTup [(sLit (.int 0))])]), (sOp (op2 dAdd) [(sOp opSl2 [(sVar 1), (sLit (.int 5))]), (sTup [(sLit (.int 2))])]), (sOp (op2 dAdd) [(sOp opSl2 [(sVar 1), (sLit (.int 5))]), (sTup [(sOp (op1 dNeg) [(sLit (.int 1))])])]), (sOp (op2 dAdd) [(sOp opSl2 [(sVar 1), (sLit (.int 5))]), (sTup [(sLit .non)])]), (sOp (op2 dAdd) [(sOp opSl2 [(sVar 1), (sLit (.int 5))]), (sTup [(sLit (.bl true))])]), (sLit (.str "010101"))])
def g27r (C L Hc : Nat → List Val → Rf) : SS := (sSeq (sIf (sTOr (sTruth (sOp (op2 dNe) [(sFault [2] sf (sCall (pinL [0, 1]) (L 6) [(sVar 2), (sVar 2)]) (csu Hc)), (sTup [(sLit (.str "row")), (sLit (.str "one")), (sOp (op1 fRepr) [(sVar 2)])])])) (sTruth (sOp (op2 dNe) [(sCall (pinL [0, 1, 2]) (C 28) [(sLit (.fn 6)), (sVar 1), (sVar 2)]), (sTup [(sLit (.str "row")), (sLit (.str "other")), (sOp (op1 fRepr) [(sVar 2)])])]))) (sSeq (sRet (sLit (.bl false)))
  sNil) sNil)
  (sSeq (sRet (sAnd (sOp (op2 dEq) [(sFault [2] sf (sCall (pinL [0, 1]) (L 8) [(sVar 2), (sVar 2)]) (csu Hc)), (sTup [(sLit (.str "row")), (sLit (.str "form")), (sOp (op1 fRepr) [(sVar 2)])])]) (sOp (op2 dEq) [(sCall (pinL [0, 1, 2]) (C 28) [(sLit (.fn 8)), (sVar 1), (sVar 2)]), (sTup [(sLit (.str "row")), (sLit (.str "row")), (sOp (op1 fRepr) [(sVar 2)])])])))
  sNil))
theorem g27_is (C L Hc) : g27 C L Hc = sSeq (sSet 1 (sTup [(sLit (.int 0)), (sLit (.int 1)), (sLit (.int 0)), (sLit (.int 1)), (sLit (.int 1)), (sLit (.int 0))])) (sSeq (sSet 2 (sCall (pinL [0, 1]) (C 15) [(sVar 0), badE])) (g27r C L Hc)) := (rfl)
theorem badE_at (P : D) : badE [some ⟨.own, P⟩, some (fz row0), none] = .ok (.v true (.lst bads)) [some ⟨.own, P⟩, some (fz row0), none] := by kernel_rfl
theorem R27 (m : Nat) (P : D) : ∀ b ∈ bads, g27r (cl true (m + 19)) (cl false (m + 17)) (pg.hotP.call (m + 17)) [some ⟨.own, P⟩, some (fz row0), some (fz b)] = .rt (.v false (.bl true)) [some ⟨.own, P⟩, some (fz row0), some (fz b)] :=
  fm (by kernel_rfl) <| fm (by kernel_rfl) <| fm (by kernel_rfl) <| fm (by kernel_rfl) <| fm (by kernel_rfl) <| fm (by kernel_rfl) <| fm (by kernel_rfl) <| fm (by kernel_rfl) <| fm (by kernel_rfl) <| fn
theorem L27 (m ns a d c f) (h : PenOk ns a d c f) : ∃ a' d' c' f', PenOk ns a' d' c' f' ∧ cl true (m + 20) 27 [⟨.own, penD ns a d c f⟩] = .ok false (.bl true) [some ⟨.own, penD ns a' d' c' f'⟩] := by
  obtain ⟨x, a1, d1, c1, f1, h1, m1, _, e1⟩ := L15 true (m + 15) ns a d c f bads h (by decide)
  refine ⟨a1, d1, c1, f1, h1, ?_⟩
  rw [q27 (m + 17), g27_is]
  simp only [badE_at, e1, R27 m _ x m1, bind_ok, bind_exc, toS_ok, toS_exc, seq_nx, seq_rt, seq_bk, seq_ct, seq_exc, loop_nx, loop_ct, loop_bk, loop_rt, loop_exc, nox_ok, sVar_at, varR_frz, varR_own, sLit_at, get_0, get_s, set_0, set_s, der_v, der_ali, slotO_s, frz1_v, frz1_ali, frzO_own, frzO_frz, frzs_nil, frzC_some, frzs_v, frzD_some, frzs_ali, sArgs_nil, sArgs_cons, fin_some, op1K_some, op2K_some, sOp1_at, sOp2_at, opNK_some, sOpIsi_at, sOpSl0_at, sOpSl1_at, sOpSl2_at, sOpSl3_at, ders_nil, dersC_some, ders_cons, truF_some, truK_some, sTruth_at, sTNot_at, sTAnd_at, sTOr_at, sIte_at, sAnd_at, sOr_at, andK_bl, orK_bl, sNot_at, notK_bl, truth_bl, truth_int, truth_lst, truth_tup, truth_non, sChain_at, chK_int, sNil_at, sSeq_at, sIf_at, sRet_at, sDrop_at, setF_some, setK_own, setK_frz, setK_ali, sSet_at, sAug_at, augK_int, tupK_0, lstK_0, tupK_1, lstK_1, tupK_2, lstK_2, tupK_3, lstK_3, tupK_4, lstK_4, tupK_5, lstK_5, tupK_6, lstK_6, tupK_7, lstK_7, tupK_8, lstK_8, tupK_9, lstK_9, tupK_10, lstK_10, tupK_11, lstK_11, tupK_12, lstK_12, tupK_13, lstK_13, tupK_14, lstK_14, tupK_15, lstK_15, tupK_16, lstK_16, sTup_at, sLst_at, sNewD_at, pinL_at, normA_nil, normA_cons, normC_frz, normC_own, normC_ali, argV_frz, argV_ownP, argV_ali, argO_own, argO_frz, argC_some, argsV_nil, argsV_cons, outsOf_nil, outsOf_v, outsOf_ali, outsK_own, putOuts_nil, putOuts_cons, optJ_some, callR_ok, callR_exc, callA_some, callN_some, sCall_at, endRun_nx, endRun_v, endRun_exc, endRun_ali, endO_frz, endO_own, outE_0, outE_1, outE_2, outE_3, outE_4, outE_5, outE_6, outV_at, seqK_some, sqK_some, seqB_lst, seqB_tup, seqB_ktp, seqB_scr, wSq_at, wRg1_at, rg2K_int, wRg2_at, zip2_some, zipK_some, wZip_at, bd_nm, bd_tup, bd_ktp, bNames_nil, bNames_cons, lpB_some, sFor_at, lcF_some, lcB_some, lcE_ok, lcH_some, sLc_at, sYes_at, hideS_nil, hideS_cons, hideK_none, hideK_frz, hideK_own, wipeE_nil, wipeE_cons, restE_nil, restE_cons, putSlot_at, mutP_some, mutF_own, mutQ_some, mutK_own, sMut_at, isLst_lst, extE_own, extD_lst, extK_own, sExt_at, sDisp_at, flat2_nil, flat2_cons, putQ_some, putE_own, putD_some, putF_some, putK_some, sPut_at, sPar_at, parB_some, parK_some, normB_nil, normB_cons, normBC_v, bindVs_nil, bindVs_frz, bindVs_own, setTK_some, sSetT_at, raiseK_some, sRaise_at, if_true, if_false, Bool.true_and, Bool.and_true, Bool.false_and, Bool.and_false, Bool.not_true, Bool.not_false, Bool.false_eq_true, reduceIte, List.length_cons, List.length_nil, List.map_cons, List.map_nil, List.contains_cons, List.contains_nil, List.any_nil, List.any_cons, beq_self_eq_true, Bool.true_or, Bool.or_true, Bool.false_or, Bool.or_false, isAli, List.nodup_nil, List.nodup_cons, List.not_mem_nil, not_false_eq_true, and_true, true_and, and_self, decide_true, decide_false, Nat.reduceAdd, Nat.reduceLeDiff, Nat.reduceBEq, Nat.reduceEqDiff, Nat.reduceLT, Int.reducePow, Int.reduceNeg, Int.reduceLT, Int.reduceLE, List.append_nil, List.nil_append, List.cons_append, List.isEmpty_cons, List.isEmpty_nil, decide_eq_true_eq]
end Hd

namespace Hd
open PySem PySem.Spec PyProof.Rows Ev
theorem ix_eq : True := trivial
def pyI (r : List Int) : PyData := .tuple (r.map .int)
theorem toPys_I : ∀ r : List Int, toPys (dI r) = some (r.map .int)
  | [] => rfl
  | i :: r => by
    show (match toPy (.int i) with | some p => (match toPys (dI r) with | some ps => some (p :: ps) | none => none) | none => none) = _
    rw [toPys_I r]
    rfl
theorem toPy_I (r : List Int) : toPy (tI r) = some (pyI r) := by
  show (toPys (dI r)).map PyData.tuple = _
  rw [toPys_I]
  rfl
theorem zipPy_I : ∀ xs : List (List Int), zipPy (xs.map tI) = some (xs.map fun r => (tI r, pyI r))
  | [] => rfl
  | r :: xs => by
    show (match toPy (tI r) with | some p => (match zipPy (xs.map tI) with | some l => some ((tI r, p) :: l) | none => none) | none => none) = _
    rw [toPy_I, zipPy_I xs]
    rfl
/-- what is sorted already -/
theorem srt_I {xs : List (List Int)} (h1 : sortOk (xs.map pyI) = true) (h2 : xs.Pairwise fun a b => PySem.W.dataLe false pyI a b = true) : srtL (xs.map tI) = some (xs.map tI) := by
  unfold srtL
  rw [zipPy_I]
  dsimp only
  have e : (xs.map fun r => (tI r, pyI r)).map (·.2) = xs.map pyI := by rw [List.map_map]; rfl
  rw [e, if_pos h1]
  unfold sortD
  have hp : (xs.map fun r => (tI r, pyI r)).Pairwise fun a b => PySem.W.dataLe false (fun p : D × PyData => p.2) a b = true := List.pairwise_map.mpr h2
  rw [List.mergeSort_of_pairwise hp, List.map_map]
  rfl
theorem sortX_I {xs : List (List Int)} (h1 : sortOk (xs.map pyI) = true) (h2 : xs.Pairwise fun a b => PySem.W.dataLe false pyI a b = true) : fSortX (.lst (xs.map tI)) = some (true, .lst (xs.map tI)) := by
  show (match srtL (xs.map tI) with | some ys => some (true, D.lst ys) | none => none) = _
  rw [srt_I h1 h2]
def odds : List (List Int) := rows.filter isOdd
def evens : List (List Int) := rows.filter fun r => !isOdd r
def cntz (f : List Int) : Nat := (rows.filter fun r => decide (fwr f r = 0)).length
theorem odds_is : rows.filter (fun f => decide ((cntz f : Int) = 28)) = odds := by decide +kernel
theorem so1 : sortOk (odds.map pyI) = true := by decide +kernel
theorem so2 : odds.Pairwise fun a b => PySem.W.dataLe false pyI a b = true := by decide +kernel
theorem se1 : sortOk (evens.map pyI) = true := by decide +kernel
theorem se2 : evens.Pairwise fun a b => PySem.W.dataLe false pyI a b = true := by decide +kernel
def oneIf (f r : List Int) : Option D := if decide (fwr f r = 0) then some (.int 1) else none
theorem fm_len (p : List Int → Bool) : ∀ l : List (List Int), (l.filterMap fun r => if p r = true then some (D.int 1) else none).length = (l.filter p).length
  | [] => rfl
  | a :: l => by
    rw [List.filterMap_cons, List.filter_cons]
    cases h : p a <;> simp [fm_len p l]
theorem L25 (t m) : cl t (m + 5) 25 [] = .ok true (.lst (odds.map tI)) [] := by
  have it1 : ∀ (f : List Int), Row f → ∀ r ∈ rows, lcB (sTruth (sOp (op2 dEq) [(sCall (pinL [0, 1]) (cl t (m + 4) 22) [(sVar 0), (sVar 1)]), (sLit (.int 0))])) (sLit (.int 1)) [1] ((Tgt.nm 1).bd (tI r) [some (fz (tI f)), none]) = .ok (oneIf f r) [some (fz (tI f)), none] := fun f hf r hr => by
    unfold oneIf
    simp only [L22 t (m + 1) f r hf (rows_row r hr), eq_ii, bind_ok, bind_exc, toS_ok, toS_exc, seq_nx, seq_rt, seq_bk, seq_ct, seq_exc, loop_nx, loop_ct, loop_bk, loop_rt, loop_exc, nox_ok, sVar_at, varR_frz, varR_own, sLit_at, get_0, get_s, set_0, set_s, der_v, der_ali, slotO_s, frz1_v, frz1_ali, frzO_own, frzO_frz, frzs_nil, frzC_some, frzs_v, frzD_some, frzs_ali, sArgs_nil, sArgs_cons, fin_some, op1K_some, op2K_some, sOp1_at, sOp2_at, opNK_some, sOpIsi_at, sOpSl0_at, sOpSl1_at, sOpSl2_at, sOpSl3_at, ders_nil, dersC_some, ders_cons, truF_some, truK_some, sTruth_at, sTNot_at, sTAnd_at, sTOr_at, sIte_at, sAnd_at, sOr_at, andK_bl, orK_bl, sNot_at, notK_bl, truth_bl, truth_int, truth_lst, truth_tup, truth_non, sChain_at, chK_int, sNil_at, sSeq_at, sIf_at, sRet_at, sDrop_at, setF_some, setK_own, setK_frz, setK_ali, sSet_at, sAug_at, augK_int, tupK_0, lstK_0, tupK_1, lstK_1, tupK_2, lstK_2, tupK_3, lstK_3, tupK_4, lstK_4, tupK_5, lstK_5, tupK_6, lstK_6, tupK_7, lstK_7, tupK_8, lstK_8, tupK_9, lstK_9, tupK_10, lstK_10, tupK_11, lstK_11, tupK_12, lstK_12, tupK_13, lstK_13, tupK_14, lstK_14, tupK_15, lstK_15, tupK_16, lstK_16, sTup_at, sLst_at, sNewD_at, pinL_at, normA_nil, normA_cons, normC_frz, normC_own, normC_ali, argV_frz, argV_ownP, argV_ali, argO_own, argO_frz, argC_some, argsV_nil, argsV_cons, outsOf_nil, outsOf_v, outsOf_ali, outsK_own, putOuts_nil, putOuts_cons, optJ_some, callR_ok, callR_exc, callA_some, callN_some, sCall_at, endRun_nx, endRun_v, endRun_exc, endRun_ali, endO_frz, endO_own, outE_0, outE_1, outE_2, outE_3, outE_4, outE_5, outE_6, outV_at, seqK_some, sqK_some, seqB_lst, seqB_tup, seqB_ktp, seqB_scr, wSq_at, wRg1_at, rg2K_int, wRg2_at, zip2_some, zipK_some, wZip_at, bd_nm, bd_tup, bd_ktp, bNames_nil, bNames_cons, lpB_some, sFor_at, lcF_some, lcB_some, lcE_ok, lcH_some, sLc_at, sYes_at, hideS_nil, hideS_cons, hideK_none, hideK_frz, hideK_own, wipeE_nil, wipeE_cons, restE_nil, restE_cons, putSlot_at, mutP_some, mutF_own, mutQ_some, mutK_own, sMut_at, isLst_lst, extE_own, extD_lst, extK_own, sExt_at, sDisp_at, flat2_nil, flat2_cons, putQ_some, putE_own, putD_some, putF_some, putK_some, sPut_at, sPar_at, parB_some, parK_some, normB_nil, normB_cons, normBC_v, bindVs_nil, bindVs_frz, bindVs_own, setTK_some, sSetT_at, raiseK_some, sRaise_at, if_true, if_false, Bool.true_and, Bool.and_true, Bool.false_and, Bool.and_false, Bool.not_true, Bool.not_false, Bool.false_eq_true, reduceIte, List.length_cons, List.length_nil, List.map_cons, List.map_nil, List.contains_cons, List.contains_nil, List.any_nil, List.any_cons, beq_self_eq_true, Bool.true_or, Bool.or_true, Bool.false_or, Bool.or_false, isAli, List.nodup_nil, List.nodup_cons, List.not_mem_nil, not_false_eq_true, and_true, true_and, and_self, decide_true, decide_false, Nat.reduceAdd, Nat.reduceLeDiff, Nat.reduceBEq, Nat.reduceEqDiff, Nat.reduceLT, Int.reducePow, Int.reduceNeg, Int.reduceLT, Int.reduceLE, List.append_nil, List.nil_append, List.cons_append, List.isEmpty_cons, List.isEmpty_nil, decide_eq_true_eq]
    by_cases q : fwr f r = 0 <;> simp only [q, bind_ok, bind_exc, toS_ok, toS_exc, seq_nx, seq_rt, seq_bk, seq_ct, seq_exc, loop_nx, loop_ct, loop_bk, loop_rt, loop_exc, nox_ok, sVar_at, varR_frz, varR_own, sLit_at, get_0, get_s, set_0, set_s, der_v, der_ali, slotO_s, frz1_v, frz1_ali, frzO_own, frzO_frz, frzs_nil, frzC_some, frzs_v, frzD_some, frzs_ali, sArgs_nil, sArgs_cons, fin_some, op1K_some, op2K_some, sOp1_at, sOp2_at, opNK_some, sOpIsi_at, sOpSl0_at, sOpSl1_at, sOpSl2_at, sOpSl3_at, ders_nil, dersC_some, ders_cons, truF_some, truK_some, sTruth_at, sTNot_at, sTAnd_at, sTOr_at, sIte_at, sAnd_at, sOr_at, andK_bl, orK_bl, sNot_at, notK_bl, truth_bl, truth_int, truth_lst, truth_tup, truth_non, sChain_at, chK_int, sNil_at, sSeq_at, sIf_at, sRet_at, sDrop_at, setF_some, setK_own, setK_frz, setK_ali, sSet_at, sAug_at, augK_int, tupK_0, lstK_0, tupK_1, lstK_1, tupK_2, lstK_2, tupK_3, lstK_3, tupK_4, lstK_4, tupK_5, lstK_5, tupK_6, lstK_6, tupK_7, lstK_7, tupK_8, lstK_8, tupK_9, lstK_9, tupK_10, lstK_10, tupK_11, lstK_11, tupK_12, lstK_12, tupK_13, lstK_13, tupK_14, lstK_14, tupK_15, lstK_15, tupK_16, lstK_16, sTup_at, sLst_at, sNewD_at, pinL_at, normA_nil, normA_cons, normC_frz, normC_own, normC_ali, argV_frz, argV_ownP, argV_ali, argO_own, argO_frz, argC_some, argsV_nil, argsV_cons, outsOf_nil, outsOf_v, outsOf_ali, outsK_own, putOuts_nil, putOuts_cons, optJ_some, callR_ok, callR_exc, callA_some, callN_some, sCall_at, endRun_nx, endRun_v, endRun_exc, endRun_ali, endO_frz, endO_own, outE_0, outE_1, outE_2, outE_3, outE_4, outE_5, outE_6, outV_at, seqK_some, sqK_some, seqB_lst, seqB_tup, seqB_ktp, seqB_scr, wSq_at, wRg1_at, rg2K_int, wRg2_at, zip2_some, zipK_some, wZip_at, bd_nm, bd_tup, bd_ktp, bNames_nil, bNames_cons, lpB_some, sFor_at, lcF_some, lcB_some, lcE_ok, lcH_some, sLc_at, sYes_at, hideS_nil, hideS_cons, hideK_none, hideK_frz, hideK_own, wipeE_nil, wipeE_cons, restE_nil, restE_cons, putSlot_at, mutP_some, mutF_own, mutQ_some, mutK_own, sMut_at, isLst_lst, extE_own, extD_lst, extK_own, sExt_at, sDisp_at, flat2_nil, flat2_cons, putQ_some, putE_own, putD_some, putF_some, putK_some, sPut_at, sPar_at, parB_some, parK_some, normB_nil, normB_cons, normBC_v, bindVs_nil, bindVs_frz, bindVs_own, setTK_some, sSetT_at, raiseK_some, sRaise_at, if_true, if_false, Bool.true_and, Bool.and_true, Bool.false_and, Bool.and_false, Bool.not_true, Bool.not_false, Bool.false_eq_true, reduceIte, List.length_cons, List.length_nil, List.map_cons, List.map_nil, List.contains_cons, List.contains_nil, List.any_nil, List.any_cons, beq_self_eq_true, Bool.true_or, Bool.or_true, Bool.false_or, Bool.or_false, isAli, List.nodup_nil, List.nodup_cons, List.not_mem_nil, not_false_eq_true, and_true, true_and, and_self, decide_true, decide_false, Nat.reduceAdd, Nat.reduceLeDiff, Nat.reduceBEq, Nat.reduceEqDiff, Nat.reduceLT, Int.reducePow, Int.reduceNeg, Int.reduceLT, Int.reduceLE, List.append_nil, List.nil_append, List.cons_append, List.isEmpty_cons, List.isEmpty_nil, decide_eq_true_eq]
  have key1 := fun f hf => lcS_each (bd := (Tgt.nm 1).bd) (vs := [1]) rows tI (oneIf f) (it1 f hf) (by decide +kernel)
  have cl1 : ∀ f, ((rows.filterMap (oneIf f)).length : Int) = (cntz f : Int) := fun f => by
    unfold cntz
    rw [← fm_len (fun r => decide (fwr f r = 0)) rows]
    rfl
  have it : ∀ f ∈ rows, lcB (sTruth (sOp (op2 dEq) [(sOp (op1 fLen) [(sLc (wSq (sCall (pinL []) (cl t (m + 4) 23) [])) (.nm 1) (sTruth (sOp (op2 dEq) [(sCall (pinL [0, 1]) (cl t (m + 4) 22) [(sVar 0), (sVar 1)]), (sLit (.int 0))])) (sLit (.int 1)) [1])]), (sLit (.int 28))])) (sVar 0) [0] ((Tgt.nm 0).bd (tI f) [none, none]) = .ok (if decide ((cntz f : Int) = 28) then some (tI f) else none) [none, none] := fun f hf => by
    simp only [L23 t m, key1 f (rows_row f hf), fLen_l, cl1, eq_ii, bind_ok, bind_exc, toS_ok, toS_exc, seq_nx, seq_rt, seq_bk, seq_ct, seq_exc, loop_nx, loop_ct, loop_bk, loop_rt, loop_exc, nox_ok, sVar_at, varR_frz, varR_own, sLit_at, get_0, get_s, set_0, set_s, der_v, der_ali, slotO_s, frz1_v, frz1_ali, frzO_own, frzO_frz, frzs_nil, frzC_some, frzs_v, frzD_some, frzs_ali, sArgs_nil, sArgs_cons, fin_some, op1K_some, op2K_some, sOp1_at, sOp2_at, opNK_some, sOpIsi_at, sOpSl0_at, sOpSl1_at, sOpSl2_at, sOpSl3_at, ders_nil, dersC_some, ders_cons, truF_some, truK_some, sTruth_at, sTNot_at, sTAnd_at, sTOr_at, sIte_at, sAnd_at, sOr_at, andK_bl, orK_bl, sNot_at, notK_bl, truth_bl, truth_int, truth_lst, truth_tup, truth_non, sChain_at, chK_int, sNil_at, sSeq_at, sIf_at, sRet_at, sDrop_at, setF_some, setK_own, setK_frz, setK_ali, sSet_at, sAug_at, augK_int, tupK_0, lstK_0, tupK_1, lstK_1, tupK_2, lstK_2, tupK_3, lstK_3, tupK_4, lstK_4, tupK_5, lstK_5, tupK_6, lstK_6, tupK_7, lstK_7, tupK_8, lstK_8, tupK_9, lstK_9, tupK_10, lstK_10, tupK_11, lstK_11, tupK_12, lstK_12, tupK_13, lstK_13, tupK_14, lstK_14, tupK_15, lstK_15, tupK_16, lstK_16, sTup_at, sLst_at, sNewD_at, pinL_at, normA_nil, normA_cons, normC_frz, normC_own, normC_ali, argV_frz, argV_ownP, argV_ali, argO_own, argO_frz, argC_some, argsV_nil, argsV_cons, outsOf_nil, outsOf_v, outsOf_ali, outsK_own, putOuts_nil, putOuts_cons, optJ_some, callR_ok, callR_exc, callA_some, callN_some, sCall_at, endRun_nx, endRun_v, endRun_exc, endRun_ali, endO_frz, endO_own, outE_0, outE_1, outE_2, outE_3, outE_4, outE_5, outE_6, outV_at, seqK_some, sqK_some, seqB_lst, seqB_tup, seqB_ktp, seqB_scr, wSq_at, wRg1_at, rg2K_int, wRg2_at, zip2_some, zipK_some, wZip_at, bd_nm, bd_tup, bd_ktp, bNames_nil, bNames_cons, lpB_some, sFor_at, lcF_some, lcB_some, lcE_ok, lcH_some, sLc_at, sYes_at, hideS_nil, hideS_cons, hideK_none, hideK_frz, hideK_own, wipeE_nil, wipeE_cons, restE_nil, restE_cons, putSlot_at, mutP_some, mutF_own, mutQ_some, mutK_own, sMut_at, isLst_lst, extE_own, extD_lst, extK_own, sExt_at, sDisp_at, flat2_nil, flat2_cons, putQ_some, putE_own, putD_some, putF_some, putK_some, sPut_at, sPar_at, parB_some, parK_some, normB_nil, normB_cons, normBC_v, bindVs_nil, bindVs_frz, bindVs_own, setTK_some, sSetT_at, raiseK_some, sRaise_at, if_true, if_false, Bool.true_and, Bool.and_true, Bool.false_and, Bool.and_false, Bool.not_true, Bool.not_false, Bool.false_eq_true, reduceIte, List.length_cons, List.length_nil, List.map_cons, List.map_nil, List.contains_cons, List.contains_nil, List.any_nil, List.any_cons, beq_self_eq_true, Bool.true_or, Bool.or_true, Bool.false_or, Bool.or_false, isAli, List.nodup_nil, List.nodup_cons, List.not_mem_nil, not_false_eq_true, and_true, true_and, and_self, decide_true, decide_false, Nat.reduceAdd, Nat.reduceLeDiff, Nat.reduceBEq, Nat.reduceEqDiff, Nat.reduceLT, Int.reducePow, Int.reduceNeg, Int.reduceLT, Int.reduceLE, List.append_nil, List.nil_append, List.cons_append, List.isEmpty_cons, List.isEmpty_nil, decide_eq_true_eq]
    by_cases q : (cntz f : Int) = 28 <;> simp only [q, bind_ok, bind_exc, toS_ok, toS_exc, seq_nx, seq_rt, seq_bk, seq_ct, seq_exc, loop_nx, loop_ct, loop_bk, loop_rt, loop_exc, nox_ok, sVar_at, varR_frz, varR_own, sLit_at, get_0, get_s, set_0, set_s, der_v, der_ali, slotO_s, frz1_v, frz1_ali, frzO_own, frzO_frz, frzs_nil, frzC_some, frzs_v, frzD_some, frzs_ali, sArgs_nil, sArgs_cons, fin_some, op1K_some, op2K_some, sOp1_at, sOp2_at, opNK_some, sOpIsi_at, sOpSl0_at, sOpSl1_at, sOpSl2_at, sOpSl3_at, ders_nil, dersC_some, ders_cons, truF_some, truK_some, sTruth_at, sTNot_at, sTAnd_at, sTOr_at, sIte_at, sAnd_at, sOr_at, andK_bl, orK_bl, sNot_at, notK_bl, truth_bl, truth_int, truth_lst, truth_tup, truth_non, sChain_at, chK_int, sNil_at, sSeq_at, sIf_at, sRet_at, sDrop_at, setF_some, setK_own, setK_frz, setK_ali, sSet_at, sAug_at, augK_int, tupK_0, lstK_0, tupK_1, lstK_1, tupK_2, lstK_2, tupK_3, lstK_3, tupK_4, lstK_4, tupK_5, lstK_5, tupK_6, lstK_6, tupK_7, lstK_7, tupK_8, lstK_8, tupK_9, lstK_9, tupK_10, lstK_10, tupK_11, lstK_11, tupK_12, lstK_12, tupK_13, lstK_13, tupK_14, lstK_14, tupK_15, lstK_15, tupK_16, lstK_16, sTup_at, sLst_at, sNewD_at, pinL_at, normA_nil, normA_cons, normC_frz, normC_own, normC_ali, argV_frz, argV_ownP, argV_ali, argO_own, argO_frz, argC_some, argsV_nil, argsV_cons, outsOf_nil, outsOf_v, outsOf_ali, outsK_own, putOuts_nil, putOuts_cons, optJ_some, callR_ok, callR_exc, callA_some, callN_some, sCall_at, endRun_nx, endRun_v, endRun_exc, endRun_ali, endO_frz, endO_own, outE_0, outE_1, outE_2, outE_3, outE_4, outE_5, outE_6, outV_at, seqK_some, sqK_some, seqB_lst, seqB_tup, seqB_ktp, seqB_scr, wSq_at, wRg1_at, rg2K_int, wRg2_at, zip2_some, zipK_some, wZip_at, bd_nm, bd_tup, bd_ktp, bNames_nil, bNames_cons, lpB_some, sFor_at, lcF_some, lcB_some, lcE_ok, lcH_some, sLc_at, sYes_at, hideS_nil, hideS_cons, hideK_none, hideK_frz, hideK_own, wipeE_nil, wipeE_cons, restE_nil, restE_cons, putSlot_at, mutP_some, mutF_own, mutQ_some, mutK_own, sMut_at, isLst_lst, extE_own, extD_lst, extK_own, sExt_at, sDisp_at, flat2_nil, flat2_cons, putQ_some, putE_own, putD_some, putF_some, putK_some, sPut_at, sPar_at, parB_some, parK_some, normB_nil, normB_cons, normBC_v, bindVs_nil, bindVs_frz, bindVs_own, setTK_some, sSetT_at, raiseK_some, sRaise_at, if_true, if_false, Bool.true_and, Bool.and_true, Bool.false_and, Bool.and_false, Bool.not_true, Bool.not_false, Bool.false_eq_true, reduceIte, List.length_cons, List.length_nil, List.map_cons, List.map_nil, List.contains_cons, List.contains_nil, List.any_nil, List.any_cons, beq_self_eq_true, Bool.true_or, Bool.or_true, Bool.false_or, Bool.or_false, isAli, List.nodup_nil, List.nodup_cons, List.not_mem_nil, not_false_eq_true, and_true, true_and, and_self, decide_true, decide_false, Nat.reduceAdd, Nat.reduceLeDiff, Nat.reduceBEq, Nat.reduceEqDiff, Nat.reduceLT, Int.reducePow, Int.reduceNeg, Int.reduceLT, Int.reduceLE, List.append_nil, List.nil_append, List.cons_append, List.isEmpty_cons, List.isEmpty_nil, decide_eq_true_eq]
  have key := lcS_filter (bd := (Tgt.nm 0).bd) (vs := [0]) rows tI (fun f => decide ((cntz f : Int) = 28)) it (by decide +kernel)
  rw [q25, g25]
  simp only [L23 t m, bind_ok, bind_exc, toS_ok, toS_exc, seq_nx, seq_rt, seq_bk, seq_ct, seq_exc, loop_nx, loop_ct, loop_bk, loop_rt, loop_exc, nox_ok, sVar_at, varR_frz, varR_own, sLit_at, get_0, get_s, set_0, set_s, der_v, der_ali, slotO_s, frz1_v, frz1_ali, frzO_own, frzO_frz, frzs_nil, frzC_some, frzs_v, frzD_some, frzs_ali, sArgs_nil, sArgs_cons, fin_some, op1K_some, op2K_some, sOp1_at, sOp2_at, opNK_some, sOpIsi_at, sOpSl0_at, sOpSl1_at, sOpSl2_at, sOpSl3_at, ders_nil, dersC_some, ders_cons, truF_some, truK_some, sTruth_at, sTNot_at, sTAnd_at, sTOr_at, sIte_at, sAnd_at, sOr_at, andK_bl, orK_bl, sNot_at, notK_bl, truth_bl, truth_int, truth_lst, truth_tup, truth_non, sChain_at, chK_int, sNil_at, sSeq_at, sIf_at, sRet_at, sDrop_at, setF_some, setK_own, setK_frz, setK_ali, sSet_at, sAug_at, augK_int, tupK_0, lstK_0, tupK_1, lstK_1, tupK_2, lstK_2, tupK_3, lstK_3, tupK_4, lstK_4, tupK_5, lstK_5, tupK_6, lstK_6, tupK_7, lstK_7, tupK_8, lstK_8, tupK_9, lstK_9, tupK_10, lstK_10, tupK_11, lstK_11, tupK_12, lstK_12, tupK_13, lstK_13, tupK_14, lstK_14, tupK_15, lstK_15, tupK_16, lstK_16, sTup_at, sLst_at, sNewD_at, pinL_at, normA_nil, normA_cons, normC_frz, normC_own, normC_ali, argV_frz, argV_ownP, argV_ali, argO_own, argO_frz, argC_some, argsV_nil, argsV_cons, outsOf_nil, outsOf_v, outsOf_ali, outsK_own, putOuts_nil, putOuts_cons, optJ_some, callR_ok, callR_exc, callA_some, callN_some, sCall_at, endRun_nx, endRun_v, endRun_exc, endRun_ali, endO_frz, endO_own, outE_0, outE_1, outE_2, outE_3, outE_4, outE_5, outE_6, outV_at, seqK_some, sqK_some, seqB_lst, seqB_tup, seqB_ktp, seqB_scr, wSq_at, wRg1_at, rg2K_int, wRg2_at, zip2_some, zipK_some, wZip_at, bd_nm, bd_tup, bd_ktp, bNames_nil, bNames_cons, lpB_some, sFor_at, lcF_some, lcB_some, lcE_ok, lcH_some, sLc_at, sYes_at, hideS_nil, hideS_cons, hideK_none, hideK_frz, hideK_own, wipeE_nil, wipeE_cons, restE_nil, restE_cons, putSlot_at, mutP_some, mutF_own, mutQ_some, mutK_own, sMut_at, isLst_lst, extE_own, extD_lst, extK_own, sExt_at, sDisp_at, flat2_nil, flat2_cons, putQ_some, putE_own, putD_some, putF_some, putK_some, sPut_at, sPar_at, parB_some, parK_some, normB_nil, normB_cons, normBC_v, bindVs_nil, bindVs_frz, bindVs_own, setTK_some, sSetT_at, raiseK_some, sRaise_at, if_true, if_false, Bool.true_and, Bool.and_true, Bool.false_and, Bool.and_false, Bool.not_true, Bool.not_false, Bool.false_eq_true, reduceIte, List.length_cons, List.length_nil, List.map_cons, List.map_nil, List.contains_cons, List.contains_nil, List.any_nil, List.any_cons, beq_self_eq_true, Bool.true_or, Bool.or_true, Bool.false_or, Bool.or_false, isAli, List.nodup_nil, List.nodup_cons, List.not_mem_nil, not_false_eq_true, and_true, true_and, and_self, decide_true, decide_false, Nat.reduceAdd, Nat.reduceLeDiff, Nat.reduceBEq, Nat.reduceEqDiff, Nat.reduceLT, Int.reducePow, Int.reduceNeg, Int.reduceLT, Int.reduceLE, List.append_nil, List.nil_append, List.cons_append, List.isEmpty_cons, List.isEmpty_nil, decide_eq_true_eq]
  rw [key, odds_is]
  simp only [sortX_I so1 so2, bind_ok, bind_exc, toS_ok, toS_exc, seq_nx, seq_rt, seq_bk, seq_ct, seq_exc, loop_nx, loop_ct, loop_bk, loop_rt, loop_exc, nox_ok, sVar_at, varR_frz, varR_own, sLit_at, get_0, get_s, set_0, set_s, der_v, der_ali, slotO_s, frz1_v, frz1_ali, frzO_own, frzO_frz, frzs_nil, frzC_some, frzs_v, frzD_some, frzs_ali, sArgs_nil, sArgs_cons, fin_some, op1K_some, op2K_some, sOp1_at, sOp2_at, opNK_some, sOpIsi_at, sOpSl0_at, sOpSl1_at, sOpSl2_at, sOpSl3_at, ders_nil, dersC_some, ders_cons, truF_some, truK_some, sTruth_at, sTNot_at, sTAnd_at, sTOr_at, sIte_at, sAnd_at, sOr_at, andK_bl, orK_bl, sNot_at, notK_bl, truth_bl, truth_int, truth_lst, truth_tup, truth_non, sChain_at, chK_int, sNil_at, sSeq_at, sIf_at, sRet_at, sDrop_at, setF_some, setK_own, setK_frz, setK_ali, sSet_at, sAug_at, augK_int, tupK_0, lstK_0, tupK_1, lstK_1, tupK_2, lstK_2, tupK_3, lstK_3, tupK_4, lstK_4, tupK_5, lstK_5, tupK_6, lstK_6, tupK_7, lstK_7, tupK_8, lstK_8, tupK_9, lstK_9, tupK_10, lstK_10, tupK_11, lstK_11, tupK_12, lstK_12, tupK_13, lstK_13, tupK_14, lstK_14, tupK_15, lstK_15, tupK_16, lstK_16, sTup_at, sLst_at, sNewD_at, pinL_at, normA_nil, normA_cons, normC_frz, normC_own, normC_ali, argV_frz, argV_ownP, argV_ali, argO_own, argO_frz, argC_some, argsV_nil, argsV_cons, outsOf_nil, outsOf_v, outsOf_ali, outsK_own, putOuts_nil, putOuts_cons, optJ_some, callR_ok, callR_exc, callA_some, callN_some, sCall_at, endRun_nx, endRun_v, endRun_exc, endRun_ali, endO_frz, endO_own, outE_0, outE_1, outE_2, outE_3, outE_4, outE_5, outE_6, outV_at, seqK_some, sqK_some, seqB_lst, seqB_tup, seqB_ktp, seqB_scr, wSq_at, wRg1_at, rg2K_int, wRg2_at, zip2_some, zipK_some, wZip_at, bd_nm, bd_tup, bd_ktp, bNames_nil, bNames_cons, lpB_some, sFor_at, lcF_some, lcB_some, lcE_ok, lcH_some, sLc_at, sYes_at, hideS_nil, hideS_cons, hideK_none, hideK_frz, hideK_own, wipeE_nil, wipeE_cons, restE_nil, restE_cons, putSlot_at, mutP_some, mutF_own, mutQ_some, mutK_own, sMut_at, isLst_lst, extE_own, extD_lst, extK_own, sExt_at, sDisp_at, flat2_nil, flat2_cons, putQ_some, putE_own, putD_some, putF_some, putK_some, sPut_at, sPar_at, parB_some, parK_some, normB_nil, normB_cons, normBC_v, bindVs_nil, bindVs_frz, bindVs_own, setTK_some, sSetT_at, raiseK_some, sRaise_at, if_true, if_false, Bool.true_and, Bool.and_true, Bool.false_and, Bool.and_false, Bool.not_true, Bool.not_false, Bool.false_eq_true, reduceIte, List.length_cons, List.length_nil, List.map_cons, List.map_nil, List.contains_cons, List.contains_nil, List.any_nil, List.any_cons, beq_self_eq_true, Bool.true_or, Bool.or_true, Bool.false_or, Bool.or_false, isAli, List.nodup_nil, List.nodup_cons, List.not_mem_nil, not_false_eq_true, and_true, true_and, and_self, decide_true, decide_false, Nat.reduceAdd, Nat.reduceLeDiff, Nat.reduceBEq, Nat.reduceEqDiff, Nat.reduceLT, Int.reducePow, Int.reduceNeg, Int.reduceLT, Int.reduceLE, List.append_nil, List.nil_append, List.cons_append, List.isEmpty_cons, List.isEmpty_nil, decide_eq_true_eq]
end Hd

namespace Hd
open PySem PySem.Spec PyProof.Rows Ev
def oddX : List (List Int) := [[0, 0, 0, 0, 0, 0], [0, 0, 0, 0, 0, 1], [0, 0, 0, 0, 1, 0], [0, 0, 0, 1, 0, 0], [0, 0, 1, 0, 0, 0], [0, 0, 1, 1, 1, 1], [0, 1, 0, 0, 0, 0], [0, 1, 0, 1, 1, 1], [0, 1, 1, 0, 1, 1], [0, 1, 1, 1, 0, 1], [0, 1, 1, 1, 1, 0], [0, 1, 1, 1, 1, 1], [1, 0, 0, 0, 0, 0], [1, 0, 0, 1, 1, 1], [1, 0, 1, 0, 1, 1], [1, 0, 1, 1, 0, 1], [1, 0, 1, 1, 1, 0], [1, 0, 1, 1, 1, 1], [1, 1, 0, 0, 1, 1], [1, 1, 0, 1, 0, 1], [1, 1, 0, 1, 1, 0], [1, 1, 0, 1, 1, 1], [1, 1, 1, 0, 0, 1], [1, 1, 1, 0, 1, 0], [1, 1, 1, 0, 1, 1], [1, 1, 1, 1, 0, 0], [1, 1, 1, 1, 0, 1], [1, 1, 1, 1, 1, 0]]
theorem odd_is : odds = oddX := by decide +kernel
def prs : List (List Int × Int) := [([0, 0, 0, 0, 0, 1], 6),
  ([0, 0, 0, 0, 1, 0], 6),
  ([0, 0, 0, 0, 1, 1], 6),
  ([0, 0, 0, 1, 0, 0], 6),
  ([0, 0, 0, 1, 0, 1], 6),
  ([0, 0, 0, 1, 1, 0], 6),
  ([0, 0, 1, 0, 0, 0], 6),
  ([0, 0, 1, 0, 0, 1], 6),
  ([0, 0, 1, 0, 1, 0], 6),
  ([0, 0, 1, 1, 0, 0], 6),
  ([0, 0, 1, 1, 1, 1], 6),
  ([0, 0, 1, 1, 1, 0], 6),
  ([0, 0, 1, 1, 0, 1], 6),
  ([0, 0, 1, 0, 1, 1], 6),
  ([0, 0, 0, 1, 1, 1], 6),
  ([0, 1, 0, 0, 0, 0], 6),
  ([0, 1, 0, 0, 0, 1], 6),
  ([0, 1, 0, 0, 1, 0], 6),
  ([0, 1, 0, 1, 0, 0], 6),
  ([0, 1, 1, 0, 0, 0], 6),
  ([0, 1, 1, 1, 1, 1], 6),
  ([0, 1, 0, 1, 1, 1], 6),
  ([0, 1, 0, 1, 1, 0], 6),
  ([0, 1, 0, 1, 0, 1], 6),
  ([0, 1, 0, 0, 1, 1], 6),
  ([0, 1, 1, 0, 1, 1], 6),
  ([0, 1, 1, 0, 1, 0], 6),
  ([0, 1, 1, 0, 0, 1], 6),
  ([0, 1, 1, 1, 0, 1], 6),
  ([0, 1, 1, 1, 0, 0], 6),
  ([0, 1, 1, 1, 1, 0], 6),
  ([1, 0, 0, 0, 0, 0], 6),
  ([1, 0, 0, 0, 0, 1], 6),
  ([1, 0, 0, 0, 1, 0], 6),
  ([1, 0, 0, 1, 0, 0], 6),
  ([1, 0, 1, 0, 0, 0], 6),
  ([1, 0, 1, 1, 1, 1], 6),
  ([1, 1, 0, 0, 0, 0], 6),
  ([1, 1, 0, 1, 1, 1], 6),
  ([1, 1, 1, 0, 1, 1], 6),
  ([1, 1, 1, 1, 0, 1], 6),
  ([1, 1, 1, 1, 1, 0], 6),
  ([1, 1, 1, 1, 1, 1], 6),
  ([1, 0, 0, 1, 1, 1], 6),
  ([1, 0, 0, 1, 1, 0], 6),
  ([1, 0, 0, 1, 0, 1], 6),
  ([1, 0, 0, 0, 1, 1], 6),
  ([1, 1, 1, 1, 0, 0], 6),
  ([1, 1, 1, 0, 1, 0], 6),
  ([1, 1, 1, 0, 0, 1], 6),
  ([1, 1, 1, 0, 0, 0], 6),
  ([1, 0, 1, 0, 1, 1], 6),
  ([1, 0, 1, 0, 1, 0], 6),
  ([1, 0, 1, 0, 0, 1], 6),
  ([1, 1, 0, 1, 1, 0], 6),
  ([1, 1, 0, 1, 0, 1], 6),
  ([1, 1, 0, 1, 0, 0], 6),
  ([1, 0, 1, 1, 0, 1], 6),
  ([1, 0, 1, 1, 0, 0], 6),
  ([1, 1, 0, 0, 1, 1], 6),
  ([1, 1, 0, 0, 1, 0], 6),
  ([1, 0, 1, 1, 1, 0], 6),
  ([1, 1, 0, 0, 0, 1], 6)]
def kvs : List (List L2.Key × D) := prs.map fun p => (p.1.map .inl, .int p.2)
def pairsD : D := .dT kvs
def lapB (C : Nat → List Val → Rf) : SS := (sSeq (sIf (sTOr (sTNot (sTruth (sCall (pinL [0]) (C 26) [(sVar 1)]))) (sTNot (sTruth (sCall (pinL [0]) (C 27) [(sVar 1)])))) (sSeq (sRet (sLit (.bl false)))
  sNil) sNil)
  sNil)
def loopD (C : Nat → List Val → Rf) : SS := (sFor (wRg1 (sLit (.int 28))) (.nm 6) (sSeq (sFor (wRg1 (sVar 6)) (.nm 7) (sSeq (sSet 8 (sCall (pinL [0]) (C 24) [(sLst [(sOp (op2 dIx) [(sVar 2), (sVar 6)]), (sOp (op2 dIx) [(sVar 2), (sVar 7)])])]))
  (sSeq (sPut 5 (sOp (op2 dAdd) [(sIte (sTruth (sOp (op2 dInV) [(sVar 8), (sVar 5)])) (sOp (op2 dIx) [(sVar 5), (sVar 8)]) (sLit (.int 0))), (sLit (.int 1))]) (sVar 8))
  sNil)))
  sNil))
def retD : SS := (sRet (sAnd (sOp (op2 dEq) [(sOp (op1 fLen) [(sVar 5)]), (sLit (.int 63))]) (sAnd (sOp (op2 dEq) [(sOp (op1 fSortSet) [(sLc (wSq (sOp (op1 fSortX) [(sVar 5)])) (.nm 8) sYes (sOp (op2 dIx) [(sVar 5), (sVar 8)]) [8])]), (sLst [(sLit (.int 6))])]) (sOp (op2 dInV) [(sVar 4), (sVar 2)]))))
def chkD (C : Nat → List Val → Rf) : SS := (sIf (sTOr (sTNot (sTruth (sCall (pinL [0, 1]) (C 16) [(sCall (pinL []) (C 11) []), (sOp (op1 fTuple) [(sVar 2)])]))) (sTOr (sTruth (sOp (op2 dNe) [(sOp (op1 fLen) [(sVar 2)]), (sLit (.int 28))])) (sTNot (sTruth (sCall (pinL [0, 1]) (C 16) [(sCall (pinL []) (C 12) []), (sOp (op1 fTuple) [(sOp (op1 fSortX) [(sLc (wSq (sCall (pinL []) (C 23) [])) (.nm 9) (sTruth (sOp (op2 dNotInV) [(sVar 9), (sVar 2)])) (sVar 9) [9])])])]))))) (sSeq (sRet (sLit (.bl false)))
  sNil) sNil)
def g29s (C : Nat → List Val → Rf) : SS := (sSeq (sSet 1 (sCall (pinL [0]) (C 13) [(sVar 0)])) (sSeq (sSet 2 (sCall (pinL []) (C 25) [])) (sSeq (chkD C) (sSeq (sFor (wRg1 (sLit (.int 20))) (.nm 3) (lapB C)) (sSeq (sSet 4 (sCall (pinL [0, 1]) (C 15) [(sVar 1), (sVar 2)])) (sSeq (sSet 5 (sNewD (.dT []))) (sSeq (loopD C) (sSeq retD sNil))))))))
theorem g29_is (C) : g29 C = g29s C := (rfl)
theorem loop_runs (m : Nat) (S P y F : Option Val) : loopD (cl true (m + 20)) [S, P, some ⟨.own, .lst (oddX.map tI)⟩, y, F, some ⟨.own, .dT []⟩, none, none, none, none] =
    .nx [S, P, some ⟨.own, .lst (oddX.map tI)⟩, y, F, some ⟨.own, pairsD⟩, some (fz (.int 27)), some (fz (.int 26)), some (fz (tI [0, 0, 0, 0, 1, 1])), none] := by kernel_rfl
end Hd

namespace Hd
open PySem PySem.Spec PyProof.Rows Ev
def keysD : List D := kvs.map fun kv => .tup (kv.1.map keyD)
def isSix : Option (Bool × D) → Bool
  | some (false, .int i) => decide (i = 6)
  | _ => false
theorem isSix_ok {o} (h : isSix o = true) : o = some (false, .int 6) := by
  unfold isSix at h
  split at h
  · rw [of_decide_eq_true h]
  · cases h
theorem six {x} (h : x ∈ keysD) : dIx pairsD x = some (false, .int 6) := isSix_ok (List.all_eq_true.mp (show (keysD.all fun x => isSix (dIx pairsD x)) = true by decide +kernel) x h)
theorem keysD_I : keysD = (prs.map (·.1)).map tI := by
  unfold keysD kvs
  rw [List.map_map, List.map_map]
  refine List.map_congr_left fun p _ => ?_
  show D.tup ((p.1.map Sum.inl).map keyD) = tI p.1
  rw [List.map_map]
  rfl
theorem sk1 : sortOk ((prs.map (·.1)).map pyI) = true := by decide +kernel
theorem sort_pairs : ∃ ys, fSortX pairsD = some (true, .lst ys) ∧ ys.Perm keysD := by
  refine ⟨(sortD ((prs.map (·.1)).map fun r => (tI r, pyI r))).map (·.1), ?_, ?_⟩
  · show (match srtL keysD with | some ys => some (true, D.lst ys) | none => none) = _
    have : srtL keysD = some ((sortD ((prs.map (·.1)).map fun r => (tI r, pyI r))).map (·.1)) := by
      rw [keysD_I]
      unfold srtL
      rw [zipPy_I]
      dsimp only
      have e : ((prs.map (·.1)).map fun r => (tI r, pyI r)).map (·.2) = (prs.map (·.1)).map pyI := by rw [List.map_map]; rfl
      rw [e, if_pos sk1]
    rw [this]
  · rw [keysD_I]
    have := (List.mergeSort_perm ((prs.map (·.1)).map fun r => (tI r, pyI r)) (PySem.W.dataLe false (fun p : D × PyData => p.2))).map (·.1)
    rw [List.map_map] at this
    exact this
theorem six_set : fSortSet (.lst ((List.replicate 63 (6 : Int)).map .int)) = some (true, .lst [.int 6]) := by kernel_rfl
theorem len_pairs : fLen pairsD = some (false, .int 63) := by kernel_rfl
theorem eq_six : dEq (.lst [.int 6]) (.lst [.int 6]) = some (false, .bl true) := (dEq_of (eqv_of (p := .list [.int 6]) (q := .list [.int 6]) rfl rfl rfl rfl)).trans rfl
def isTrue : Option Bool → Bool
  | some b => b
  | none => false
theorem in_odd {r} (h : r ∈ oddX) : dInV (tI r) (.lst (oddX.map tI)) = some (false, .bl true) := by
  have q : isTrue (dIn (tI r) (.lst (oddX.map tI))) = true := List.all_eq_true.mp (show (oddX.all fun r => isTrue (dIn (tI r) (.lst (oddX.map tI)))) = true by decide +kernel) r h
  unfold dInV
  cases e : dIn (tI r) (.lst (oddX.map tI)) with
  | none => rw [e] at q; cases q
  | some b => rw [e] at q; cases b with
    | false => cases q
    | true => rfl
theorem ret_runs (S P y : Option Val) (r : List Int) (hr : r ∈ oddX) (u v w : Option Val) (hw : ∃ d, w = some (fz d)) : ∃ ρ, retD [S, P, some ⟨.own, .lst (oddX.map tI)⟩, y, some (fz (tI r)), some ⟨.own, pairsD⟩, u, v, w, none] = .rt (.v false (.bl true)) ρ ∧ ρ[0]? = some S := by
  obtain ⟨ys, e1, e2⟩ := sort_pairs
  obtain ⟨dw, rfl⟩ := hw
  have len : ys.length = 63 := by rw [e2.length_eq]; decide
  have it : ∀ x ∈ ys, lcB sYes (sOp (op2 dIx) [(sVar 5), (sVar 8)]) [8] ((Tgt.nm 8).bd (id x) [S, P, some ⟨.own, .lst (oddX.map tI)⟩, y, some (fz (tI r)), some ⟨.own, pairsD⟩, u, v, none, none]) = .ok (some (.int 6)) [S, P, some ⟨.own, .lst (oddX.map tI)⟩, y, some (fz (tI r)), some ⟨.own, pairsD⟩, u, v, none, none] := fun x hx => by
    simp only [six (e2.mem_iff.mp hx), id, bind_ok, bind_exc, toS_ok, toS_exc, seq_nx, seq_rt, seq_bk, seq_ct, seq_exc, loop_nx, loop_ct, loop_bk, loop_rt, loop_exc, nox_ok, sVar_at, varR_frz, varR_own, sLit_at, get_0, get_s, set_0, set_s, der_v, der_ali, slotO_s, frz1_v, frz1_ali, frzO_own, frzO_frz, frzs_nil, frzC_some, frzs_v, frzD_some, frzs_ali, sArgs_nil, sArgs_cons, fin_some, op1K_some, op2K_some, sOp1_at, sOp2_at, opNK_some, sOpIsi_at, sOpSl0_at, sOpSl1_at, sOpSl2_at, sOpSl3_at, ders_nil, dersC_some, ders_cons, truF_some, truK_some, sTruth_at, sTNot_at, sTAnd_at, sTOr_at, sIte_at, sAnd_at, sOr_at, andK_bl, orK_bl, sNot_at, notK_bl, truth_bl, truth_int, truth_lst, truth_tup, truth_non, sChain_at, chK_int, sNil_at, sSeq_at, sIf_at, sRet_at, sDrop_at, setF_some, setK_own, setK_frz, setK_ali, sSet_at, sAug_at, augK_int, tupK_0, lstK_0, tupK_1, lstK_1, tupK_2, lstK_2, tupK_3, lstK_3, tupK_4, lstK_4, tupK_5, lstK_5, tupK_6, lstK_6, tupK_7, lstK_7, tupK_8, lstK_8, tupK_9, lstK_9, tupK_10, lstK_10, tupK_11, lstK_11, tupK_12, lstK_12, tupK_13, lstK_13, tupK_14, lstK_14, tupK_15, lstK_15, tupK_16, lstK_16, sTup_at, sLst_at, sNewD_at, pinL_at, normA_nil, normA_cons, normC_frz, normC_own, normC_ali, argV_frz, argV_ownP, argV_ali, argO_own, argO_frz, argC_some, argsV_nil, argsV_cons, outsOf_nil, outsOf_v, outsOf_ali, outsK_own, putOuts_nil, putOuts_cons, optJ_some, callR_ok, callR_exc, callA_some, callN_some, sCall_at, endRun_nx, endRun_v, endRun_exc, endRun_ali, endO_frz, endO_own, outE_0, outE_1, outE_2, outE_3, outE_4, outE_5, outE_6, outV_at, seqK_some, sqK_some, seqB_lst, seqB_tup, seqB_ktp, seqB_scr, wSq_at, wRg1_at, rg2K_int, wRg2_at, zip2_some, zipK_some, wZip_at, bd_nm, bd_tup, bd_ktp, bNames_nil, bNames_cons, lpB_some, sFor_at, lcF_some, lcB_some, lcE_ok, lcH_some, sLc_at, sYes_at, hideS_nil, hideS_cons, hideK_none, hideK_frz, hideK_own, wipeE_nil, wipeE_cons, restE_nil, restE_cons, putSlot_at, mutP_some, mutF_own, mutQ_some, mutK_own, sMut_at, isLst_lst, extE_own, extD_lst, extK_own, sExt_at, sDisp_at, flat2_nil, flat2_cons, putQ_some, putE_own, putD_some, putF_some, putK_some, sPut_at, sPar_at, parB_some, parK_some, normB_nil, normB_cons, normBC_v, bindVs_nil, bindVs_frz, bindVs_own, setTK_some, sSetT_at, raiseK_some, sRaise_at, if_true, if_false, Bool.true_and, Bool.and_true, Bool.false_and, Bool.and_false, Bool.not_true, Bool.not_false, Bool.false_eq_true, reduceIte, List.length_cons, List.length_nil, List.map_cons, List.map_nil, List.contains_cons, List.contains_nil, List.any_nil, List.any_cons, beq_self_eq_true, Bool.true_or, Bool.or_true, Bool.false_or, Bool.or_false, isAli, List.nodup_nil, List.nodup_cons, List.not_mem_nil, List.mem_cons, or_false, false_or, not_false_eq_true, and_true, true_and, and_self, decide_true, decide_false, Nat.reduceAdd, Nat.reduceLeDiff, Nat.reduceBEq, Nat.reduceEqDiff, Nat.reduceLT, Int.reducePow, Int.reduceNeg, Int.reduceLT, Int.reduceLE, List.append_nil, List.nil_append, List.cons_append, List.isEmpty_cons, List.isEmpty_nil, decide_eq_true_eq]
  have key := lcS_mapv (bd := (Tgt.nm 8).bd) (vs := [8]) ys id (fun _ => .int 6) it (by rw [len]; decide)
  rw [List.map_id] at key
  have cst : (ys.map fun _ => D.int 6) = (List.replicate 63 (6 : Int)).map .int := by
    rw [← len]
    clear key it e1 e2 len
    induction ys with
    | nil => rfl
    | cons a l ih => rw [List.map_cons, ih]; rfl
  rw [cst] at key
  unfold retD
  simp only [len_pairs, eq_self, e1, bind_ok, bind_exc, toS_ok, toS_exc, seq_nx, seq_rt, seq_bk, seq_ct, seq_exc, loop_nx, loop_ct, loop_bk, loop_rt, loop_exc, nox_ok, sVar_at, varR_frz, varR_own, sLit_at, get_0, get_s, set_0, set_s, der_v, der_ali, slotO_s, frz1_v, frz1_ali, frzO_own, frzO_frz, frzs_nil, frzC_some, frzs_v, frzD_some, frzs_ali, sArgs_nil, sArgs_cons, fin_some, op1K_some, op2K_some, sOp1_at, sOp2_at, opNK_some, sOpIsi_at, sOpSl0_at, sOpSl1_at, sOpSl2_at, sOpSl3_at, ders_nil, dersC_some, ders_cons, truF_some, truK_some, sTruth_at, sTNot_at, sTAnd_at, sTOr_at, sIte_at, sAnd_at, sOr_at, andK_bl, orK_bl, sNot_at, notK_bl, truth_bl, truth_int, truth_lst, truth_tup, truth_non, sChain_at, chK_int, sNil_at, sSeq_at, sIf_at, sRet_at, sDrop_at, setF_some, setK_own, setK_frz, setK_ali, sSet_at, sAug_at, augK_int, tupK_0, lstK_0, tupK_1, lstK_1, tupK_2, lstK_2, tupK_3, lstK_3, tupK_4, lstK_4, tupK_5, lstK_5, tupK_6, lstK_6, tupK_7, lstK_7, tupK_8, lstK_8, tupK_9, lstK_9, tupK_10, lstK_10, tupK_11, lstK_11, tupK_12, lstK_12, tupK_13, lstK_13, tupK_14, lstK_14, tupK_15, lstK_15, tupK_16, lstK_16, sTup_at, sLst_at, sNewD_at, pinL_at, normA_nil, normA_cons, normC_frz, normC_own, normC_ali, argV_frz, argV_ownP, argV_ali, argO_own, argO_frz, argC_some, argsV_nil, argsV_cons, outsOf_nil, outsOf_v, outsOf_ali, outsK_own, putOuts_nil, putOuts_cons, optJ_some, callR_ok, callR_exc, callA_some, callN_some, sCall_at, endRun_nx, endRun_v, endRun_exc, endRun_ali, endO_frz, endO_own, outE_0, outE_1, outE_2, outE_3, outE_4, outE_5, outE_6, outV_at, seqK_some, sqK_some, seqB_lst, seqB_tup, seqB_ktp, seqB_scr, wSq_at, wRg1_at, rg2K_int, wRg2_at, zip2_some, zipK_some, wZip_at, bd_nm, bd_tup, bd_ktp, bNames_nil, bNames_cons, lpB_some, sFor_at, lcF_some, lcB_some, lcE_ok, lcH_some, sLc_at, sYes_at, hideS_nil, hideS_cons, hideK_none, hideK_frz, hideK_own, wipeE_nil, wipeE_cons, restE_nil, restE_cons, putSlot_at, mutP_some, mutF_own, mutQ_some, mutK_own, sMut_at, isLst_lst, extE_own, extD_lst, extK_own, sExt_at, sDisp_at, flat2_nil, flat2_cons, putQ_some, putE_own, putD_some, putF_some, putK_some, sPut_at, sPar_at, parB_some, parK_some, normB_nil, normB_cons, normBC_v, bindVs_nil, bindVs_frz, bindVs_own, setTK_some, sSetT_at, raiseK_some, sRaise_at, if_true, if_false, Bool.true_and, Bool.and_true, Bool.false_and, Bool.and_false, Bool.not_true, Bool.not_false, Bool.false_eq_true, reduceIte, List.length_cons, List.length_nil, List.map_cons, List.map_nil, List.contains_cons, List.contains_nil, List.any_nil, List.any_cons, beq_self_eq_true, Bool.true_or, Bool.or_true, Bool.false_or, Bool.or_false, isAli, List.nodup_nil, List.nodup_cons, List.not_mem_nil, List.mem_cons, or_false, false_or, not_false_eq_true, and_true, true_and, and_self, decide_true, decide_false, Nat.reduceAdd, Nat.reduceLeDiff, Nat.reduceBEq, Nat.reduceEqDiff, Nat.reduceLT, Int.reducePow, Int.reduceNeg, Int.reduceLT, Int.reduceLE, List.append_nil, List.nil_append, List.cons_append, List.isEmpty_cons, List.isEmpty_nil, decide_eq_true_eq]
  rw [key]
  simp only [six_set, eq_six, in_odd hr, bind_ok, bind_exc, toS_ok, toS_exc, seq_nx, seq_rt, seq_bk, seq_ct, seq_exc, loop_nx, loop_ct, loop_bk, loop_rt, loop_exc, nox_ok, sVar_at, varR_frz, varR_own, sLit_at, get_0, get_s, set_0, set_s, der_v, der_ali, slotO_s, frz1_v, frz1_ali, frzO_own, frzO_frz, frzs_nil, frzC_some, frzs_v, frzD_some, frzs_ali, sArgs_nil, sArgs_cons, fin_some, op1K_some, op2K_some, sOp1_at, sOp2_at, opNK_some, sOpIsi_at, sOpSl0_at, sOpSl1_at, sOpSl2_at, sOpSl3_at, ders_nil, dersC_some, ders_cons, truF_some, truK_some, sTruth_at, sTNot_at, sTAnd_at, sTOr_at, sIte_at, sAnd_at, sOr_at, andK_bl, orK_bl, sNot_at, notK_bl, truth_bl, truth_int, truth_lst, truth_tup, truth_non, sChain_at, chK_int, sNil_at, sSeq_at, sIf_at, sRet_at, sDrop_at, setF_some, setK_own, setK_frz, setK_ali, sSet_at, sAug_at, augK_int, tupK_0, lstK_0, tupK_1, lstK_1, tupK_2, lstK_2, tupK_3, lstK_3, tupK_4, lstK_4, tupK_5, lstK_5, tupK_6, lstK_6, tupK_7, lstK_7, tupK_8, lstK_8, tupK_9, lstK_9, tupK_10, lstK_10, tupK_11, lstK_11, tupK_12, lstK_12, tupK_13, lstK_13, tupK_14, lstK_14, tupK_15, lstK_15, tupK_16, lstK_16, sTup_at, sLst_at, sNewD_at, pinL_at, normA_nil, normA_cons, normC_frz, normC_own, normC_ali, argV_frz, argV_ownP, argV_ali, argO_own, argO_frz, argC_some, argsV_nil, argsV_cons, outsOf_nil, outsOf_v, outsOf_ali, outsK_own, putOuts_nil, putOuts_cons, optJ_some, callR_ok, callR_exc, callA_some, callN_some, sCall_at, endRun_nx, endRun_v, endRun_exc, endRun_ali, endO_frz, endO_own, outE_0, outE_1, outE_2, outE_3, outE_4, outE_5, outE_6, outV_at, seqK_some, sqK_some, seqB_lst, seqB_tup, seqB_ktp, seqB_scr, wSq_at, wRg1_at, rg2K_int, wRg2_at, zip2_some, zipK_some, wZip_at, bd_nm, bd_tup, bd_ktp, bNames_nil, bNames_cons, lpB_some, sFor_at, lcF_some, lcB_some, lcE_ok, lcH_some, sLc_at, sYes_at, hideS_nil, hideS_cons, hideK_none, hideK_frz, hideK_own, wipeE_nil, wipeE_cons, restE_nil, restE_cons, putSlot_at, mutP_some, mutF_own, mutQ_some, mutK_own, sMut_at, isLst_lst, extE_own, extD_lst, extK_own, sExt_at, sDisp_at, flat2_nil, flat2_cons, putQ_some, putE_own, putD_some, putF_some, putK_some, sPut_at, sPar_at, parB_some, parK_some, normB_nil, normB_cons, normBC_v, bindVs_nil, bindVs_frz, bindVs_own, setTK_some, sSetT_at, raiseK_some, sRaise_at, if_true, if_false, Bool.true_and, Bool.and_true, Bool.false_and, Bool.and_false, Bool.not_true, Bool.not_false, Bool.false_eq_true, reduceIte, List.length_cons, List.length_nil, List.map_cons, List.map_nil, List.contains_cons, List.contains_nil, List.any_nil, List.any_cons, beq_self_eq_true, Bool.true_or, Bool.or_true, Bool.false_or, Bool.or_false, isAli, List.nodup_nil, List.nodup_cons, List.not_mem_nil, List.mem_cons, or_false, false_or, not_false_eq_true, and_true, true_and, and_self, decide_true, decide_false, Nat.reduceAdd, Nat.reduceLeDiff, Nat.reduceBEq, Nat.reduceEqDiff, Nat.reduceLT, Int.reducePow, Int.reduceNeg, Int.reduceLT, Int.reduceLE, List.append_nil, List.nil_append, List.cons_append, List.isEmpty_cons, List.isEmpty_nil, decide_eq_true_eq]
  exact ⟨_, rfl, rfl⟩
theorem not_odd {r} (h : r ∈ rows) : dNotInV (tI r) (.lst (odds.map tI)) = some (false, .bl (!isOdd r)) := by
  have q : decide (dIn (tI r) (.lst (odds.map tI)) = some (isOdd r)) = true := List.all_eq_true.mp (show (rows.all fun r => decide (dIn (tI r) (.lst (odds.map tI)) = some (isOdd r))) = true by decide +kernel) r h
  unfold dNotInV
  rw [of_decide_eq_true q]
theorem plO {xs : List (List Int)} (h : xs.length < 1000000) (h2 : ∀ r ∈ xs, r.length < 1000000) : Pl 2 (.tup (xs.map tI)) := by
  refine .tup (fun x hx => ?_) (by simpa using h)
  obtain ⟨r, hr, rfl⟩ := List.mem_map.mp hx
  refine .tup (fun y hy => ?_) (by simpa using h2 r hr)
  obtain ⟨i, _, rfl⟩ := List.mem_map.mp hy
  exact .int i
theorem lenO : ((odds.map tI).length : Int) = 28 := by decide +kernel
theorem chk_runs (m : Nat) (S P : Option Val) : chkD (cl true (m + 20)) [S, P, some ⟨.own, .lst (odds.map tI)⟩, none, none, none, none, none, none, none] = .nx [S, P, some ⟨.own, .lst (odds.map tI)⟩, none, none, none, none, none, none, none] := by
  have o11 : cl true (m + 12 + 8) 11 [] = .ok false (.tup (odds.map tI)) [] := L11 true (m + 12)
  have o12 : cl true (m + 12 + 8) 12 [] = .ok false (.tup (evens.map tI)) [] := L12 true (m + 12)
  have it : ∀ r ∈ rows, lcB (sTruth (sOp (op2 dNotInV) [(sVar 9), (sVar 2)])) (sVar 9) [9] ((Tgt.nm 9).bd (tI r) [S, P, some ⟨.own, .lst (odds.map tI)⟩, none, none, none, none, none, none, none]) = .ok (if !isOdd r then some (tI r) else none) [S, P, some ⟨.own, .lst (odds.map tI)⟩, none, none, none, none, none, none, none] := fun r hr => by
    simp only [not_odd hr, bind_ok, bind_exc, toS_ok, toS_exc, seq_nx, seq_rt, seq_bk, seq_ct, seq_exc, loop_nx, loop_ct, loop_bk, loop_rt, loop_exc, nox_ok, sVar_at, varR_frz, varR_own, sLit_at, get_0, get_s, set_0, set_s, der_v, der_ali, slotO_s, frz1_v, frz1_ali, frzO_own, frzO_frz, frzs_nil, frzC_some, frzs_v, frzD_some, frzs_ali, sArgs_nil, sArgs_cons, fin_some, op1K_some, op2K_some, sOp1_at, sOp2_at, opNK_some, sOpIsi_at, sOpSl0_at, sOpSl1_at, sOpSl2_at, sOpSl3_at, ders_nil, dersC_some, ders_cons, truF_some, truK_some, sTruth_at, sTNot_at, sTAnd_at, sTOr_at, sIte_at, sAnd_at, sOr_at, andK_bl, orK_bl, sNot_at, notK_bl, truth_bl, truth_int, truth_lst, truth_tup, truth_non, sChain_at, chK_int, sNil_at, sSeq_at, sIf_at, sRet_at, sDrop_at, setF_some, setK_own, setK_frz, setK_ali, sSet_at, sAug_at, augK_int, tupK_0, lstK_0, tupK_1, lstK_1, tupK_2, lstK_2, tupK_3, lstK_3, tupK_4, lstK_4, tupK_5, lstK_5, tupK_6, lstK_6, tupK_7, lstK_7, tupK_8, lstK_8, tupK_9, lstK_9, tupK_10, lstK_10, tupK_11, lstK_11, tupK_12, lstK_12, tupK_13, lstK_13, tupK_14, lstK_14, tupK_15, lstK_15, tupK_16, lstK_16, sTup_at, sLst_at, sNewD_at, pinL_at, normA_nil, normA_cons, normC_frz, normC_own, normC_ali, argV_frz, argV_ownP, argV_ali, argO_own, argO_frz, argC_some, argsV_nil, argsV_cons, outsOf_nil, outsOf_v, outsOf_ali, outsK_own, putOuts_nil, putOuts_cons, optJ_some, callR_ok, callR_exc, callA_some, callN_some, sCall_at, endRun_nx, endRun_v, endRun_exc, endRun_ali, endO_frz, endO_own, outE_0, outE_1, outE_2, outE_3, outE_4, outE_5, outE_6, outV_at, seqK_some, sqK_some, seqB_lst, seqB_tup, seqB_ktp, seqB_scr, wSq_at, wRg1_at, rg2K_int, wRg2_at, zip2_some, zipK_some, wZip_at, bd_nm, bd_tup, bd_ktp, bNames_nil, bNames_cons, lpB_some, sFor_at, lcF_some, lcB_some, lcE_ok, lcH_some, sLc_at, sYes_at, hideS_nil, hideS_cons, hideK_none, hideK_frz, hideK_own, wipeE_nil, wipeE_cons, restE_nil, restE_cons, putSlot_at, mutP_some, mutF_own, mutQ_some, mutK_own, sMut_at, isLst_lst, extE_own, extD_lst, extK_own, sExt_at, sDisp_at, flat2_nil, flat2_cons, putQ_some, putE_own, putD_some, putF_some, putK_some, sPut_at, sPar_at, parB_some, parK_some, normB_nil, normB_cons, normBC_v, bindVs_nil, bindVs_frz, bindVs_own, setTK_some, sSetT_at, raiseK_some, sRaise_at, if_true, if_false, Bool.true_and, Bool.and_true, Bool.false_and, Bool.and_false, Bool.not_true, Bool.not_false, Bool.false_eq_true, reduceIte, List.length_cons, List.length_nil, List.map_cons, List.map_nil, List.contains_cons, List.contains_nil, List.any_nil, List.any_cons, beq_self_eq_true, Bool.true_or, Bool.or_true, Bool.false_or, Bool.or_false, isAli, List.nodup_nil, List.nodup_cons, List.not_mem_nil, List.mem_cons, or_false, false_or, not_false_eq_true, and_true, true_and, and_self, decide_true, decide_false, Nat.reduceAdd, Nat.reduceLeDiff, Nat.reduceBEq, Nat.reduceEqDiff, Nat.reduceLT, Int.reducePow, Int.reduceNeg, Int.reduceLT, Int.reduceLE, List.append_nil, List.nil_append, List.cons_append, List.isEmpty_cons, List.isEmpty_nil, decide_eq_true_eq]
    cases isOdd r <;> simp only [bind_ok, bind_exc, toS_ok, toS_exc, seq_nx, seq_rt, seq_bk, seq_ct, seq_exc, loop_nx, loop_ct, loop_bk, loop_rt, loop_exc, nox_ok, sVar_at, varR_frz, varR_own, sLit_at, get_0, get_s, set_0, set_s, der_v, der_ali, slotO_s, frz1_v, frz1_ali, frzO_own, frzO_frz, frzs_nil, frzC_some, frzs_v, frzD_some, frzs_ali, sArgs_nil, sArgs_cons, fin_some, op1K_some, op2K_some, sOp1_at, sOp2_at, opNK_some, sOpIsi_at, sOpSl0_at, sOpSl1_at, sOpSl2_at, sOpSl3_at, ders_nil, dersC_some, ders_cons, truF_some, truK_some, sTruth_at, sTNot_at, sTAnd_at, sTOr_at, sIte_at, sAnd_at, sOr_at, andK_bl, orK_bl, sNot_at, notK_bl, truth_bl, truth_int, truth_lst, truth_tup, truth_non, sChain_at, chK_int, sNil_at, sSeq_at, sIf_at, sRet_at, sDrop_at, setF_some, setK_own, setK_frz, setK_ali, sSet_at, sAug_at, augK_int, tupK_0, lstK_0, tupK_1, lstK_1, tupK_2, lstK_2, tupK_3, lstK_3, tupK_4, lstK_4, tupK_5, lstK_5, tupK_6, lstK_6, tupK_7, lstK_7, tupK_8, lstK_8, tupK_9, lstK_9, tupK_10, lstK_10, tupK_11, lstK_11, tupK_12, lstK_12, tupK_13, lstK_13, tupK_14, lstK_14, tupK_15, lstK_15, tupK_16, lstK_16, sTup_at, sLst_at, sNewD_at, pinL_at, normA_nil, normA_cons, normC_frz, normC_own, normC_ali, argV_frz, argV_ownP, argV_ali, argO_own, argO_frz, argC_some, argsV_nil, argsV_cons, outsOf_nil, outsOf_v, outsOf_ali, outsK_own, putOuts_nil, putOuts_cons, optJ_some, callR_ok, callR_exc, callA_some, callN_some, sCall_at, endRun_nx, endRun_v, endRun_exc, endRun_ali, endO_frz, endO_own, outE_0, outE_1, outE_2, outE_3, outE_4, outE_5, outE_6, outV_at, seqK_some, sqK_some, seqB_lst, seqB_tup, seqB_ktp, seqB_scr, wSq_at, wRg1_at, rg2K_int, wRg2_at, zip2_some, zipK_some, wZip_at, bd_nm, bd_tup, bd_ktp, bNames_nil, bNames_cons, lpB_some, sFor_at, lcF_some, lcB_some, lcE_ok, lcH_some, sLc_at, sYes_at, hideS_nil, hideS_cons, hideK_none, hideK_frz, hideK_own, wipeE_nil, wipeE_cons, restE_nil, restE_cons, putSlot_at, mutP_some, mutF_own, mutQ_some, mutK_own, sMut_at, isLst_lst, extE_own, extD_lst, extK_own, sExt_at, sDisp_at, flat2_nil, flat2_cons, putQ_some, putE_own, putD_some, putF_some, putK_some, sPut_at, sPar_at, parB_some, parK_some, normB_nil, normB_cons, normBC_v, bindVs_nil, bindVs_frz, bindVs_own, setTK_some, sSetT_at, raiseK_some, sRaise_at, if_true, if_false, Bool.true_and, Bool.and_true, Bool.false_and, Bool.and_false, Bool.not_true, Bool.not_false, Bool.false_eq_true, reduceIte, List.length_cons, List.length_nil, List.map_cons, List.map_nil, List.contains_cons, List.contains_nil, List.any_nil, List.any_cons, beq_self_eq_true, Bool.true_or, Bool.or_true, Bool.false_or, Bool.or_false, isAli, List.nodup_nil, List.nodup_cons, List.not_mem_nil, List.mem_cons, or_false, false_or, not_false_eq_true, and_true, true_and, and_self, decide_true, decide_false, Nat.reduceAdd, Nat.reduceLeDiff, Nat.reduceBEq, Nat.reduceEqDiff, Nat.reduceLT, Int.reducePow, Int.reduceNeg, Int.reduceLT, Int.reduceLE, List.append_nil, List.nil_append, List.cons_append, List.isEmpty_cons, List.isEmpty_nil, decide_eq_true_eq]
  have key := lcS_filter (bd := (Tgt.nm 9).bd) (vs := [9]) rows tI (fun r => !isOdd r) it (by decide +kernel)
  have ee : rows.filter (fun r => !isOdd r) = evens := rfl
  rw [ee] at key
  have l1 := L16 true 2 (m + 15) _ (plO (xs := odds) (by decide +kernel) (by decide +kernel))
  have l2 := L16 true 2 (m + 15) _ (plO (xs := evens) (by decide +kernel) (by decide +kernel))
  unfold chkD
  simp only [o11, o12, fTup_l, l1, fLen_l, lenO, ne_self, L23 true (m + 16), bind_ok, bind_exc, toS_ok, toS_exc, seq_nx, seq_rt, seq_bk, seq_ct, seq_exc, loop_nx, loop_ct, loop_bk, loop_rt, loop_exc, nox_ok, sVar_at, varR_frz, varR_own, sLit_at, get_0, get_s, set_0, set_s, der_v, der_ali, slotO_s, frz1_v, frz1_ali, frzO_own, frzO_frz, frzs_nil, frzC_some, frzs_v, frzD_some, frzs_ali, sArgs_nil, sArgs_cons, fin_some, op1K_some, op2K_some, sOp1_at, sOp2_at, opNK_some, sOpIsi_at, sOpSl0_at, sOpSl1_at, sOpSl2_at, sOpSl3_at, ders_nil, dersC_some, ders_cons, truF_some, truK_some, sTruth_at, sTNot_at, sTAnd_at, sTOr_at, sIte_at, sAnd_at, sOr_at, andK_bl, orK_bl, sNot_at, notK_bl, truth_bl, truth_int, truth_lst, truth_tup, truth_non, sChain_at, chK_int, sNil_at, sSeq_at, sIf_at, sRet_at, sDrop_at, setF_some, setK_own, setK_frz, setK_ali, sSet_at, sAug_at, augK_int, tupK_0, lstK_0, tupK_1, lstK_1, tupK_2, lstK_2, tupK_3, lstK_3, tupK_4, lstK_4, tupK_5, lstK_5, tupK_6, lstK_6, tupK_7, lstK_7, tupK_8, lstK_8, tupK_9, lstK_9, tupK_10, lstK_10, tupK_11, lstK_11, tupK_12, lstK_12, tupK_13, lstK_13, tupK_14, lstK_14, tupK_15, lstK_15, tupK_16, lstK_16, sTup_at, sLst_at, sNewD_at, pinL_at, normA_nil, normA_cons, normC_frz, normC_own, normC_ali, argV_frz, argV_ownP, argV_ali, argO_own, argO_frz, argC_some, argsV_nil, argsV_cons, outsOf_nil, outsOf_v, outsOf_ali, outsK_own, putOuts_nil, putOuts_cons, optJ_some, callR_ok, callR_exc, callA_some, callN_some, sCall_at, endRun_nx, endRun_v, endRun_exc, endRun_ali, endO_frz, endO_own, outE_0, outE_1, outE_2, outE_3, outE_4, outE_5, outE_6, outV_at, seqK_some, sqK_some, seqB_lst, seqB_tup, seqB_ktp, seqB_scr, wSq_at, wRg1_at, rg2K_int, wRg2_at, zip2_some, zipK_some, wZip_at, bd_nm, bd_tup, bd_ktp, bNames_nil, bNames_cons, lpB_some, sFor_at, lcF_some, lcB_some, lcE_ok, lcH_some, sLc_at, sYes_at, hideS_nil, hideS_cons, hideK_none, hideK_frz, hideK_own, wipeE_nil, wipeE_cons, restE_nil, restE_cons, putSlot_at, mutP_some, mutF_own, mutQ_some, mutK_own, sMut_at, isLst_lst, extE_own, extD_lst, extK_own, sExt_at, sDisp_at, flat2_nil, flat2_cons, putQ_some, putE_own, putD_some, putF_some, putK_some, sPut_at, sPar_at, parB_some, parK_some, normB_nil, normB_cons, normBC_v, bindVs_nil, bindVs_frz, bindVs_own, setTK_some, sSetT_at, raiseK_some, sRaise_at, if_true, if_false, Bool.true_and, Bool.and_true, Bool.false_and, Bool.and_false, Bool.not_true, Bool.not_false, Bool.false_eq_true, reduceIte, List.length_cons, List.length_nil, List.map_cons, List.map_nil, List.contains_cons, List.contains_nil, List.any_nil, List.any_cons, beq_self_eq_true, Bool.true_or, Bool.or_true, Bool.false_or, Bool.or_false, isAli, List.nodup_nil, List.nodup_cons, List.not_mem_nil, List.mem_cons, or_false, false_or, not_false_eq_true, and_true, true_and, and_self, decide_true, decide_false, Nat.reduceAdd, Nat.reduceLeDiff, Nat.reduceBEq, Nat.reduceEqDiff, Nat.reduceLT, Int.reducePow, Int.reduceNeg, Int.reduceLT, Int.reduceLE, List.append_nil, List.nil_append, List.cons_append, List.isEmpty_cons, List.isEmpty_nil, decide_eq_true_eq]
  rw [key]
  simp only [sortX_I se1 se2, fTup_l, l2, bind_ok, bind_exc, toS_ok, toS_exc, seq_nx, seq_rt, seq_bk, seq_ct, seq_exc, loop_nx, loop_ct, loop_bk, loop_rt, loop_exc, nox_ok, sVar_at, varR_frz, varR_own, sLit_at, get_0, get_s, set_0, set_s, der_v, der_ali, slotO_s, frz1_v, frz1_ali, frzO_own, frzO_frz, frzs_nil, frzC_some, frzs_v, frzD_some, frzs_ali, sArgs_nil, sArgs_cons, fin_some, op1K_some, op2K_some, sOp1_at, sOp2_at, opNK_some, sOpIsi_at, sOpSl0_at, sOpSl1_at, sOpSl2_at, sOpSl3_at, ders_nil, dersC_some, ders_cons, truF_some, truK_some, sTruth_at, sTNot_at, sTAnd_at, sTOr_at, sIte_at, sAnd_at, sOr_at, andK_bl, orK_bl, sNot_at, notK_bl, truth_bl, truth_int, truth_lst, truth_tup, truth_non, sChain_at, chK_int, sNil_at, sSeq_at, sIf_at, sRet_at, sDrop_at, setF_some, setK_own, setK_frz, setK_ali, sSet_at, sAug_at, augK_int, tupK_0, lstK_0, tupK_1, lstK_1, tupK_2, lstK_2, tupK_3, lstK_3, tupK_4, lstK_4, tupK_5, lstK_5, tupK_6, lstK_6, tupK_7, lstK_7, tupK_8, lstK_8, tupK_9, lstK_9, tupK_10, lstK_10, tupK_11, lstK_11, tupK_12, lstK_12, tupK_13, lstK_13, tupK_14, lstK_14, tupK_15, lstK_15, tupK_16, lstK_16, sTup_at, sLst_at, sNewD_at, pinL_at, normA_nil, normA_cons, normC_frz, normC_own, normC_ali, argV_frz, argV_ownP, argV_ali, argO_own, argO_frz, argC_some, argsV_nil, argsV_cons, outsOf_nil, outsOf_v, outsOf_ali, outsK_own, putOuts_nil, putOuts_cons, optJ_some, callR_ok, callR_exc, callA_some, callN_some, sCall_at, endRun_nx, endRun_v, endRun_exc, endRun_ali, endO_frz, endO_own, outE_0, outE_1, outE_2, outE_3, outE_4, outE_5, outE_6, outV_at, seqK_some, sqK_some, seqB_lst, seqB_tup, seqB_ktp, seqB_scr, wSq_at, wRg1_at, rg2K_int, wRg2_at, zip2_some, zipK_some, wZip_at, bd_nm, bd_tup, bd_ktp, bNames_nil, bNames_cons, lpB_some, sFor_at, lcF_some, lcB_some, lcE_ok, lcH_some, sLc_at, sYes_at, hideS_nil, hideS_cons, hideK_none, hideK_frz, hideK_own, wipeE_nil, wipeE_cons, restE_nil, restE_cons, putSlot_at, mutP_some, mutF_own, mutQ_some, mutK_own, sMut_at, isLst_lst, extE_own, extD_lst, extK_own, sExt_at, sDisp_at, flat2_nil, flat2_cons, putQ_some, putE_own, putD_some, putF_some, putK_some, sPut_at, sPar_at, parB_some, parK_some, normB_nil, normB_cons, normBC_v, bindVs_nil, bindVs_frz, bindVs_own, setTK_some, sSetT_at, raiseK_some, sRaise_at, if_true, if_false, Bool.true_and, Bool.and_true, Bool.false_and, Bool.and_false, Bool.not_true, Bool.not_false, Bool.false_eq_true, reduceIte, List.length_cons, List.length_nil, List.map_cons, List.map_nil, List.contains_cons, List.contains_nil, List.any_nil, List.any_cons, beq_self_eq_true, Bool.true_or, Bool.or_true, Bool.false_or, Bool.or_false, isAli, List.nodup_nil, List.nodup_cons, List.not_mem_nil, List.mem_cons, or_false, false_or, not_false_eq_true, and_true, true_and, and_self, decide_true, decide_false, Nat.reduceAdd, Nat.reduceLeDiff, Nat.reduceBEq, Nat.reduceEqDiff, Nat.reduceLT, Int.reducePow, Int.reduceNeg, Int.reduceLT, Int.reduceLE, List.append_nil, List.nil_append, List.cons_append, List.isEmpty_cons, List.isEmpty_nil, decide_eq_true_eq]
theorem lap_runs (m : Nat) (ns : List Int) (S : Option Val) (O : D) (i : Int) (ρ : En) (h : ∃ (a d c f : Int) (y : Option Val), PenOk ns a d c f ∧ ρ = [S, some ⟨.own, penD ns a d c f⟩, some ⟨.own, O⟩, y, none, none, none, none, none, none]) :
    ∃ ρ', lpB (lapB (cl true (m + 20))) ((Tgt.nm 3).bd (.int i) ρ) = .nx ρ' ∧ ∃ (a d c f : Int) (y : Option Val), PenOk ns a d c f ∧ ρ' = [S, some ⟨.own, penD ns a d c f⟩, some ⟨.own, O⟩, y, none, none, none, none, none, none] := by
  obtain ⟨a, d, c, f, y, h, rfl⟩ := h
  obtain ⟨a1, d1, c1, f1, h1, e1⟩ := L26 true (m + 8) ns a d c f h
  obtain ⟨a2, d2, c2, f2, h2, e2⟩ := L27 m ns a1 d1 c1 f1 h1
  refine ⟨_, ?_, a2, d2, c2, f2, some (fz (.int i)), h2, rfl⟩
  unfold lapB
  simp only [e1, e2, bind_ok, bind_exc, toS_ok, toS_exc, seq_nx, seq_rt, seq_bk, seq_ct, seq_exc, loop_nx, loop_ct, loop_bk, loop_rt, loop_exc, nox_ok, sVar_at, varR_frz, varR_own, sLit_at, get_0, get_s, set_0, set_s, der_v, der_ali, slotO_s, frz1_v, frz1_ali, frzO_own, frzO_frz, frzs_nil, frzC_some, frzs_v, frzD_some, frzs_ali, sArgs_nil, sArgs_cons, fin_some, op1K_some, op2K_some, sOp1_at, sOp2_at, opNK_some, sOpIsi_at, sOpSl0_at, sOpSl1_at, sOpSl2_at, sOpSl3_at, ders_nil, dersC_some, ders_cons, truF_some, truK_some, sTruth_at, sTNot_at, sTAnd_at, sTOr_at, sIte_at, sAnd_at, sOr_at, andK_bl, orK_bl, sNot_at, notK_bl, truth_bl, truth_int, truth_lst, truth_tup, truth_non, sChain_at, chK_int, sNil_at, sSeq_at, sIf_at, sRet_at, sDrop_at, setF_some, setK_own, setK_frz, setK_ali, sSet_at, sAug_at, augK_int, tupK_0, lstK_0, tupK_1, lstK_1, tupK_2, lstK_2, tupK_3, lstK_3, tupK_4, lstK_4, tupK_5, lstK_5, tupK_6, lstK_6, tupK_7, lstK_7, tupK_8, lstK_8, tupK_9, lstK_9, tupK_10, lstK_10, tupK_11, lstK_11, tupK_12, lstK_12, tupK_13, lstK_13, tupK_14, lstK_14, tupK_15, lstK_15, tupK_16, lstK_16, sTup_at, sLst_at, sNewD_at, pinL_at, normA_nil, normA_cons, normC_frz, normC_own, normC_ali, argV_frz, argV_ownP, argV_ali, argO_own, argO_frz, argC_some, argsV_nil, argsV_cons, outsOf_nil, outsOf_v, outsOf_ali, outsK_own, putOuts_nil, putOuts_cons, optJ_some, callR_ok, callR_exc, callA_some, callN_some, sCall_at, endRun_nx, endRun_v, endRun_exc, endRun_ali, endO_frz, endO_own, outE_0, outE_1, outE_2, outE_3, outE_4, outE_5, outE_6, outV_at, seqK_some, sqK_some, seqB_lst, seqB_tup, seqB_ktp, seqB_scr, wSq_at, wRg1_at, rg2K_int, wRg2_at, zip2_some, zipK_some, wZip_at, bd_nm, bd_tup, bd_ktp, bNames_nil, bNames_cons, lpB_some, sFor_at, lcF_some, lcB_some, lcE_ok, lcH_some, sLc_at, sYes_at, hideS_nil, hideS_cons, hideK_none, hideK_frz, hideK_own, wipeE_nil, wipeE_cons, restE_nil, restE_cons, putSlot_at, mutP_some, mutF_own, mutQ_some, mutK_own, sMut_at, isLst_lst, extE_own, extD_lst, extK_own, sExt_at, sDisp_at, flat2_nil, flat2_cons, putQ_some, putE_own, putD_some, putF_some, putK_some, sPut_at, sPar_at, parB_some, parK_some, normB_nil, normB_cons, normBC_v, bindVs_nil, bindVs_frz, bindVs_own, setTK_some, sSetT_at, raiseK_some, sRaise_at, if_true, if_false, Bool.true_and, Bool.and_true, Bool.false_and, Bool.and_false, Bool.not_true, Bool.not_false, Bool.false_eq_true, reduceIte, List.length_cons, List.length_nil, List.map_cons, List.map_nil, List.contains_cons, List.contains_nil, List.any_nil, List.any_cons, beq_self_eq_true, Bool.true_or, Bool.or_true, Bool.false_or, Bool.or_false, isAli, List.nodup_nil, List.nodup_cons, List.not_mem_nil, List.mem_cons, or_false, false_or, not_false_eq_true, and_true, true_and, and_self, decide_true, decide_false, Nat.reduceAdd, Nat.reduceLeDiff, Nat.reduceBEq, Nat.reduceEqDiff, Nat.reduceLT, Int.reducePow, Int.reduceNeg, Int.reduceLT, Int.reduceLE, List.append_nil, List.nil_append, List.cons_append, List.isEmpty_cons, List.isEmpty_nil, decide_eq_true_eq]
theorem rg20 {ρ} : rg1K ρ (some (.int 20)) = .ok ((List.range 20).map fun (i : Nat) => D.int (0 + (i : Int) * 1)) ρ := rg1K_nat (n := 20) (by decide)
def LV : Nat := 60
theorem L29 (m : Nat) (ns : List Int) : ∃ outs, cl true (m + 21) 29 [fz (.scr ns)] = .ok false (.bl true) outs := by
  obtain ⟨f0, e13⟩ := L13 true (m + 17) ns
  have e25 : cl true (m + 15 + 5) 25 [] = .ok true (.lst (odds.map tI)) [] := L25 true (m + 15)
  obtain ⟨ρ1, e, a, d, c, f, y, h, rfl⟩ := loopS_inv (bd := (Tgt.nm 3).bd) (body := lapB (cl true (m + 20))) (fun _ ρ => ∃ (a d c f : Int) (y : Option Val), PenOk ns a d c f ∧ ρ = [some (fz (.scr ns)), some ⟨.own, penD ns a d c f⟩, some ⟨.own, .lst (odds.map tI)⟩, y, none, none, none, none, none, none])
    (xs := (List.range 20).map fun (i : Nat) => D.int (0 + (i : Int) * 1)) (ρ := [some (fz (.scr ns)), some ⟨.own, penD ns 0 0 0 f0⟩, some ⟨.own, .lst (odds.map tI)⟩, none, none, none, none, none, none, none])
    (fun j x ρ hj hI => by
      rw [List.getElem?_map] at hj
      obtain ⟨i, _, rfl⟩ := Option.map_eq_some_iff.mp hj
      exact lap_runs m ns _ _ _ ρ hI) ⟨0, 0, 0, f0, none, ⟨by decide, by decide⟩, rfl⟩
  obtain ⟨x, a1, d1, c1, f1, h1, m1, _, e15⟩ := L15 true (m + 16) ns a d c f (odds.map tI) h (by decide +kernel)
  obtain ⟨r, hr, rfl⟩ := List.mem_map.mp m1
  rw [odd_is] at hr
  obtain ⟨ρ2, e2, h2⟩ := ret_runs (some (fz (.scr ns))) (some ⟨.own, penD ns a1 d1 c1 f1⟩) y r hr (some (fz (.int 27))) (some (fz (.int 26))) (some (fz (tI [0, 0, 0, 0, 1, 1]))) ⟨_, rfl⟩
  refine ⟨[some (fz (.scr ns))], ?_⟩
  · rw [q29 true (m + 18), g29_is]
    unfold g29s
    simp only [e13, e25, chk_runs m, rg20, bind_ok, bind_exc, toS_ok, toS_exc, seq_nx, seq_rt, seq_bk, seq_ct, seq_exc, loop_nx, loop_ct, loop_bk, loop_rt, loop_exc, nox_ok, sVar_at, varR_frz, varR_own, sLit_at, get_0, get_s, set_0, set_s, der_v, der_ali, slotO_s, frz1_v, frz1_ali, frzO_own, frzO_frz, frzs_nil, frzC_some, frzs_v, frzD_some, frzs_ali, sArgs_nil, sArgs_cons, fin_some, op1K_some, op2K_some, sOp1_at, sOp2_at, opNK_some, sOpIsi_at, sOpSl0_at, sOpSl1_at, sOpSl2_at, sOpSl3_at, ders_nil, dersC_some, ders_cons, truF_some, truK_some, sTruth_at, sTNot_at, sTAnd_at, sTOr_at, sIte_at, sAnd_at, sOr_at, andK_bl, orK_bl, sNot_at, notK_bl, truth_bl, truth_int, truth_lst, truth_tup, truth_non, sChain_at, chK_int, sNil_at, sSeq_at, sIf_at, sRet_at, sDrop_at, setF_some, setK_own, setK_frz, setK_ali, sSet_at, sAug_at, augK_int, tupK_0, lstK_0, tupK_1, lstK_1, tupK_2, lstK_2, tupK_3, lstK_3, tupK_4, lstK_4, tupK_5, lstK_5, tupK_6, lstK_6, tupK_7, lstK_7, tupK_8, lstK_8, tupK_9, lstK_9, tupK_10, lstK_10, tupK_11, lstK_11, tupK_12, lstK_12, tupK_13, lstK_13, tupK_14, lstK_14, tupK_15, lstK_15, tupK_16, lstK_16, sTup_at, sLst_at, sNewD_at, pinL_at, normA_nil, normA_cons, normC_frz, normC_own, normC_ali, argV_frz, argV_ownP, argV_ali, argO_own, argO_frz, argC_some, argsV_nil, argsV_cons, outsOf_nil, outsOf_v, outsOf_ali, outsK_own, putOuts_nil, putOuts_cons, optJ_some, callR_ok, callR_exc, callA_some, callN_some, sCall_at, endRun_nx, endRun_v, endRun_exc, endRun_ali, endO_frz, endO_own, outE_0, outE_1, outE_2, outE_3, outE_4, outE_5, outE_6, outV_at, seqK_some, sqK_some, seqB_lst, seqB_tup, seqB_ktp, seqB_scr, wSq_at, wRg1_at, rg2K_int, wRg2_at, zip2_some, zipK_some, wZip_at, bd_nm, bd_tup, bd_ktp, bNames_nil, bNames_cons, lpB_some, sFor_at, lcF_some, lcB_some, lcE_ok, lcH_some, sLc_at, sYes_at, hideS_nil, hideS_cons, hideK_none, hideK_frz, hideK_own, wipeE_nil, wipeE_cons, restE_nil, restE_cons, putSlot_at, mutP_some, mutF_own, mutQ_some, mutK_own, sMut_at, isLst_lst, extE_own, extD_lst, extK_own, sExt_at, sDisp_at, flat2_nil, flat2_cons, putQ_some, putE_own, putD_some, putF_some, putK_some, sPut_at, sPar_at, parB_some, parK_some, normB_nil, normB_cons, normBC_v, bindVs_nil, bindVs_frz, bindVs_own, setTK_some, sSetT_at, raiseK_some, sRaise_at, if_true, if_false, Bool.true_and, Bool.and_true, Bool.false_and, Bool.and_false, Bool.not_true, Bool.not_false, Bool.false_eq_true, reduceIte, List.length_cons, List.length_nil, List.map_cons, List.map_nil, List.contains_cons, List.contains_nil, List.any_nil, List.any_cons, beq_self_eq_true, Bool.true_or, Bool.or_true, Bool.false_or, Bool.or_false, isAli, List.nodup_nil, List.nodup_cons, List.not_mem_nil, List.mem_cons, or_false, false_or, not_false_eq_true, and_true, true_and, and_self, decide_true, decide_false, Nat.reduceAdd, Nat.reduceLeDiff, Nat.reduceBEq, Nat.reduceEqDiff, Nat.reduceLT, Int.reducePow, Int.reduceNeg, Int.reduceLT, Int.reduceLE, List.append_nil, List.nil_append, List.cons_append, List.isEmpty_cons, List.isEmpty_nil, decide_eq_true_eq]
    rw [e]
    simp only [e15, bind_ok, bind_exc, toS_ok, toS_exc, seq_nx, seq_rt, seq_bk, seq_ct, seq_exc, loop_nx, loop_ct, loop_bk, loop_rt, loop_exc, nox_ok, sVar_at, varR_frz, varR_own, sLit_at, get_0, get_s, set_0, set_s, der_v, der_ali, slotO_s, frz1_v, frz1_ali, frzO_own, frzO_frz, frzs_nil, frzC_some, frzs_v, frzD_some, frzs_ali, sArgs_nil, sArgs_cons, fin_some, op1K_some, op2K_some, sOp1_at, sOp2_at, opNK_some, sOpIsi_at, sOpSl0_at, sOpSl1_at, sOpSl2_at, sOpSl3_at, ders_nil, dersC_some, ders_cons, truF_some, truK_some, sTruth_at, sTNot_at, sTAnd_at, sTOr_at, sIte_at, sAnd_at, sOr_at, andK_bl, orK_bl, sNot_at, notK_bl, truth_bl, truth_int, truth_lst, truth_tup, truth_non, sChain_at, chK_int, sNil_at, sSeq_at, sIf_at, sRet_at, sDrop_at, setF_some, setK_own, setK_frz, setK_ali, sSet_at, sAug_at, augK_int, tupK_0, lstK_0, tupK_1, lstK_1, tupK_2, lstK_2, tupK_3, lstK_3, tupK_4, lstK_4, tupK_5, lstK_5, tupK_6, lstK_6, tupK_7, lstK_7, tupK_8, lstK_8, tupK_9, lstK_9, tupK_10, lstK_10, tupK_11, lstK_11, tupK_12, lstK_12, tupK_13, lstK_13, tupK_14, lstK_14, tupK_15, lstK_15, tupK_16, lstK_16, sTup_at, sLst_at, sNewD_at, pinL_at, normA_nil, normA_cons, normC_frz, normC_own, normC_ali, argV_frz, argV_ownP, argV_ali, argO_own, argO_frz, argC_some, argsV_nil, argsV_cons, outsOf_nil, outsOf_v, outsOf_ali, outsK_own, putOuts_nil, putOuts_cons, optJ_some, callR_ok, callR_exc, callA_some, callN_some, sCall_at, endRun_nx, endRun_v, endRun_exc, endRun_ali, endO_frz, endO_own, outE_0, outE_1, outE_2, outE_3, outE_4, outE_5, outE_6, outV_at, seqK_some, sqK_some, seqB_lst, seqB_tup, seqB_ktp, seqB_scr, wSq_at, wRg1_at, rg2K_int, wRg2_at, zip2_some, zipK_some, wZip_at, bd_nm, bd_tup, bd_ktp, bNames_nil, bNames_cons, lpB_some, sFor_at, lcF_some, lcB_some, lcE_ok, lcH_some, sLc_at, sYes_at, hideS_nil, hideS_cons, hideK_none, hideK_frz, hideK_own, wipeE_nil, wipeE_cons, restE_nil, restE_cons, putSlot_at, mutP_some, mutF_own, mutQ_some, mutK_own, sMut_at, isLst_lst, extE_own, extD_lst, extK_own, sExt_at, sDisp_at, flat2_nil, flat2_cons, putQ_some, putE_own, putD_some, putF_some, putK_some, sPut_at, sPar_at, parB_some, parK_some, normB_nil, normB_cons, normBC_v, bindVs_nil, bindVs_frz, bindVs_own, setTK_some, sSetT_at, raiseK_some, sRaise_at, if_true, if_false, Bool.true_and, Bool.and_true, Bool.false_and, Bool.and_false, Bool.not_true, Bool.not_false, Bool.false_eq_true, reduceIte, List.length_cons, List.length_nil, List.map_cons, List.map_nil, List.contains_cons, List.contains_nil, List.any_nil, List.any_cons, beq_self_eq_true, Bool.true_or, Bool.or_true, Bool.false_or, Bool.or_false, isAli, List.nodup_nil, List.nodup_cons, List.not_mem_nil, List.mem_cons, or_false, false_or, not_false_eq_true, and_true, true_and, and_self, decide_true, decide_false, Nat.reduceAdd, Nat.reduceLeDiff, Nat.reduceBEq, Nat.reduceEqDiff, Nat.reduceLT, Int.reducePow, Int.reduceNeg, Int.reduceLT, Int.reduceLE, List.append_nil, List.nil_append, List.cons_append, List.isEmpty_cons, List.isEmpty_nil, decide_eq_true_eq]
    rw [odd_is, loop_runs m]
    simp only [e2, h2, bind_ok, bind_exc, toS_ok, toS_exc, seq_nx, seq_rt, seq_bk, seq_ct, seq_exc, loop_nx, loop_ct, loop_bk, loop_rt, loop_exc, nox_ok, sVar_at, varR_frz, varR_own, sLit_at, get_0, get_s, set_0, set_s, der_v, der_ali, slotO_s, frz1_v, frz1_ali, frzO_own, frzO_frz, frzs_nil, frzC_some, frzs_v, frzD_some, frzs_ali, sArgs_nil, sArgs_cons, fin_some, op1K_some, op2K_some, sOp1_at, sOp2_at, opNK_some, sOpIsi_at, sOpSl0_at, sOpSl1_at, sOpSl2_at, sOpSl3_at, ders_nil, dersC_some, ders_cons, truF_some, truK_some, sTruth_at, sTNot_at, sTAnd_at, sTOr_at, sIte_at, sAnd_at, sOr_at, andK_bl, orK_bl, sNot_at, notK_bl, truth_bl, truth_int, truth_lst, truth_tup, truth_non, sChain_at, chK_int, sNil_at, sSeq_at, sIf_at, sRet_at, sDrop_at, setF_some, setK_own, setK_frz, setK_ali, sSet_at, sAug_at, augK_int, tupK_0, lstK_0, tupK_1, lstK_1, tupK_2, lstK_2, tupK_3, lstK_3, tupK_4, lstK_4, tupK_5, lstK_5, tupK_6, lstK_6, tupK_7, lstK_7, tupK_8, lstK_8, tupK_9, lstK_9, tupK_10, lstK_10, tupK_11, lstK_11, tupK_12, lstK_12, tupK_13, lstK_13, tupK_14, lstK_14, tupK_15, lstK_15, tupK_16, lstK_16, sTup_at, sLst_at, sNewD_at, pinL_at, normA_nil, normA_cons, normC_frz, normC_own, normC_ali, argV_frz, argV_ownP, argV_ali, argO_own, argO_frz, argC_some, argsV_nil, argsV_cons, outsOf_nil, outsOf_v, outsOf_ali, outsK_own, putOuts_nil, putOuts_cons, optJ_some, callR_ok, callR_exc, callA_some, callN_some, sCall_at, endRun_nx, endRun_v, endRun_exc, endRun_ali, endO_frz, endO_own, outE_0, outE_1, outE_2, outE_3, outE_4, outE_5, outE_6, outV_at, seqK_some, sqK_some, seqB_lst, seqB_tup, seqB_ktp, seqB_scr, wSq_at, wRg1_at, rg2K_int, wRg2_at, zip2_some, zipK_some, wZip_at, bd_nm, bd_tup, bd_ktp, bNames_nil, bNames_cons, lpB_some, sFor_at, lcF_some, lcB_some, lcE_ok, lcH_some, sLc_at, sYes_at, hideS_nil, hideS_cons, hideK_none, hideK_frz, hideK_own, wipeE_nil, wipeE_cons, restE_nil, restE_cons, putSlot_at, mutP_some, mutF_own, mutQ_some, mutK_own, sMut_at, isLst_lst, extE_own, extD_lst, extK_own, sExt_at, sDisp_at, flat2_nil, flat2_cons, putQ_some, putE_own, putD_some, putF_some, putK_some, sPut_at, sPar_at, parB_some, parK_some, normB_nil, normB_cons, normBC_v, bindVs_nil, bindVs_frz, bindVs_own, setTK_some, sSetT_at, raiseK_some, sRaise_at, if_true, if_false, Bool.true_and, Bool.and_true, Bool.false_and, Bool.and_false, Bool.not_true, Bool.not_false, Bool.false_eq_true, reduceIte, List.length_cons, List.length_nil, List.map_cons, List.map_nil, List.contains_cons, List.contains_nil, List.any_nil, List.any_cons, beq_self_eq_true, Bool.true_or, Bool.or_true, Bool.false_or, Bool.or_false, isAli, List.nodup_nil, List.nodup_cons, List.not_mem_nil, List.mem_cons, or_false, false_or, not_false_eq_true, and_true, true_and, and_self, decide_true, decide_false, Nat.reduceAdd, Nat.reduceLeDiff, Nat.reduceBEq, Nat.reduceEqDiff, Nat.reduceLT, Int.reducePow, Int.reduceNeg, Int.reduceLT, Int.reduceLE, List.append_nil, List.nil_append, List.cons_append, List.isEmpty_cons, List.isEmpty_nil, decide_eq_true_eq]
theorem plain (ns : List Int) (h1 : ns.length ≤ 63) (h2 : ∀ z ∈ ns, Builtin.Int.intBits z ≤ 1048576) : ∃ outs, (pg.top dd.fl dd.sf).call LV 29 [⟨.frz, .scr ns⟩] = .ok false (.bl true) outs := by
  obtain ⟨o, e⟩ := L29 39 ns
  refine ⟨o, ?_⟩
  rw [cl_t] at e
  exact e
end Hd

set_option maxHeartbeats 0
/-! ## the end -/
open PySem PySem.W PySem.Calls PyProof.Rows
set_option maxRecDepth 100000 in
set_option maxHeartbeats 0 in
theorem PySem.Challenge.cw_twentyseven_k84_whole_bits_and_forms_holds : PySem.Challenge.rw_twentyseven_k84_whole_bits_and_forms.Holds := by
  w_on; o_law
  refine HandSHeadRun.head_any (r := OpenLaw.row PySem.Challenge.rw_twentyseven_k84_whole_bits_and_forms) (q := view (OpenLaw.row PySem.Challenge.rw_twentyseven_k84_whole_bits_and_forms).prog [51]) (H := Hd.hk) (ob := Hd.ob) (M := 40000) (loose := Hd.loose) (d := HandSHeadRun.topDef (OpenLaw.row PySem.Challenge.rw_twentyseven_k84_whole_bits_and_forms).prog 51) (kwd := []) Hd.ob_eq
    (by kernel_rfl) (fun s => by kernel_rfl) Hd.run (by kernel_rfl) (by kernel_rfl) (by kernel_rfl) (by rfl) (by first | assumption | decide +kernel) (by decide +kernel) ⟨rfl, rfl, rfl, rfl, rfl, by decide +kernel⟩ ?hw ?hc
  case hw => w_witness2
  case hc => exact Ev.law_ev (l := PySem.Challenge.rw_twentyseven_k84_whole_bits_and_forms) (n := 63) (x := "script") (k := 29) (N := Hd.LV) (p := Hd.pg) (f := Hd.f29) rfl (by decide) (by kernel_rfl) Hd.txt Hd.pgIs Hd.fltT (by rfl) (by kernel_rfl) (by kernel_rfl) ⟨by decide, by decide⟩ Hd.plain
