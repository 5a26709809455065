import PyProof.Rows.All
import Wide.All
import OpenK.AllK
import Wide.FinOn
import HandS.ForMost
import HandS.Exc
import HandS.ExcOwn
import HandS.ExcInit
import HandS.ExcField
import HandS.TryOnly
import HandS.TryMany
import HandS.CallSlots
import HandS.WordsExc
import HandS.IsInst
import HandS.Walk
import HandS.TupAny
import HandS.StrMore
import HandS.Zip
import HandS.Conv
import HandS.DictComp
import HandS.Defaults
import KE.GoesEnum
import KE.GoesNew
import HandS.ForList
import PySem.Challenge.RW_proseknot_k09_slots_parts_and_filled
set_option Elab.async false
set_option linter.all false
set_option maxRecDepth 100000
set_option maxHeartbeats 8000000
/-! DA: plain data over the abstract heap -/
namespace DL
open PySem PySem.Spec PyProof.Rows L2

/-- plain data: what a value stands for, the heap left out -/
inductive D where
  | non | bl (b : Bool) | int (i : Int) | str (x : Str) | tup (l : List D) | lst (l : List D) | dct (l : List (Key × D)) | opq (φ : PySem.W.Frag → V → Hp → Prop)

/-- every read of H is one of H' -/
def Sim (H H' : Hp) : Prop := ∀ b u, (∀ o w, u ≠ .frz o w) → Rd H b u → Rd H' b u
theorem Sim.refl (H : Hp) : Sim H H := fun _ _ _ h => h
theorem Sim.trans {H H1 H2 : Hp} (a : Sim H H1) (b : Sim H1 H2) : Sim H H2 := fun c u n h => b c u n (a c u n h)
theorem Sim.of {H H' : Hp} (e : Same H H') : Sim H H' := fun b u _ h => by
  rcases h with h | ⟨o, h⟩
  · exact .inl (e _ _ h)
  · exact .inr ⟨o, e _ _ h⟩
theorem Sim.seqL {K : PySem.W.Frag} {H H' : Hp} {a : Addr} {xs : List V} (e : Sim H H') (h : SqL K H a xs) : SqL K H' a xs := by
  rcases h with h | h
  · exact .inl (e _ _ (fun _ _ z => nomatch z) h)
  · exact .inr h
theorem Sim.seqT {K : PySem.W.Frag} {H H' : Hp} {a : Addr} {xs : List V} (e : Sim H H') (h : SqT K H a xs) : SqT K H' a xs := by
  rcases h with h | h
  · exact .inl (e _ _ (fun _ _ z => nomatch z) h)
  · exact .inr h

theorem Sim.dk {H H' : Hp} {a : Addr} {xs : List (Key × V)} (e : Sim H H') (h : Rd H a (.dK xs)) : Rd H' a (.dK xs) := e a (.dK xs) (fun _ _ z => nomatch z) h

mutual
/-- the value v stands for d in the heap H -/
inductive Rep (K : PySem.W.Frag) (H : Hp) : D → V → Prop
  | non : Rep K H .non .non
  | bl (b : Bool) : Rep K H (.bl b) (.bl b)
  | int (i : Int) : Rep K H (.int i) (.int i)
  | str (x : Str) : Rep K H (.str x) (.str x)
  | tup {a : Addr} {xs : List V} {l : List D} : SqT K H a xs → Reps K H l xs → Rep K H (.tup l) (.ref a)
  | lst {a : Addr} {xs : List V} {l : List D} : SqL K H a xs → Reps K H l xs → Rep K H (.lst l) (.ref a)
  | dct {a : Addr} {xs : List (Key × V)} {l : List (Key × D)} : Rd H a (.dK xs) → RepK K H l xs → Rep K H (.dct l) (.ref a)
  | opq {φ : PySem.W.Frag → V → Hp → Prop} {v : V} {H0 : Hp} : Same H0 H → φ K v H0 → Rep K H (.opq φ) v
inductive Reps (K : PySem.W.Frag) (H : Hp) : List D → List V → Prop
  | nil : Reps K H [] []
  | cons {d : D} {v : V} {l : List D} {xs : List V} : Rep K H d v → Reps K H l xs → Reps K H (d :: l) (v :: xs)
inductive RepK (K : PySem.W.Frag) (H : Hp) : List (Key × D) → List (Key × V) → Prop
  | nil : RepK K H [] []
  | cons {k : Key} {d : D} {v : V} {l : List (Key × D)} {xs : List (Key × V)} : Rep K H d v → RepK K H l xs → RepK K H ((k, d) :: l) ((k, v) :: xs)
end

section
variable {K : PySem.W.Frag} {H H' : Hp}
theorem Rep.same (f : Same H H') {d : D} {v : V} (h : Rep K H d v) : Rep K H' d v :=
  have e := Sim.of f
  Rep.rec (motive_1 := fun d v _ => Rep K H' d v) (motive_2 := fun l xs _ => Reps K H' l xs) (motive_3 := fun l xs _ => RepK K H' l xs)
    .non .bl .int .str (fun h _ r => .tup (e.seqT h) r) (fun h _ r => .lst (e.seqL h) r) (fun h _ r => .dct (e.dk h) r) (fun h p => .opq (h.trans f) p)
    .nil (fun _ _ r t => .cons r t) .nil (fun _ _ r t => .cons r t) h
theorem Reps.same (f : Same H H') {l : List D} {xs : List V} (h : Reps K H l xs) : Reps K H' l xs :=
  have e := Sim.of f
  Reps.rec (motive_1 := fun d v _ => Rep K H' d v) (motive_2 := fun l xs _ => Reps K H' l xs) (motive_3 := fun l xs _ => RepK K H' l xs)
    .non .bl .int .str (fun h _ r => .tup (e.seqT h) r) (fun h _ r => .lst (e.seqL h) r) (fun h _ r => .dct (e.dk h) r) (fun h p => .opq (h.trans f) p)
    .nil (fun _ _ r t => .cons r t) .nil (fun _ _ r t => .cons r t) h
theorem RepK.same (f : Same H H') {l : List (Key × D)} {xs : List (Key × V)} (h : RepK K H l xs) : RepK K H' l xs :=
  have e := Sim.of f
  RepK.rec (motive_1 := fun d v _ => Rep K H' d v) (motive_2 := fun l xs _ => Reps K H' l xs) (motive_3 := fun l xs _ => RepK K H' l xs)
    .non .bl .int .str (fun h _ r => .tup (e.seqT h) r) (fun h _ r => .lst (e.seqL h) r) (fun h _ r => .dct (e.dk h) r) (fun h p => .opq (h.trans f) p)
    .nil (fun _ _ r t => .cons r t) .nil (fun _ _ r t => .cons r t) h
theorem Reps.length : ∀ {l : List D} {xs : List V}, Reps K H l xs → l.length = xs.length
  | _, _, .nil => rfl
  | _, _, .cons _ t => congrArg (· + 1) (Reps.length t)
theorem RepK.length : ∀ {l : List (Key × D)} {xs : List (Key × V)}, RepK K H l xs → l.length = xs.length
  | _, _, .nil => rfl
  | _, _, .cons _ t => congrArg (· + 1) (RepK.length t)
theorem Reps.get : ∀ {l : List D} {xs : List V} {i : Nat} {d : D}, Reps K H l xs → l[i]? = some d → ∃ v, xs[i]? = some v ∧ Rep K H d v
  | _, _, _, _, .nil, e => by simp at e
  | _, _, 0, _, .cons r _, e => by simp at e; subst e; exact ⟨_, rfl, r⟩
  | _, _, i + 1, d, .cons _ t, e => by
    obtain ⟨u, h1, h2⟩ := Reps.get (i := i) (d := d) t (by simpa using e)
    exact ⟨u, by simpa using h1, h2⟩
theorem Reps.get' : ∀ {l : List D} {xs : List V} {i : Nat} {v : V}, Reps K H l xs → xs[i]? = some v → ∃ d, l[i]? = some d ∧ Rep K H d v
  | _, _, _, _, .nil, e => by simp at e
  | _, _, 0, _, .cons r _, e => by simp at e; subst e; exact ⟨_, rfl, r⟩
  | _, _, i + 1, d, .cons _ t, e => by
    obtain ⟨u, h1, h2⟩ := Reps.get' (i := i) (v := d) t (by simpa using e)
    exact ⟨u, by simpa using h1, h2⟩
theorem Reps.append : ∀ {l m : List D} {xs ys : List V}, Reps K H l xs → Reps K H m ys → Reps K H (l ++ m) (xs ++ ys)
  | _, _, _, _, .nil, s => s
  | _, _, _, _, .cons r t, s => .cons r (Reps.append t s)
theorem Reps.one {d : D} {v : V} (r : Rep K H d v) : Reps K H [d] [v] := .cons r .nil
theorem Reps.take : ∀ {l : List D} {xs : List V} (n : Nat), Reps K H l xs → Reps K H (l.take n) (xs.take n)
  | _, _, 0, _ => .nil
  | _, _, _ + 1, .nil => .nil
  | _, _, n + 1, .cons r t => .cons r (Reps.take n t)
theorem Reps.drop : ∀ {l : List D} {xs : List V} (n : Nat), Reps K H l xs → Reps K H (l.drop n) (xs.drop n)
  | _, _, 0, r => r
  | _, _, _ + 1, .nil => .nil
  | _, _, n + 1, .cons _ t => Reps.drop n t
theorem Reps.reverse {l : List D} {xs : List V} (h : Reps K H l xs) : Reps K H l.reverse xs.reverse := by
  induction h using Reps.rec (motive_1 := fun _ _ _ => True) (motive_3 := fun _ _ _ => True) with
  | nil => exact .nil
  | cons r _ _ ih => rw [List.reverse_cons, List.reverse_cons]; exact ih.append (.one r)
  | _ => trivial
theorem Reps.set {d : D} {v : V} (r : Rep K H d v) : ∀ {l : List D} {xs : List V} (i : Nat), Reps K H l xs → Reps K H (l.set i d) (xs.set i v)
  | _, _, _, .nil => .nil
  | _, _, 0, .cons _ t => .cons r t
  | _, _, i + 1, .cons q t => .cons q (Reps.set r i t)
theorem Reps.erase : ∀ {l : List D} {xs : List V} (i : Nat), Reps K H l xs → Reps K H (l.eraseIdx i) (xs.eraseIdx i)
  | _, _, _, .nil => .nil
  | _, _, 0, .cons _ t => t
  | _, _, i + 1, .cons q t => .cons q (Reps.erase i t)
theorem Reps.dropLast {l : List D} {xs : List V} (h : Reps K H l xs) : Reps K H l.dropLast xs.dropLast := by
  rw [List.dropLast_eq_take, List.dropLast_eq_take, h.length]; exact h.take _
theorem Reps.ints {xs : List V} : ∀ {ns : List Int}, Reps K H (ns.map D.int) xs → xs = ns.map V.int
  | [], .nil => rfl
  | _ :: r, .cons (.int _) t => by rw [Reps.ints t]; rfl
theorem Reps.strs {xs : List V} : ∀ {ns : List Str}, Reps K H (ns.map D.str) xs → xs = ns.map V.str
  | [], .nil => rfl
  | _ :: r, .cons (.str _) t => by rw [Reps.strs t]; rfl
theorem Reps.bls {xs : List V} : ∀ {ns : List Bool}, Reps K H (ns.map D.bl) xs → xs = ns.map V.bl
  | [], .nil => rfl
  | _ :: r, .cons (.bl _) t => by rw [Reps.bls t]; rfl
theorem Reps.of_ints : ∀ {ns : List Int}, Reps K H (ns.map D.int) (ns.map V.int)
  | [] => .nil
  | _ :: _ => .cons (.int _) Reps.of_ints
theorem Reps.of_strs : ∀ {ns : List Str}, Reps K H (ns.map D.str) (ns.map V.str)
  | [] => .nil
  | _ :: _ => .cons (.str _) Reps.of_strs
end

/-! ### heaps -/
theorem same_new {H : Hp} {p : Addr} (h : H p = none) (o : HO) : Same H (upd H p o) := fun b u q => by rw [upd_ne (ne_of_none q h)]; exact q
theorem same_upd {H H' : Hp} {p : Addr} {o : HO} (e : Same H H') (h : H' p = none) : Same (upd H p o) (upd H' p o) := fun b u q => by
  by_cases hb : b = p
  · subst hb; rw [upd_same] at q ⊢; exact q
  · rw [upd_ne hb] at q ⊢; exact e b u q
theorem same_updR {H H' : Hp} {p : Addr} {o : HO} (e : Same H H') (h : H p = none) : Same H (upd H' p o) := fun b u q => by
  rw [upd_ne (ne_of_none q h)]; exact e b u q

/-- a slot of a frame, by data: no value; a value that is never written again; a list, a dict of this frame's alone -/
inductive Sl where
  | un | sh (d : D) | own (p : Option Addr) (l : List D) | ownK (p : Option Addr) (l : List (Key × D)) | exc (c : Nat) (l : List (Str × D))
abbrev DEnv := List Sl
def Sl.isOwn : Sl → Bool
  | .own _ _ => true
  | .ownK _ _ => true
  | _ => false

/-- the value v at H stands for d: of the frozen part, or the head of a frame's own list or dict -/
inductive RepB (K : PySem.W.Frag) (Hf H : Hp) : D → V → Prop
  | sh {d : D} {v : V} : Rep K Hf d v → RepB K Hf H d v
  | own {a : Addr} {l : List D} {xs : List V} : H a = some (HO.lst xs) → Reps K Hf l xs → RepB K Hf H (D.lst l) (V.ref a)
  | ownK {a : Addr} {l : List (Key × D)} {xs : List (Key × V)} : H a = some (HO.dK xs) → RepK K Hf l xs → RepB K Hf H (D.dct l) (V.ref a)
theorem RepB.rep {K : PySem.W.Frag} {Hf H : Hp} {d : D} {v : V} (r : RepB K Hf H d v) (s : Same Hf H) : Rep K H d v := by
  cases r with
  | sh r => exact r.same s
  | own h r => exact .lst (.of h) (r.same s)
  | ownK h r => exact .dct (.inl h) (r.same s)
theorem RepB.mono {K : PySem.W.Frag} {Hf H Hf' H' : Hp} {d : D} {v : V} (r : RepB K Hf H d v) (s : Same Hf Hf') (t : Same H H') : RepB K Hf' H' d v := by
  cases r with
  | sh r => exact .sh (r.same s)
  | own h r => exact .own (t _ _ h) (r.same s)
  | ownK h r => exact .ownK (t _ _ h) (r.same s)

/-- a frame's entry: what was frozen, all that was tracked -/
structure Ent where
  f : Hp
  h : Hp
/-- what an exception slot means -/
abbrev EXT := V → Nat → List (Str × D) → Hp → Prop
/-- the frame's slots stand for ρ -/
structure SR (K : PySem.W.Frag) (EX : EXT) (H0 : Ent) (ρ : DEnv) (σ : L2.St) (Hf H : Hp) : Prop where
  base : Same H0.f Hf
  ent : Same H0.h H
  nof : ∀ a : Addr, H0.h a ≠ none → H0.f a = none → Hf a = none
  sub : Same Hf H
  len : ρ.length = σ.length
  sh : ∀ (i : Nat) (d : D), ρ[i]? = some (Sl.sh d) → ∃ v, σ[i]? = some (some v) ∧ Rep K Hf d v
  own : ∀ (i : Nat) (p : Option Addr) (l : List D), ρ[i]? = some (Sl.own p l) → ∃ a xs, σ[i]? = some (some (V.ref a)) ∧ Hf a = none ∧ H a = some (HO.lst xs) ∧ Reps K Hf l xs ∧ H0.h a = none ∧ ∀ b, p = some b → b = a
  ownK : ∀ (i : Nat) (p : Option Addr) (l : List (Key × D)), ρ[i]? = some (Sl.ownK p l) → ∃ a xs, σ[i]? = some (some (V.ref a)) ∧ Hf a = none ∧ H a = some (HO.dK xs) ∧ RepK K Hf l xs ∧ H0.h a = none ∧ ∀ b, p = some b → b = a
  exc : ∀ (i c : Nat) (l : List (Str × D)), ρ[i]? = some (Sl.exc c l) → ∃ v, σ[i]? = some (some v) ∧ EX v c l Hf
  apart : ∀ (i j : Nat) (s t : Sl) (a : Addr), i ≠ j → ρ[i]? = some s → ρ[j]? = some t → s.isOwn = true → t.isOwn = true → σ[i]? = some (some (V.ref a)) → σ[j]? = some (some (V.ref a)) → False

/-- exception slots do not hang on what comes later -/
def EXok (EX : EXT) : Prop := ∀ v c l H H', Same H H' → EX v c l H → EX v c l H'

section
variable {K : PySem.W.Frag} {EX : EXT} {H0 : Ent} {ρ : DEnv} {σ : L2.St} {Hf H : Hp}
/-- the heaps grow -/
theorem SR.grow (R : SR K EX H0 ρ σ Hf H) (ek : EXok EX) {Hf' H' : Hp} (s : Same Hf Hf') (t : Same H H') (u : Same Hf' H') (n : ∀ a, H a ≠ none → Hf a = none → Hf' a = none) : SR K EX H0 ρ σ Hf' H' where
  base := R.base.trans s
  ent := R.ent.trans t
  nof := fun a h1 h2 => n a (fun z => h1 (R.ent.free z)) (R.nof a h1 h2)
  sub := u
  len := R.len
  sh := fun i d e => let ⟨v, h, r⟩ := R.sh i d e; ⟨v, h, r.same s⟩
  own := fun i p l e => let ⟨a, xs, h1, h2, h3, r, z⟩ := R.own i p l e; ⟨a, xs, h1, n a (by rw [h3]; exact nofun) h2, t _ _ h3, r.same s, z⟩
  ownK := fun i p l e => let ⟨a, xs, h1, h2, h3, r, z⟩ := R.ownK i p l e; ⟨a, xs, h1, n a (by rw [h3]; exact nofun) h2, t _ _ h3, r.same s, z⟩
  exc := fun i c l e => let ⟨v, h, r⟩ := R.exc i c l e; ⟨v, h, ek _ _ _ _ _ s r⟩
  apart := R.apart
theorem SR.fresh (R : SR K EX H0 ρ σ Hf H) {p : Addr} (h : H p = none) : Hf p = none := R.sub.free h
/-- a new frozen object -/
theorem SR.newF (R : SR K EX H0 ρ σ Hf H) (ek : EXok EX) {p : Addr} (h : H p = none) (o : HO) : SR K EX H0 ρ σ (upd Hf p o) (upd H p o) :=
  R.grow ek (same_new (R.fresh h) o) (same_new h o) (same_upd R.sub h) fun a q z => by
    rw [upd_ne (fun e => q (by rw [e]; exact h))]; exact z
/-- a new object that is not frozen -/
theorem SR.newO (R : SR K EX H0 ρ σ Hf H) (ek : EXok EX) {p : Addr} (h : H p = none) (o : HO) : SR K EX H0 ρ σ Hf (upd H p o) :=
  R.grow ek (Same.refl _) (same_new h o) (same_updR R.sub (R.fresh h)) fun a q z => z
theorem SR.get (R : SR K EX H0 ρ σ Hf H) {i : Nat} {d : D} (e : ρ[i]? = some (Sl.sh d)) : ∃ v, σ[i]? = some (some v) ∧ Rep K Hf d v := R.sh i d e
end
end DL
/-! DB: the small language, how it is held against the text, and what it asks -/
namespace DL
open PySem PySem.Spec PyProof.Rows L2

inductive BOp where
  | add | sub | mul | mod | fdiv | pow
inductive COp where
  | lt | le | gt | ge | eq | ne | is | isn | inn | nin
/-- built-in functions and classes that are called by their names -/
inductive Bi where
  | len | int | tuple | list | any | all | ord | min2 | max2 | abs | sum
/-- methods of texts -/
inductive Me where
  | starts | starts2 | join | strip1 | split1
/-- what is walked -/
inductive ItK where
  | seq | str | rng1 | rng2 | en | zip
inductive Tg where
  | nm (i : Nat) | tup (l : List Tg)
mutual
inductive Ex where
  | v (i : Nat) | b (i : Nat) | fr (i : Nat) (e : Ex) | tr (e : Ex) | wk (e : Ex)
  | int (n : Int) | str (x : Str) | bl (k : Bool) | non
  | bin (o : BOp) (a b : Ex) | neg (a : Ex) | not (a : Ex)
  | cmp (o : COp) (a b : Ex) | cmp2 (o p : COp) (a b c : Ex)
  | and (a : Ex) (l : Exs) | or (a : Ex) (l : Exs)
  | ite (c a b : Ex)
  | tup (l : Exs) | lst (l : Exs)
  | ix (a b : Ex) | sl (a : Ex) (lo hi : Exs)
  | call (f : Nat) (l : Exs) | callB (f : Nat) (l : Exs) | callK (f : Nat) (ks : List Str) (pm : List Nat) (l : Exs)
  | dnew | dsp (ks : List Str) (l : Exs)
  | bi (f : Bi) (l : Exs) | isT (ts : List String) (a : Ex)
  | me (m : Me) (o : Ex) (l : Exs)
  | lc (g : Tg) (k : ItK) (l : Exs) (t : Exs) (e : Ex)
  | dget (d k : Ex) | din (k d : Ex) | dnin (k d : Ex) | dg2 (d k x : Ex)
inductive Exs where
  | nil | cons (e : Ex) (l : Exs)
end
mutual
inductive Sx where
  | asg (g : Tg) (e : Ex) | own (i : Nat) (e : Ex) | lcs (fz : Bool) (i : Nat) (g : Tg) (k : ItK) (l : Exs) (t : Exs) (e : Ex)
  | aug (i : Nat) (o : BOp) (e : Ex)
  | ret (e : Ex) | retN | expr (e : Ex)
  | app (i : Nat) (e : Ex) | ext (i : Nat) (e : Ex) | put (i : Nat) (k e : Ex) | seti (i : Nat) (k e : Ex)
  | ife (c : Ex) (a b : Sxs) | whl (c : Ex) (b : Sxs) | for_ (g : Tg) (k : ItK) (l : Exs) (b : Sxs)
  | brk | cont | pass
inductive Sxs where
  | nil | cons (s : Sx) (l : Sxs)
end

/-- how an expression hands its value on: never to be written again; borrowed of a slot; a list or dict of its own, new -/
inductive Md where
  | sh | bo | fr
  deriving DecidableEq
def md : Ex → Md
  | .b _ => .bo
  | .fr _ e => md e
  | .tr e => md e
  | .bin _ _ _ => .fr
  | .lst _ => .fr
  | .sl _ _ _ => .fr
  | .bi _ _ => .fr
  | .me _ _ _ => .fr
  | .lc _ _ _ _ _ => .fr
  | .dnew => .fr
  | .dsp _ _ => .fr
  | _ => .sh
def nb (x : Ex) : Bool := match md x with
  | .bo => false
  | _ => true
def nbA : Exs → Bool
  | .nil => true
  | .cons x l => nb x && nbA l
/-! ### against the text -/
/-- what is fixed of a def: the names by slot, its scope -/
structure Cn where
  N : List Str
  nm : Nat → Str
  lv : Nat → Nat
  k : Nat
  dep : List Nat
  kw : List (Nat × List Str × List Nat) := []
def visB (sc : Scope) (x : Str) : Bool := match sc.names.lookup x with
  | some .local => true
  | some .cell => true
  | some .free => true
  | _ => false
def locB (sc : Scope) (x : Str) : Bool := match sc.names.lookup x with
  | some .local => true
  | some .cell => true
  | _ => false
def gloB (sc : Scope) (x : Str) : Bool := match sc.names.lookup x with
  | some .globalImplicit => true
  | _ => false
def nmB (N : List Str) (sc : Scope) (i : Nat) (x : Str) : Bool := decide (N[i]? = some x) && visB sc x && !(x == ("__debug__" : Str)) && !(x == ("__classdict__" : Str))
def nst : Expr → Bool
  | .Starred .. => false
  | _ => true
def nsup : Expr → Bool
  | .Call (.Name id _) [] [] _ => !(id == ("super" : Str))
  | _ => true
def ncomp : Expr → Bool
  | .ListComp .. => false
  | .SetComp .. => false
  | .DictComp .. => false
  | _ => true
def plainT : Expr → Bool
  | .UnaryOp .Not _ _ => false
  | .BoolOp .. => false
  | .IfExp .. => false
  | .Compare .. => false
  | _ => true
def nset : Expr → Bool
  | .Set .. => false
  | _ => true
def nslice : Expr → Bool
  | .Slice .. => false
  | _ => true
def BOp.like (o : BOp) (p : Operator) : Bool := match o, p with
  | .add, .Add => true | .sub, .Sub => true | .mul, .Mult => true | .mod, .Mod => true | .fdiv, .FloorDiv => true | .pow, .Pow => true | _, _ => false
def COp.like (o : COp) (p : CmpOp) : Bool := match o, p with
  | .lt, .Lt => true | .le, .LtE => true | .gt, .Gt => true | .ge, .GtE => true | .eq, .Eq => true | .ne, .NotEq => true | .is, .Is => true | .isn, .IsNot => true | .inn, .In => true | .nin, .NotIn => true | _, _ => false
def Bi.nm : Bi → Str
  | .len => "len" | .int => "int" | .tuple => "tuple" | .list => "list" | .any => "any" | .all => "all" | .ord => "ord" | .min2 => "min" | .max2 => "max" | .abs => "abs" | .sum => "sum"
def Bi.isB : Bi → Bool := fun _ => true
def Me.nm : Me → Str
  | .starts => "startswith" | .starts2 => "startswith" | .join => "join" | .strip1 => "strip" | .split1 => "split"
mutual
def Tg.slots : Tg → List Nat
  | .nm i => [i]
  | .tup l => slotsL l
def slotsL : List Tg → List Nat
  | [] => []
  | t :: r => t.slots ++ slotsL r
end
/-- may a target be stored: in a def's body always; in a comprehension's block its own names -/
def fnB (bs : Option Scope) (sc : Scope) (x : Str) : Bool := match bs with
  | none => true
  | some b => decide (b.names.lookup x = some .cell) || decide (sc.names.lookup x = some .local)
mutual
def ckG (N : List Str) (bs : Option Scope) (sc : Scope) : Tg → Expr → Bool
  | .nm i, .Name x _ => decide (N[i]? = some x) && locB sc x && fnB bs sc x
  | .tup l, .Tuple es _ _ => ckGs N bs sc l es
  | _, _ => false
def ckGs (N : List Str) (bs : Option Scope) (sc : Scope) : List Tg → List Expr → Bool
  | [], [] => true
  | t :: l, e :: es => ckG N bs sc t e && ckGs N bs sc l es
  | _, _ => false
end
/-- at most one test -/
def nset2 : List Expr → Bool
  | [] => true
  | [_] => true
  | _ => false
def ownOf (N : List Str) (l : List Nat) : List (Str × Nat) := l.filterMap fun i => (N[i]?).map fun x => (x, i)
def tyNames : List String := ["int", "str", "tuple", "list", "dict", "bool"]
/-- the class names of an isinstance test -/
def clsNames (sc : Scope) : Expr → List String → Bool
  | .Name x _, [t] => decide (x = Str.ofString t) && gloB sc x
  | .Tuple es _ _, ts => decide (es.length = ts.length) && (es.zip ts).all fun p => match p.1 with
    | .Name x _ => decide (x = Str.ofString p.2) && gloB sc x
    | _ => false
  | _, _ => false
mutual
def ck (C : Cn) (sc : Scope) : Ex → Expr → Bool
  | .v i, e => match e with
    | .Name x _ => nmB C.N sc i x
    | _ => false
  | .b i, e => match e with
    | .Name x _ => nmB C.N sc i x
    | _ => false
  | .fr i x, e => ck C sc x e
  | .tr x, e => ck C sc x e && plainT e
  | .wk x, e => ck C sc x e && decide (md x = .sh)
  | .int n, e => match e with
    | .Constant (.int m) _ _ => decide (n = m)
    | _ => false
  | .str x, e => match e with
    | .Constant (.str y) _ _ => decide (x = y)
    | _ => false
  | .bl k, e => match e with
    | .Constant (.bool j) _ _ => decide (k = j)
    | _ => false
  | .non, e => match e with
    | .Constant .none _ _ => true
    | _ => false
  | .bin o a b, e => match e with
    | .BinOp l p r _ => o.like p && ck C sc a l && ck C sc b r
    | _ => false
  | .neg a, e => match e with
    | .UnaryOp .USub e _ => ck C sc a e
    | _ => false
  | .not a, e => match e with
    | .UnaryOp .Not e _ => ck C sc a e
    | _ => false
  | .cmp o a b, e => match e with
    | .Compare l [p] [r] _ => o.like p && ck C sc a l && ck C sc b r && !behindInMarks p r
    | _ => false
  | .cmp2 o q a b c, e => match e with
    | .Compare l [p, p'] [r, r'] _ => o.like p && q.like p' && ck C sc a l && ck C sc b r && ck C sc c r' && !behindInMarks p' r'
    | _ => false
  | .and a l, e => match e with
    | .BoolOp .And (e :: es) _ => ck C sc a e && ckA C sc l es && nb a && nbA l
    | _ => false
  | .or a l, e => match e with
    | .BoolOp .Or (e :: es) _ => ck C sc a e && ckA C sc l es && nb a && nbA l
    | _ => false
  | .ite c a b, e => match e with
    | .IfExp t e f _ => ck C sc c t && ck C sc a e && ck C sc b f && nb a && nb b
    | _ => false
  | .tup l, e => match e with
    | .Tuple es _ _ => ckA C sc l es && nbA l
    | _ => false
  | .lst l, e => match e with
    | .List es _ => ckA C sc l es && nbA l
    | _ => false
  | .ix a b, e => match e with
    | .Subscript e i _ => ck C sc a e && ck C sc b i && nslice i
    | _ => false
  | .sl a lo hi, e => match e with
    | .Subscript e (.Slice l u none _) _ => ck C sc a e && ckO C sc lo l && ckO C sc hi u
    | _ => false
  | .call f l, e => match e with
    | .Call (.Name x _) es [] _ => decide (x = C.nm f) && gloB sc x && !(x == ("__debug__" : Str)) && decide (C.lv f ≤ C.k) && C.dep.contains f && ckA C sc l es && nbA l
    | _ => false
  | .callB f l, e => match e with
    | .Call (.Name x _) es [] _ => decide (x = C.nm f) && gloB sc x && !(x == ("__debug__" : Str)) && decide (C.lv f ≤ C.k) && C.dep.contains f && ckA C sc l es
    | _ => false
  | .callK f ks pm l, e => match e with
    | .Call (.Name x _) [] kws _ => decide (x = C.nm f) && gloB sc x && !(x == ("__debug__" : Str)) && decide (C.lv f ≤ C.k) && decide ((f, ks, pm) ∈ C.kw) && ckK C sc l kws && nbA l && decide (kws.map (·.arg) = ks.map some)
    | _ => false
  | .dnew, e => match e with
    | .Dict [] [] _ => true
    | _ => false
  | .dsp ks l, e => match e with
    | .Dict keys es _ => decide (keys.length = es.length) && decide (ks.length = keys.length) && ckA C sc l es && nbA l && decide ks.Nodup && decide (keys.length ≤ 15) && !keys.isEmpty && (keys.zip ks).all fun p => match p.1 with
      | some (.Constant (.str x) _ _) => decide (x = p.2)
      | _ => false
    | _ => false
  | .bi f l, e => match e with
    | .Call (.Name x _) (e :: es) [] _ => ckA C sc l (e :: es) && decide (x = f.nm) && gloB sc x && f.isB
    | _ => false
  | .isT ts a, e => match e with
    | .Call (.Name x _) [e, t] [] _ => decide (x = Str.ofString "isinstance") && gloB sc x && ck C sc a e && nst e && nst t && clsNames sc t ts && (ts.all fun u => tyNames.contains u) && decide (ts.length ≤ 100)
    | _ => false
  | .me m o l, e => match e with
    | .Call (.Attribute e a ap) (e1 :: es) [] p => decide (a = m.nm) && ck C sc o e && nsup e && ckA C sc l (e1 :: es) && (ap.endLine == p.line) && decide (es.length < 20)
    | _ => false
  | .lc g k l t x, e => match e with
    | .ListComp elt [⟨tg, iter, ifs, 0⟩] scope _ => ckI C sc k l tg iter && nset iter && blkC C.N sc scope (ownOf C.N g.slots) && ckG C.N (some scope) (relS scope sc) g tg && ckT C (relS scope sc) t ifs && ck C (relS scope sc) x elt && nb x && decide ((ownOf C.N g.slots).map (·.2) = g.slots)
    | _ => false
  | .dget d k, e => match e with
    | .Subscript e i _ => ck C sc d e && ck C sc k i && nslice i
    | _ => false
  | .din k d, e => match e with
    | .Compare l [.In] [r] _ => ck C sc k l && ck C sc d r && !behindInMarks .In r
    | _ => false
  | .dnin k d, e => match e with
    | .Compare l [.NotIn] [r] _ => ck C sc k l && ck C sc d r && !behindInMarks .NotIn r
    | _ => false
  | .dg2 _ _ _, _ => false
def ckA (C : Cn) (sc : Scope) : Exs → List Expr → Bool
  | .nil, es => match es with
    | [] => true
    | _ => false
  | .cons x l, es => match es with
    | e :: es => ck C sc x e && nst e && ckA C sc l es
    | _ => false
def ckK (C : Cn) (sc : Scope) : Exs → List Keyword → Bool
  | .nil, es => match es with
    | [] => true
    | _ => false
  | .cons x l, es => match es with
    | e :: es => ck C sc x e.value && ckK C sc l es
    | _ => false
def ckT (C : Cn) (sc : Scope) : Exs → List Expr → Bool
  | .nil, es => match es with
    | [] => true
    | _ => false
  | .cons x .nil, es => match es with
    | [e] => ck C sc x e
    | _ => false
  | _, _ => false
def ckO (C : Cn) (sc : Scope) : Exs → Option Expr → Bool
  | .nil, o => match o with
    | none => true
    | _ => false
  | .cons x .nil, o => match o with
    | some e => ck C sc x e
    | _ => false
  | _, _ => false
def ckI (C : Cn) (sc : Scope) : ItK → Exs → Expr → Expr → Bool
  | .seq, .cons x .nil, _, e => ck C sc x e
  | .str, .cons x .nil, _, e => ck C sc x e
  | .rng1, .cons x .nil, _, e => match e with
    | .Call (.Name n _) [e] [] _ => decide (n = Str.ofString "range") && gloB sc n && ck C sc x e && nst e
    | _ => false
  | .rng2, .cons x (.cons y .nil), _, e => match e with
    | .Call (.Name n _) [e, f] [] _ => decide (n = Str.ofString "range") && gloB sc n && ck C sc x e && nst e && ck C sc y f && nst f
    | _ => false
  | .en, .cons x .nil, t, e => match t, e with
    | .Tuple _ _ _, .Call (.Name n _) [e] [] _ => decide (n = Str.ofString "enumerate") && gloB sc n && ck C sc x e && nst e
    | _, _ => false
  | _, _, _, _ => false
end
/-! ### what it asks -/
/-- an exception: its class by number, its fields -/
abbrev DX := Nat × List (Str × D)
/-- what a def asks and gives, by data -/
abbrev FSp := List D → (D → Prop) → (DX → Prop) → Prop
mutual
def toPy : D → PyData
  | .non => .none
  | .bl b => .bool b
  | .int i => .int i
  | .str x => .str x
  | .tup l => .tuple (toPys l)
  | .lst l => .list (toPys l)
  | .dct _ => .dict []
  | .opq _ => .dict []
def toPys : List D → List PyData
  | [] => []
  | d :: l => toPy d :: toPys l
end
def scalD : D → D → Bool
  | .non, .non => true | .non, .int _ => true | .int _, .non => true | .non, .bl _ => true | .bl _, .non => true | .non, .str _ => true | .str _, .non => true
  | .int _, .int _ => true | .bl _, .bl _ => true | .str _, .str _ => true
  | .int _, .str _ => true | .str _, .int _ => true | .bl _, .str _ => true | .str _, .bl _ => true
  | _, _ => false
/-- a == b -/
def eqW (a b : D) (Q : Bool → Prop) : Prop := match a, b with
  | .int i, .int j => Q (decide (i = j))
  | .str x, .str y => Q (decide (x = y))
  | .bl x, .bl y => Q (decide (x = y))
  | .non, .non => Q true
  | a, b => if scalD a b then Q false else SeqAt.shaped (toPy a) = true ∧ SeqAt.shaped (toPy b) = true ∧ Q (PyData.eqv (toPy a) (toPy b))
def flatD : D → Bool
  | .non => true | .bl _ => true | .int _ => true | .str _ => true | _ => false
def eqF : D → D → Bool
  | .non, .non => true
  | .bl a, .bl b => a == b
  | .bl a, .int b => (if a then 1 else 0) == b
  | .int a, .bl b => a == (if b then 1 else 0)
  | .int a, .int b => a == b
  | .str a, .str b => a == b
  | _, _ => false
def inW (x : D) (l : List D) (Q : Bool → Prop) : Prop := flatD x = true ∧ l.all flatD = true ∧ Q (l.any fun y => eqF y x)
def binW (o : BOp) (a b : D) (Q : D → Prop) : Prop := match o, a, b with
  | .add, .int i, .int j => Q (.int (i + j))
  | .add, .str x, .str y => x.length + y.length ≤ sizeLine ∧ Q (.str (x ++ y))
  | .add, .lst l, .lst m => l.length + m.length ≤ sizeLine ∧ Q (.lst (l ++ m))
  | .add, .tup l, .tup m => l.length + m.length ≤ sizeLine ∧ Q (.tup (l ++ m))
  | .sub, .int i, .int j => Q (.int (i - j))
  | .mul, .int i, .int j => CMul i j ∧ Q (.int (i * j))
  | .mul, .str x, .int n => MulOk x n ∧ Q (.str (Txt.mul x n))
  | .mod, .int i, .int j => 0 < j ∧ Q (.int (i % j))
  | .fdiv, .int i, .int j => CDiv i j ∧ Q (.int (i / j))
  | .pow, .int i, .int j => CPow i j ∧ Q (.int (i ^ j.toNat))
  | _, _, _ => False
def cmpW (o : COp) (a b : D) (Q : Bool → Prop) : Prop := match o, a, b with
  | .lt, .int i, .int j => Q (decide (i < j))
  | .le, .int i, .int j => Q (decide (i ≤ j))
  | .gt, .int i, .int j => Q (decide (j < i))
  | .ge, .int i, .int j => Q (decide (j ≤ i))
  | .lt, .str x, .str y => Q (decide (x.cps.toList < y.cps.toList))
  | .le, .str x, .str y => Q (!decide (y.cps.toList < x.cps.toList))
  | .gt, .str x, .str y => Q (decide (y.cps.toList < x.cps.toList))
  | .ge, .str x, .str y => Q (!decide (x.cps.toList < y.cps.toList))
  | .eq, a, b => eqW a b Q
  | .ne, a, b => eqW a b fun k => Q (!k)
  | .is, .opq _, .non => False
  | .isn, .opq _, .non => False
  | .is, .non, .non => Q true
  | .is, _, .non => Q false
  | .isn, .non, .non => Q false
  | .isn, _, .non => Q true
  | .inn, .str ⟨⟨[c]⟩⟩, .str z => Q (decide (c ∈ z.cps.toList))
  | .nin, .str ⟨⟨[c]⟩⟩, .str z => Q (!decide (c ∈ z.cps.toList))
  | .inn, x, .lst l => inW x l Q
  | .inn, x, .tup l => inW x l Q
  | .nin, x, .lst l => inW x l fun k => Q (!k)
  | .nin, x, .tup l => inW x l fun k => Q (!k)
  | _, _, _ => False
def cutD (l : List D) (lo hi : Option Int) : List D := (l.drop (HT.sIx l.length 0 lo)).take (HT.sIx l.length l.length hi - HT.sIx l.length 0 lo)
def ixW (a b : D) (Q : D → Prop) : Prop := match a, b with
  | .tup l, .int i => ∃ d, atI l i = some d ∧ Q d
  | .lst l, .int i => ∃ d, atI l i = some d ∧ Q d
  | .str z, .int i => z.length ≤ sizeLine ∧ ∃ c, atI z.cps.toList i = some c ∧ Q (.str ⟨#[c]⟩)
  | _, _ => False
def slW (a : D) (lo hi : Option Int) (Q : D → Prop) : Prop := match a with
  | .tup l => Q (.tup (cutD l lo hi))
  | .lst l => Q (.lst (cutD l lo hi))
  | .str z => z.length ≤ sizeLine ∧ Q (.str (cutS z lo hi))
  | _ => False
def truW (a : D) (Q : Bool → Prop) : Prop := match a with
  | .non => Q false
  | .bl b => Q b
  | .int i => Q (i != 0)
  | .str y => y.length ≤ sizeLine ∧ Q ((y.length : Int) != 0)
  | .lst l => Q (!l.isEmpty)
  | .tup l => Q (!l.isEmpty)
  | _ => False
def tyD : D → Option String
  | .non => some "NoneType" | .bl _ => some "bool" | .int _ => some "int" | .str _ => some "str" | .tup _ => some "tuple" | .lst _ => some "list" | .dct _ => some "dict" | .opq _ => none
def subTy (t u : String) : Bool := t == u || (t == "bool" && u == "int")
def keyD : D → Option Key
  | .int i => some (.inl i)
  | .str x => some (.inr x)
  | _ => none
def dK : Key → D
  | .inl i => .int i
  | .inr x => .str x
def getK (l : List (Key × D)) (k : Key) : Option D := (l.find? fun kv => decide (kv.1 = k)).map (·.2)
def putD (l : List (Key × D)) (k : Key) (d : D) : List (Key × D) :=
  if (l.any fun kv => decide (kv.1 = k)) = true then l.map fun kv => if kv.1 = k then (kv.1, d) else kv else l ++ [(k, d)]
def lenW (a : List D) (Q : D → Prop) : Prop := match a with
  | [.str y] => y.length ≤ sizeLine ∧ Q (.int y.length)
  | [.tup l] => Q (.int l.length)
  | [.lst l] => Q (.int l.length)
  | _ => False
def intW (a : List D) (Q : D → Prop) : Prop := match a with
  | [.int i] => Q (.int i)
  | [.bl k] => Q (.int (if k then 1 else 0))
  | _ => False
def tupleW (a : List D) (Q : D → Prop) : Prop := match a with
  | [.tup l] => Q (.tup l)
  | [.lst l] => Q (.tup l)
  | _ => False
def listW (a : List D) (Q : D → Prop) : Prop := match a with
  | [.tup l] => Q (.lst l)
  | [.lst l] => Q (.lst l)
  | _ => False
def anyW (a : List D) (Q : D → Prop) : Prop := match a with
  | [.lst l] => ∃ bs : List Bool, l = bs.map D.bl ∧ Q (.bl (bs.any id))
  | _ => False
def allW (a : List D) (Q : D → Prop) : Prop := match a with
  | [.lst l] => ∃ bs : List Bool, l = bs.map D.bl ∧ Q (.bl (bs.all id))
  | _ => False
def ordW (a : List D) (Q : D → Prop) : Prop := match a with
  | [.str x] => x.length = 1 ∧ Q (.int (x.cps.getD 0 0 : Nat))
  | _ => False
def min2W (a : List D) (Q : D → Prop) : Prop := match a with
  | [.int i, .int j] => Q (.int (if j < i then j else i))
  | _ => False
def max2W (a : List D) (Q : D → Prop) : Prop := match a with
  | [.int i, .int j] => Q (.int (if j > i then j else i))
  | _ => False
def absW (a : List D) (Q : D → Prop) : Prop := match a with
  | [.int i] => Q (.int (if i < 0 then -i else i))
  | _ => False
def sumW (a : List D) (Q : D → Prop) : Prop := match a with
  | [.lst l] => ∃ ns : List Int, l = ns.map D.int ∧ Q (.int ns.sum)
  | _ => False
def biW (f : Bi) (a : List D) (Q : D → Prop) : Prop := match f with
  | .len => lenW a Q
  | .int => intW a Q
  | .tuple => tupleW a Q
  | .list => listW a Q
  | .any => anyW a Q
  | .all => allW a Q
  | .ord => ordW a Q
  | .min2 => min2W a Q
  | .max2 => max2W a Q
  | .abs => absW a Q
  | .sum => sumW a Q
def strsD : D → Option (List D)
  | .tup l => some l
  | .lst l => some l
  | _ => none
def meW (m : Me) (o : D) (a : List D) (Q : D → Prop) : Prop := match m, o, a with
  | .starts, .str x, [.str y] => Q (.bl (Txt.startswith x y))
  | .starts2, .str x, [.str y, .int i] => Q (.bl (Txt.startswith3 x y i))
  | .join, .str x, [d] => ∃ l ys, strsD d = some l ∧ l = ys.map D.str ∧ (ys.map (·.length)).sum + ys.length * x.length ≤ 16777216 ∧ Q (.str (Txt.join x ys))
  | .strip1, .str x, [.str y] => x.length ≤ sizeLine ∧ Q (.str (Txt.stripChars x y))
  | .split1, .str x, [.str y] => (y.length == 0) = false ∧ x.length + 2 ≤ sizeLine ∧ Q (.lst ((Txt.split x y).map D.str))
  | _, _, _ => False
def enD : Nat → List D → List D
  | _, [] => []
  | n, d :: l => .tup [.int n, d] :: enD (n + 1) l
def itW (k : ItK) (a : List D) (R : List D → Prop) : Prop := match k, a with
  | .seq, [.tup l] => R l
  | .seq, [.lst l] => R l
  | .str, [.str z] => R (z.cps.toList.map fun c => .str ⟨#[c]⟩)
  | .rng1, [.int n] => -(2 ^ 62) ≤ n ∧ n < 2 ^ 62 ∧ R ((List.range n.toNat).map fun (i : Nat) => .int (i : Int))
  | .rng2, [.int a, .int b] => (-(2 ^ 62) ≤ a ∧ a < 2 ^ 62 ∧ -(2 ^ 62) ≤ b ∧ b < 2 ^ 62) ∧ R ((List.range (b - a).toNat).map fun (i : Nat) => .int (a + (i : Int)))
  | .en, [d] => ∃ l, strsD d = some l ∧ R (enD 0 l)
  | .zip, [d, e] => ∃ l m, strsD d = some l ∧ strsD e = some m ∧ R (List.zipWith (fun x y => .tup [x, y]) l m)
  | _, _ => False
mutual
def wG : Tg → D → DEnv → (DEnv → Prop) → Prop
  | .nm i, d, ρ, Q => Q (ρ.set i (.sh d))
  | .tup ts, d, ρ, Q => match d with
    | .tup l => l.length = ts.length ∧ wGs ts l ρ Q
    | _ => False
def wGs : List Tg → List D → DEnv → (DEnv → Prop) → Prop
  | [], [], ρ, Q => Q ρ
  | t :: ts, d :: l, ρ, Q => wG t d ρ fun ρ1 => wGs ts l ρ1 Q
  | _, _, _, _ => False
end
def wipeD (ρ : DEnv) : List Nat → DEnv
  | [] => ρ
  | i :: l => (wipeD ρ l).set i .un
/-- a comprehension's loop -/
def lcL (G : D → DEnv → (DEnv → Prop) → Prop) (T : DEnv → (Bool → DEnv → Prop) → Prop) (E : DEnv → (D → DEnv → Prop) → Prop) (ρ : DEnv) (Q : List D → Prop) : List D → List D → Prop
  | [], acc => Q acc
  | d :: ds, acc => G d ρ fun ρ2 => T ρ2 fun b ρ3 => ρ3 = ρ2 ∧ if b = true then E ρ3 fun y ρ4 => ρ4 = ρ3 ∧ acc.length < sizeLine ∧ lcL G T E ρ Q ds (acc ++ [y]) else lcL G T E ρ Q ds acc
mutual
def wE (Γ : Nat → FSp) (E : DX → DEnv → Prop) : Ex → DEnv → (D → DEnv → Prop) → Prop
  | .v i, ρ, Q => match ρ[i]? with
    | some (.sh d) => Q d ρ
    | some (.own _ l) => Q (.lst l) (ρ.set i (.sh (.lst l)))
    | some (.ownK _ l) => Q (.dct l) (ρ.set i (.sh (.dct l)))
    | _ => False
  | .b i, ρ, Q => match ρ[i]? with
    | some (.sh d) => Q d ρ
    | some (.own _ l) => Q (.lst l) ρ
    | some (.ownK _ l) => Q (.dct l) ρ
    | _ => False
  | .fr i e, ρ, Q => match ρ[i]? with
    | some (.own _ l) => wE Γ E e (ρ.set i (.sh (.lst l))) Q
    | some (.ownK _ l) => wE Γ E e (ρ.set i (.sh (.dct l))) Q
    | _ => wE Γ E e ρ Q
  | .tr e, ρ, Q => wE Γ E e ρ Q
  | .wk e, ρ, Q => wE Γ E e ρ fun d ρ1 => ∃ d', (∀ K H v, Rep K H d v → Rep K H d' v) ∧ Q d' ρ1
  | .int n, ρ, Q => Q (.int n) ρ
  | .str x, ρ, Q => Q (.str x) ρ
  | .bl k, ρ, Q => Q (.bl k) ρ
  | .non, ρ, Q => Q .non ρ
  | .bin o a b, ρ, Q => wE Γ E a ρ fun x ρ1 => wE Γ E b ρ1 fun y ρ2 => binW o x y fun d => Q d ρ2
  | .neg a, ρ, Q => wE Γ E a ρ fun x ρ1 => match x with
    | .int i => Q (.int (-i)) ρ1
    | _ => False
  | .not a, ρ, Q => wE Γ E a ρ fun x ρ1 => match x with
    | .bl k => Q (.bl (!k)) ρ1
    | _ => False
  | .cmp o a b, ρ, Q => wE Γ E a ρ fun x ρ1 => wE Γ E b ρ1 fun y ρ2 => cmpW o x y fun k => Q (.bl k) ρ2
  | .cmp2 o p a b c, ρ, Q => wE Γ E a ρ fun x ρ1 => wE Γ E b ρ1 fun y ρ2 => cmpW o x y fun k => if k = true then wE Γ E c ρ2 fun z ρ3 => cmpW p y z fun j => Q (.bl j) ρ3 else Q (.bl false) ρ2
  | .and a l, ρ, Q => wE Γ E a ρ fun x ρ1 => wAnd Γ E x l ρ1 Q
  | .or a l, ρ, Q => wE Γ E a ρ fun x ρ1 => wOr Γ E x l ρ1 Q
  | .ite c a b, ρ, Q => wT Γ E c ρ fun k ρ1 => if k = true then wE Γ E a ρ1 Q else wE Γ E b ρ1 Q
  | .tup l, ρ, Q => wA Γ E l ρ fun ds ρ1 => ds.length ≤ sizeLine ∧ Q (.tup ds) ρ1
  | .lst l, ρ, Q => wA Γ E l ρ fun ds ρ1 => ds.length ≤ sizeLine ∧ Q (.lst ds) ρ1
  | .ix a b, ρ, Q => wE Γ E a ρ fun x ρ1 => wE Γ E b ρ1 fun y ρ2 => ixW x y fun d => Q d ρ2
  | .sl a lo hi, ρ, Q => wE Γ E a ρ fun x ρ1 => wO Γ E lo ρ1 fun i ρ2 => wO Γ E hi ρ2 fun j ρ3 => slW x i j fun d => Q d ρ3
  | .call f l, ρ, Q => wA Γ E l ρ fun ds ρ1 => Γ f ds (fun d => Q d ρ1) fun dx => E dx ρ1
  | .callB f l, ρ, Q => wA Γ E l ρ fun ds ρ1 => Γ f ds (fun d => flatD d = true ∧ Q d ρ1) fun dx => (∀ p ∈ dx.2, flatD p.2 = true) ∧ E dx ρ1
  | .callK f ks pm l, ρ, Q => wA Γ E l ρ fun ds ρ1 => ds.length = ks.length ∧ Γ f (pm.filterMap fun j => ds[j]?) (fun d => Q d ρ1) fun dx => E dx ρ1
  | .dnew, ρ, Q => Q (.dct []) ρ
  | .dsp ks l, ρ, Q => wA Γ (fun _ _ => False) l ρ fun ds ρ1 => ρ1 = ρ ∧ Q (.dct (List.zipWith (fun k d => (Sum.inr k, d)) ks ds)) ρ
  | .bi f l, ρ, Q => wA Γ E l ρ fun ds ρ1 => biW f ds fun d => Q d ρ1
  | .isT ts a, ρ, Q => wE Γ E a ρ fun d ρ1 => ∃ t, tyD d = some t ∧ Q (.bl (ts.any (subTy t))) ρ1
  | .me m o l, ρ, Q => wE Γ E o ρ fun x ρ1 => match x with
    | .str z => wA Γ E l ρ1 fun ds ρ2 => meW m (.str z) ds fun d => Q d ρ2
    | _ => False
  | .lc g k l t e, ρ, Q => wA Γ E l ρ fun ds ρ1 => itW k ds fun items => lcL (wG g) (wTs Γ (fun _ _ => False) t) (wE Γ (fun _ _ => False) e) (wipeD ρ1 g.slots) (fun acc => Q (.lst acc) ρ1) items []
  | .dget d k, ρ, Q => wE Γ E d ρ fun x ρ1 => wE Γ E k ρ1 fun y ρ2 => match x with
    | .dct l => ∃ j z, keyD y = some j ∧ getK l j = some z ∧ Q z ρ2
    | _ => False
  | .din k d, ρ, Q => wE Γ E k ρ fun y ρ1 => wE Γ E d ρ1 fun x ρ2 => match x with
    | .dct l => ∃ j, keyD y = some j ∧ Q (.bl (getK l j).isSome) ρ2
    | _ => False
  | .dnin k d, ρ, Q => wE Γ E k ρ fun y ρ1 => wE Γ E d ρ1 fun x ρ2 => match x with
    | .dct l => ∃ j, keyD y = some j ∧ Q (.bl (!(getK l j).isSome)) ρ2
    | _ => False
  | .dg2 d k e, ρ, Q => wE Γ E d ρ fun x ρ1 => wE Γ E k ρ1 fun y ρ2 => wE Γ E e ρ2 fun z ρ3 => match x with
    | .dct l => ∃ j, keyD y = some j ∧ Q ((getK l j).getD z) ρ3
    | _ => False
def wAnd (Γ : Nat → FSp) (E : DX → DEnv → Prop) (x : D) : Exs → DEnv → (D → DEnv → Prop) → Prop
  | .nil, ρ, Q => Q x ρ
  | .cons e l, ρ, Q => match x with
    | .bl k => if k = true then wE Γ E e ρ fun y ρ1 => wAnd Γ E y l ρ1 Q else Q (.bl false) ρ
    | _ => False
def wOr (Γ : Nat → FSp) (E : DX → DEnv → Prop) (x : D) : Exs → DEnv → (D → DEnv → Prop) → Prop
  | .nil, ρ, Q => Q x ρ
  | .cons e l, ρ, Q => match x with
    | .bl k => if k = true then Q (.bl true) ρ else wE Γ E e ρ fun y ρ1 => wOr Γ E y l ρ1 Q
    | _ => False
def wT (Γ : Nat → FSp) (E : DX → DEnv → Prop) : Ex → DEnv → (Bool → DEnv → Prop) → Prop
  | .not a, ρ, Q => wT Γ E a ρ fun k ρ1 => Q (!k) ρ1
  | .and a l, ρ, Q => wT Γ E a ρ fun k ρ1 => if k = true then wTall Γ E l ρ1 Q else Q false ρ1
  | .or a l, ρ, Q => wT Γ E a ρ fun k ρ1 => if k = true then Q true ρ1 else wTany Γ E l ρ1 Q
  | .cmp o a b, ρ, Q => wE Γ E a ρ fun x ρ1 => wE Γ E b ρ1 fun y ρ2 => cmpW o x y fun k => Q k ρ2
  | .cmp2 o p a b c, ρ, Q => wE Γ E a ρ fun x ρ1 => wE Γ E b ρ1 fun y ρ2 => cmpW o x y fun k => if k = true then wE Γ E c ρ2 fun z ρ3 => cmpW p y z fun j => Q j ρ3 else Q false ρ2
  | .din k d, ρ, Q => wE Γ E k ρ fun y ρ1 => wE Γ E d ρ1 fun x ρ2 => match x with
    | .dct l => ∃ j, keyD y = some j ∧ Q (getK l j).isSome ρ2
    | _ => False
  | .dnin k d, ρ, Q => wE Γ E k ρ fun y ρ1 => wE Γ E d ρ1 fun x ρ2 => match x with
    | .dct l => ∃ j, keyD y = some j ∧ Q (!(getK l j).isSome) ρ2
    | _ => False
  | .tr e, ρ, Q => wE Γ E e ρ fun x ρ1 => truW x fun k => Q k ρ1
  | _, _, _ => False
def wTall (Γ : Nat → FSp) (E : DX → DEnv → Prop) : Exs → DEnv → (Bool → DEnv → Prop) → Prop
  | .nil, ρ, Q => Q true ρ
  | .cons e l, ρ, Q => wT Γ E e ρ fun k ρ1 => if k = true then wTall Γ E l ρ1 Q else Q false ρ1
def wTany (Γ : Nat → FSp) (E : DX → DEnv → Prop) : Exs → DEnv → (Bool → DEnv → Prop) → Prop
  | .nil, ρ, Q => Q false ρ
  | .cons e l, ρ, Q => wT Γ E e ρ fun k ρ1 => if k = true then Q true ρ1 else wTany Γ E l ρ1 Q
def wTs (Γ : Nat → FSp) (E : DX → DEnv → Prop) : Exs → DEnv → (Bool → DEnv → Prop) → Prop
  | .nil, ρ, Q => Q true ρ
  | .cons e .nil, ρ, Q => wT Γ E e ρ Q
  | _, _, _ => False
def wA (Γ : Nat → FSp) (E : DX → DEnv → Prop) : Exs → DEnv → (List D → DEnv → Prop) → Prop
  | .nil, ρ, Q => Q [] ρ
  | .cons e l, ρ, Q => wE Γ E e ρ fun x ρ1 => wA Γ E l ρ1 fun xs ρ2 => Q (x :: xs) ρ2
def wO (Γ : Nat → FSp) (E : DX → DEnv → Prop) : Exs → DEnv → (Option Int → DEnv → Prop) → Prop
  | .nil, ρ, Q => Q none ρ
  | .cons e .nil, ρ, Q => wE Γ E e ρ fun x ρ1 => match x with
    | .int i => Q (some i) ρ1
    | _ => False
  | _, _, _ => False
end
structure EndD where
  nx : DEnv → Prop
  rt : D → DEnv → Prop
  rtF : Bool := false
  bk : DEnv → Prop := fun _ => False
  ct : DEnv → Prop := fun _ => False
def forL (G : D → DEnv → (DEnv → Prop) → Prop) (B : EndD → DEnv → Prop) (Z : EndD) : List D → DEnv → Prop
  | [], ρ => Z.nx ρ
  | d :: ds, ρ => G d ρ fun ρ1 => B { nx := forL G B Z ds, rt := Z.rt, rtF := Z.rtF, bk := Z.nx, ct := forL G B Z ds } ρ1
def augW (o : BOp) (x y : D) (Q : D → Prop) : Prop := match o, x, y with
  | .add, .int a, .int b => Q (.int (a + b))
  | .sub, .int a, .int b => Q (.int (a - b))
  | .add, .str a, .str b => a.length + b.length ≤ sizeLine ∧ Q (.str (a ++ b))
  | _, _, _ => False
mutual
def wS (Γ : Nat → FSp) (E : DX → DEnv → Prop) : Sx → EndD → DEnv → Prop
  | .asg g e, Z, ρ => wE Γ E e ρ fun d ρ1 => wG g d ρ1 Z.nx
  | .own i e, Z, ρ => wE Γ E e ρ fun d ρ1 => match d with
    | .lst l => Z.nx (ρ1.set i (.own none l))
    | .dct l => Z.nx (ρ1.set i (.ownK none l))
    | _ => False
  | .lcs fz i g k l t e, Z, ρ => wE Γ E (.lc g k l t e) ρ fun d ρ1 => match d with
    | .lst l => Z.nx (ρ1.set i (if fz = true then .sh (.lst l) else .own none l))
    | _ => False
  | .aug i o e, Z, ρ => match ρ[i]? with
    | some (.sh x) => wE Γ E e ρ fun y ρ1 => augW o x y fun d => Z.nx (ρ1.set i (.sh d))
    | _ => False
  | .ret e, Z, ρ => wE Γ E e ρ fun d ρ1 => (Z.rtF = true → md e = .fr) ∧ Z.rt d ρ1
  | .retN, Z, ρ => Z.rtF = false ∧ Z.rt .non ρ
  | .expr e, Z, ρ => wE Γ E e ρ fun _ ρ1 => Z.nx ρ1
  | .app i e, Z, ρ => match ρ[i]? with
    | some (.own p l) => wE Γ E e ρ fun d ρ1 => ρ1[i]? = some (.own p l) ∧ l.length < sizeLine ∧ Z.nx (ρ1.set i (.own p (l ++ [d])))
    | _ => False
  | .ext i e, Z, ρ => match ρ[i]? with
    | some (.own p l) => wE Γ E e ρ fun d ρ1 => ρ1[i]? = some (.own p l) ∧ match d with
      | .lst m => l.length + m.length ≤ sizeLine ∧ Z.nx (ρ1.set i (.own p (l ++ m)))
      | _ => False
    | _ => False
  | .put i k e, Z, ρ => match ρ[i]? with
    | some (.ownK p l) => wE Γ E e ρ fun d ρ1 => wE Γ E k ρ1 fun y ρ2 => ρ1[i]? = some (.ownK p l) ∧ ρ2[i]? = some (.ownK p l) ∧ ∃ j, keyD y = some j ∧ l.length < sizeLine ∧ Z.nx (ρ2.set i (.ownK p (putD l j d)))
    | _ => False
  | .seti i k e, Z, ρ => match ρ[i]? with
    | some (.own p l) => wE Γ E e ρ fun d ρ1 => wE Γ E k ρ1 fun y ρ2 => ρ1[i]? = some (.own p l) ∧ ρ2[i]? = some (.own p l) ∧ match y with
      | .int n => ∃ j, ixN l.length n = some j ∧ Z.nx (ρ2.set i (.own p (l.set j d)))
      | _ => False
    | _ => False
  | .ife c a b, Z, ρ => wT Γ E c ρ fun k ρ1 => if k = true then wSs Γ E a Z ρ1 else wSs Γ E b Z ρ1
  | .whl c b, Z, ρ => ∃ W : Nat → DEnv → Prop, (∃ m, W m ρ) ∧ ∀ m ρ, W m ρ → wT Γ E c ρ fun k ρ1 => if k = true then
      wSs Γ E b { nx := fun ρ' => ∃ m', m' < m ∧ W m' ρ', rt := Z.rt, rtF := Z.rtF, bk := Z.nx, ct := fun ρ' => ∃ m', m' < m ∧ W m' ρ' } ρ1 else Z.nx ρ1
  | .for_ g k l b, Z, ρ => wA Γ E l ρ fun ds ρ1 => itW k ds fun items => forL (wG g) (wSs Γ E b) Z items ρ1
  | .brk, Z, ρ => Z.bk ρ
  | .cont, Z, ρ => Z.ct ρ
  | .pass, Z, ρ => Z.nx ρ
def wSs (Γ : Nat → FSp) (E : DX → DEnv → Prop) : Sxs → EndD → DEnv → Prop
  | .nil, Z, ρ => Z.nx ρ
  | .cons s l, Z, ρ => wS Γ E s { Z with nx := wSs Γ E l Z } ρ
end
end DL
/-! DC: what the operations ask by data is what they ask of values and heap -/
namespace DL
open PySem PySem.Spec PyProof.Rows L2

def notSeq : D → Bool
  | .lst _ => false
  | .dct _ => false
  | _ => true
inductive RepF (K : PySem.W.Frag) (H0 : Ent) (ρ : DEnv) (σ : L2.St) (Hf H : Hp) : D → V → Prop
  | sh {d : D} {v : V} (n : notSeq d = true) : Rep K Hf d v → RepF K H0 ρ σ Hf H d v
  | own {a : Addr} {l : List D} {xs : List V} : H0.h a = none → Hf a = none → H a = some (HO.lst xs) → Reps K Hf l xs → (∀ (i : Nat) (s : Sl), ρ[i]? = some s → s.isOwn = true → σ[i]? ≠ some (some (V.ref a))) → RepF K H0 ρ σ Hf H (D.lst l) (V.ref a)
  | ownK {a : Addr} {l : List (Key × D)} {xs : List (Key × V)} : H0.h a = none → Hf a = none → H a = some (HO.dK xs) → RepK K Hf l xs → (∀ (i : Nat) (s : Sl), ρ[i]? = some s → s.isOwn = true → σ[i]? ≠ some (some (V.ref a))) → RepF K H0 ρ σ Hf H (D.dct l) (V.ref a)
def Res (K : PySem.W.Frag) (H0 : Ent) (m : Md) (ρ : DEnv) (σ : L2.St) (Hf H : Hp) (d : D) (v : V) : Prop := match m with
  | .sh => Rep K Hf d v
  | .bo => RepB K Hf H d v
  | .fr => RepF K H0 ρ σ Hf H d v
section
variable {K : PySem.W.Frag} {EX : EXT} {H0 : Ent} {ρ : DEnv} {σ : L2.St} {Hf H : Hp} {d : D} {v : V}
theorem RepF.toB (r : RepF K H0 ρ σ Hf H d v) : RepB K Hf H d v := by
  cases r with
  | sh _ r => exact .sh r
  | own _ _ h r _ => exact .own h r
  | ownK _ _ h r _ => exact .ownK h r
theorem Res.toB {m : Md} (r : Res K H0 m ρ σ Hf H d v) : RepB K Hf H d v := by
  cases m with
  | sh => exact .sh r
  | bo => exact r
  | fr => exact RepF.toB r
theorem same_freeze {Hf H : Hp} {a : Addr} {o : HO} (s : Same Hf H) (n : Hf a = none) (h : H a = some o) : Same Hf (upd Hf a o) ∧ Same (upd Hf a o) H := by
  refine ⟨same_new n o, fun b u q => ?_⟩
  by_cases hb : b = a
  · subst hb; rw [upd_same] at q; cases q; exact h
  · rw [upd_ne hb] at q; exact s b u q
theorem SR.frz (R : SR K EX H0 ρ σ Hf H) (ek : EXok EX) {a : Addr} {o : HO} (n0 : H0.h a = none) (n : Hf a = none) (h : H a = some o) (f : ∀ (i : Nat) (s : Sl), ρ[i]? = some s → s.isOwn = true → σ[i]? ≠ some (some (V.ref a))) :
    SR K EX H0 ρ σ (upd Hf a o) H := by
  obtain ⟨s1, s2⟩ := same_freeze R.sub n h
  refine ⟨R.base.trans s1, R.ent, fun b h1 h2 => by rw [upd_ne (fun z => h1 (by rw [z]; exact n0))]; exact R.nof b h1 h2, s2, R.len, fun i d e => ?_, fun i p l e => ?_, fun i p l e => ?_, fun i c l e => ?_, R.apart⟩
  · obtain ⟨v, h1, r⟩ := R.sh i d e
    exact ⟨v, h1, r.same s1⟩
  · obtain ⟨b, xs, h1, h2, h3, r, z0⟩ := R.own i p l e
    refine ⟨b, xs, h1, ?_, h3, r.same s1, z0⟩
    rw [upd_ne (fun z => f i _ e rfl (by rw [h1, z]))]; exact h2
  · obtain ⟨b, xs, h1, h2, h3, r, z0⟩ := R.ownK i p l e
    refine ⟨b, xs, h1, ?_, h3, r.same s1, z0⟩
    rw [upd_ne (fun z => f i _ e rfl (by rw [h1, z]))]; exact h2
  · obtain ⟨v, h1, r⟩ := R.exc i c l e
    exact ⟨v, h1, ek _ _ _ _ _ s1 r⟩
/-- a fresh value is frozen -/
theorem RepF.freeze (r : RepF K H0 ρ σ Hf H d v) (R : SR K EX H0 ρ σ Hf H) (ek : EXok EX) : ∃ Hf', SR K EX H0 ρ σ Hf' H ∧ Same Hf Hf' ∧ Rep K Hf' d v := by
  cases r with
  | sh _ r => exact ⟨Hf, R, Same.refl _, r⟩
  | own n0 n h r f => exact ⟨_, R.frz ek n0 n h f, same_new n _, .lst (.of upd_same) (r.same (same_new n _))⟩
  | ownK n0 n h r f => exact ⟨_, R.frz ek n0 n h f, same_new n _, .dct (.inl upd_same) (r.same (same_new n _))⟩
theorem Res.freeze {m : Md} (r : Res K H0 m ρ σ Hf H d v) (hm : m ≠ .bo) (R : SR K EX H0 ρ σ Hf H) (ek : EXok EX) : ∃ Hf', SR K EX H0 ρ σ Hf' H ∧ Same Hf Hf' ∧ Rep K Hf' d v := by
  cases m with
  | sh => exact ⟨Hf, R, Same.refl _, r⟩
  | bo => exact absurd rfl hm
  | fr => exact RepF.freeze r R ek
theorem SR.notOwn (R : SR K EX H0 ρ σ Hf H) {p : Addr} (h : H p = none) : ∀ (i : Nat) (s : Sl), ρ[i]? = some s → s.isOwn = true → σ[i]? ≠ some (some (V.ref p)) := fun i s e o z => by
  cases s with
  | own p' l =>
    obtain ⟨b, xs, h1, _, h3, _⟩ := R.own i p' l e
    rw [h1] at z; cases z; rw [h] at h3; cases h3
  | ownK p' l =>
    obtain ⟨b, xs, h1, _, h3, _⟩ := R.ownK i p' l e
    rw [h1] at z; cases z; rw [h] at h3; cases h3
  | un => cases o
  | sh _ => cases o
  | exc _ _ => cases o
end

/-- what follows a value -/
def Kt (K : PySem.W.Frag) (EX : EXT) (H0 : Ent) (ρ : DEnv) (σ : L2.St) (Hf H : Hp) (m : Md) (Q : D → Prop) (QV : VK) : Prop :=
  ∀ d v Hf' H', SR K EX H0 ρ σ Hf' H' → Same Hf Hf' → Same H H' → Res K H0 m ρ σ Hf' H' d v → Q d → QV v H'

section
variable {K : PySem.W.Frag} {EX : EXT} {H0 : Ent} {ρ : DEnv} {σ : L2.St} {Hf H : Hp} {Q : D → Prop} {QV : VK}
theorem Kt.int (k : Kt K EX H0 ρ σ Hf H .fr Q QV) (R : SR K EX H0 ρ σ Hf H) {i : Int} (q : Q (.int i)) : QV (.int i) H := k _ _ Hf H R (Same.refl _) (Same.refl _) (.sh rfl (.int i)) q
theorem Kt.str (k : Kt K EX H0 ρ σ Hf H .fr Q QV) (R : SR K EX H0 ρ σ Hf H) {i : Str} (q : Q (.str i)) : QV (.str i) H := k _ _ Hf H R (Same.refl _) (Same.refl _) (.sh rfl (.str i)) q
theorem Kt.bl (k : Kt K EX H0 ρ σ Hf H .fr Q QV) (R : SR K EX H0 ρ σ Hf H) {i : Bool} (q : Q (.bl i)) : QV (.bl i) H := k _ _ Hf H R (Same.refl _) (Same.refl _) (.sh rfl (.bl i)) q
theorem Kt.lst (k : Kt K EX H0 ρ σ Hf H .fr Q QV) (R : SR K EX H0 ρ σ Hf H) (ek : EXok EX) {l : List D} {xs : List V} {p : Addr} (h : H p = none) (r : Reps K Hf l xs) (q : Q (.lst l)) : QV (.ref p) (upd H p (.lst xs)) :=
  k _ _ Hf (upd H p (.lst xs)) (R.newO ek h _) (Same.refl _) (same_new h _) (.own (R.ent.free h) (R.fresh h) upd_same r (R.notOwn h)) q
theorem Kt.tup (k : Kt K EX H0 ρ σ Hf H .fr Q QV) (R : SR K EX H0 ρ σ Hf H) (ek : EXok EX) {l : List D} {xs : List V} {p : Addr} (h : H p = none) (r : Reps K Hf l xs) (q : Q (.tup l)) : QV (.ref p) (upd H p (.tup xs)) :=
  k _ _ (upd Hf p (.tup xs)) (upd H p (.tup xs)) (R.newF ek h _) (same_new (R.fresh h) _) (same_new h _) (.sh rfl (.tup (.of upd_same) (r.same (same_new (R.fresh h) _)))) q
theorem Kt.rep (k : Kt K EX H0 ρ σ Hf H .fr Q QV) (R : SR K EX H0 ρ σ Hf H) {d : D} {v : V} (n : notSeq d = true) (r : Rep K Hf d v) (q : Q d) : QV v H := k _ _ Hf H R (Same.refl _) (Same.refl _) (.sh n r) q
end

/-! ### the widest rules: whatever the operation does -/
section
variable {X : Cx}
def mOp (X : Cx) (f : Value → Value → Sem Value) : R2 := fun x y H Q => ∀ (pins : List (Addr × Obj)) (s : Shared) (σ : L2.St) (v u : Value), Inv X pins σ H s → RelV x v → RelV y u → wpAny (model X.prog X.w) X.A (f v u) (EP X pins σ Q) X.xe s
theorem mOp_ok {f : Value → Value → Sem Value} : OpR X f (mOp X f) := fun pins s σ H x y v u Q I rx ry h => h pins s σ v u I rx ry
theorem mOp.of {f : Value → Value → Sem Value} {r : R2} (h : OpR X f r) {x y : V} {H : Hp} {Q : VK} (q : r x y H Q) : mOp X f x y H Q := fun pins s σ v u I rx ry => h pins s σ H x y v u Q I rx ry q
def mIx (X : Cx) : R2 := fun x y H Q => ∀ (value slice : Expr) (pins : List (Addr × Obj)) (s : Shared) (σ : L2.St) (v u : Value), Inv X pins σ H s → RelV x v → RelV y u → subscripted slice false v u = operate [v, u] (getItem v u) → wpAny (model X.prog X.w) X.A (subscriptTail value slice v u) (EP X pins σ Q) X.xe s
theorem mIx_ok : IxR X (mIx X) := fun value slice pins s σ H x y v u Q I rx ry h => h value slice pins s σ v u I rx ry
theorem mIx.of {r : R2} (h : IxR X r) {x y : V} {H : Hp} {Q : VK} (q : r x y H Q) : mIx X x y H Q := fun value slice pins s σ v u I rx ry => h value slice pins s σ H x y v u Q I rx ry q
def mSl (X : Cx) : V → Option Int → Option Int → Hp → VK → Prop := fun x lo hi H Q => ∀ (pins : List (Addr × Obj)) (s : Shared) (σ : L2.St) (v vl vu : Value) (sl : Addr), Inv X pins σ H s → RelV x v → s.heap.IsSliceOf sl vl vu .none → IsPart vl lo → IsPart vu hi →
    ∃ T id, typeLookup (.type T) "__getitem__" = pure (some (.builtin id)) ∧ s.TypeIs v T ∧ wpAny (model X.prog X.w) X.A (getItem v (.ref sl)) (EP X pins σ Q) X.xe s
theorem mSl_ok : SlR X (mSl X) := fun pins s σ H x v vl vu lo hi sl Q I rx hs pl pu h => h pins s σ v vl vu sl I rx hs pl pu
theorem mSl.of {r : V → Option Int → Option Int → Hp → VK → Prop} (h : SlR X r) {x : V} {lo hi : Option Int} {H : Hp} {Q : VK} (q : r x lo hi H Q) : mSl X x lo hi H Q := fun pins s σ v vl vu sl I rx hs pl pu => h pins s σ H x v vl vu lo hi sl Q I rx hs pl pu q
def mCa (X : Cx) (f : Value) : List V → Hp → VK → Prop := fun xs H Q => ∀ (pins : List (Addr × Obj)) (s : Shared) (σ : L2.St) (us : List Value), Inv X pins σ H s → Vals xs us → wpAny (model X.prog X.w) X.A (call f us) (EP X pins σ Q) X.xe s
theorem mCa_ok {f : Value} : CallR X f (mCa X f) := fun pins s σ H xs us Q I r h => h pins s σ us I r
theorem mCa.of {f : Value} {r : List V → Hp → VK → Prop} (h : CallR X f r) {xs : List V} {H : Hp} {Q : VK} (q : r xs H Q) : mCa X f xs H Q := fun pins s σ us I r => h pins s σ H xs us Q I r q
def mMt (X : Cx) (id : String) : V → List V → Hp → VK → Prop := fun x xs H Q => ∀ (pins : List (Addr × Obj)) (s : Shared) (σ : L2.St) (v : Value) (us : List Value), Inv X pins σ H s → RelV x v → Vals xs us → wpAny (model X.prog X.w) X.A (call (.builtin id) (v :: us)) (EP X pins σ Q) X.xe s
theorem mMt_ok {id : String} : MtR X id (mMt X id) := fun pins s σ H x xs v us Q I rx r h => h pins s σ v us I rx r
theorem mMt.of {id : String} {r : V → List V → Hp → VK → Prop} (h : MtR X id r) {x : V} {xs : List V} {H : Hp} {Q : VK} (q : r x xs H Q) : mMt X id x xs H Q := fun pins s σ v us I rx rs => h pins s σ H x xs v us Q I rx rs q
def mTr (X : Cx) : V → Hp → (Bool → Hp → Prop) → Prop := fun x H Q => ∀ (pins : List (Addr × Obj)) (s : Shared) (σ : L2.St) (v : Value), Inv X pins σ H s → RelV x v → wpAny (model X.prog X.w) X.A (truthy v) (TP X pins σ Q) X.xe s
end

/-! ### two lists joined, whatever way they are read -/
def rCatS (K : PySem.W.Frag) : R2 := fun x y H Q => ∃ l b xs zs, x = .ref l ∧ y = .ref b ∧ SqL K H l xs ∧ SqL K H b zs ∧ xs.length + zs.length ≤ sizeLine ∧ ∀ p, H p = none → Q (.ref p) (upd H p (.lst (xs ++ zs)))
theorem op_catS {X : Cx} : OpR X (binaryOp .Add) (rCatS X.K) := by
  intro pins s σ H x y v u Q I rx ry h
  obtain ⟨l, b, xs, zs, rfl, rfl, hl, hb, hz, q⟩ := h
  cases rx
  cases ry
  obtain ⟨it1, r1, ⟨⟨c1, d1, t1, s1⟩, n1, o1, k1, z1, e1⟩, _⟩ := I.list hl
  obtain ⟨it2, r2, ⟨⟨c2, d2, t2, s2⟩, n2, o2, k2, z2, e2⟩, _⟩ := I.list hb
  simp only at k1 e1 k2 e2
  subst k1 e1 k2 e2
  have h1 := r1.length
  have h2 := r2.length
  have ea : it1.toArray ++ it2.toArray = (it1 ++ it2).toArray := List.append_toArray ..
  have hsz : it1.toArray.size + it2.toArray.size ≤ sizeLine := by rw [List.size_toArray, List.size_toArray]; omega
  have goal : EP X pins σ Q (.ref s.heap.objs.size) { s with heap := s.heap.push { cls := .type "list", data := .seq (it1.toArray ++ it2.toArray) } } := by
    rw [ea]
    exact ⟨.ref _, _, I.lnew (t' := s.toks) (r1.append r2) (by rw [List.length_append]; exact hz), rfl, q _ I.fresh⟩
  exact concat_meets ⟨_, o1, rfl⟩ ⟨_, o2, rfl⟩ noFill_list_add seq_list_add PySem.F.slot_list_add PySem.F.entry_list_add (PySem.F.args_list_add_2 _ _) (list_addW l b it1.toArray it2.toArray n1 n2 d1 d2 s1 s2 hsz) ⟨o1, o2, goal⟩
end DL
/-! DD: the operations, one by one -/
namespace DL
open PySem PySem.Spec PyProof.Rows L2
theorem dI (i j : Int) : decide (V.int i = V.int j) = decide (i = j) := by simp
theorem dS (i j : Str) : decide (V.str i = V.str j) = decide (i = j) := by simp
theorem dB (i j : Bool) : decide (V.bl i = V.bl j) = decide (i = j) := by simp
def BOp.op : BOp → Operator
  | .add => .Add | .sub => .Sub | .mul => .Mult | .mod => .Mod | .fdiv => .FloorDiv | .pow => .Pow
def COp.op : COp → CmpOp
  | .lt => .Lt | .le => .LtE | .gt => .Gt | .ge => .GtE | .eq => .Eq | .ne => .NotEq | .is => .Is | .isn => .IsNot | .inn => .In | .nin => .NotIn
section
variable {K : PySem.W.Frag} {Hf H : Hp} {x : V}
theorem RepB.int_inv {i : Int} (r : RepB K Hf H (.int i) x) : x = .int i := by
  cases r with
  | sh r => cases r; rfl
theorem RepB.str_inv {i : Str} (r : RepB K Hf H (.str i) x) : x = .str i := by
  cases r with
  | sh r => cases r; rfl
theorem RepB.bl_inv {i : Bool} (r : RepB K Hf H (.bl i) x) : x = .bl i := by
  cases r with
  | sh r => cases r; rfl
theorem RepB.non_inv (r : RepB K Hf H .non x) : x = .non := by
  cases r with
  | sh r => cases r; rfl
theorem RepB.lst_inv {l : List D} (r : RepB K Hf H (.lst l) x) (s : Same Hf H) : ∃ a xs, x = .ref a ∧ SqL K H a xs ∧ Reps K Hf l xs := by
  cases r with
  | sh r =>
    cases r with
    | lst h r => exact ⟨_, _, rfl, s.seq h, r⟩
  | own h r => exact ⟨_, _, rfl, .of h, r⟩
theorem RepB.tup_inv {l : List D} (r : RepB K Hf H (.tup l) x) (s : Same Hf H) : ∃ a xs, x = .ref a ∧ SqT K H a xs ∧ SqT K Hf a xs ∧ Reps K Hf l xs := by
  cases r with
  | sh r =>
    cases r with
    | tup h r => exact ⟨_, _, rfl, (Sim.of s).seqT h, h, r⟩
theorem RepB.dct_inv {l : List (Key × D)} (r : RepB K Hf H (.dct l) x) (s : Same Hf H) : ∃ a xs, x = .ref a ∧ Rd H a (.dK xs) ∧ RepK K Hf l xs := by
  cases r with
  | sh r =>
    cases r with
    | dct h r => exact ⟨_, _, rfl, (Sim.of s).dk h, r⟩
  | ownK h r => exact ⟨_, _, rfl, .inl h, r⟩
theorem Reps.cutV {l : List D} {xs : List V} (r : Reps K H l xs) (lo hi : Option Int) : Reps K H (cutD l lo hi) (cutV xs lo hi) := by
  unfold cutD L2.cutV
  rw [r.length]
  exact (r.drop _).take _
theorem cut_whole {l : List D} {lo hi : Option Int} (h : HT.sIx l.length 0 lo = 0 ∧ HT.sIx l.length l.length hi = l.length) : cutD l lo hi = l := by
  unfold cutD
  rw [h.1, h.2, List.drop_zero, Nat.sub_zero, List.take_length]
theorem Reps.atI {l : List D} {xs : List V} (r : Reps K H l xs) {i : Int} {d : D} (h : atI l i = some d) : ∃ v, atI xs i = some v ∧ Rep K H d v := by
  unfold L2.atI at h ⊢
  rw [r.length] at h
  cases e : ixN xs.length i with
  | none => rw [e] at h; cases h
  | some j =>
    rw [e] at h
    obtain ⟨v, h1, h2⟩ := r.get (i := j) (d := d) h
    exact ⟨v, h1, h2⟩
mutual
theorem Rep.dp : ∀ (d : D) (v : V), Rep K H d v → SeqAt.shaped (toPy d) = true → Dp K H v (toPy d) := fun d v r s => Rep.dp0 d v r (SeqAt.canLay_of_shaped s)
theorem Rep.dp0 : ∀ (d : D) (v : V), Rep K H d v → (toPy d).canLay0 = true → Dp K H v (toPy d)
  | .non, _, .non, _ => .non
  | .bl b, _, .bl _, _ => .bl b
  | .int i, _, .int _, _ => .int i
  | .str x, _, .str _, _ => .str x
  | .tup l, _, .tup h r, s => .tup h (Reps.dp l _ r s)
  | .lst l, _, .lst h r, s => .lst h (Reps.dp l _ r s)
  | .dct _, _, _, s => nomatch s
  | .opq _, _, _, s => nomatch s
theorem Reps.dp : ∀ (l : List D) (xs : List V), Reps K H l xs → PyData.canLayAll0 (toPys l) = true → DpAll K H xs (toPys l)
  | [], _, .nil, _ => .nil
  | d :: l, _, .cons r t, s => by
    have s' : (toPy d).canLay0 = true ∧ PyData.canLayAll0 (toPys l) = true := by simpa [toPys, PyData.canLayAll0] using s
    exact .cons (Rep.dp0 d _ r s'.1) (Reps.dp l _ t s'.2)
end
theorem Rep.scal {a b : D} {y : V} (ra : Rep K H a x) (rb : Rep K H b y) (s : scalD a b = true) : scal x y = true := by
  cases ra <;> cases rb <;> first | rfl | cases s
theorem Rep.scal_ne {a b : D} {y : V} (ra : Rep K H a x) (rb : Rep K H b y) (s : scalD a b = true) (n : ∀ i j, a = .int i → b = .int j → False) (n2 : ∀ i j, a = .str i → b = .str j → False) (n3 : ∀ i j, a = .bl i → b = .bl j → False) (n4 : a = .non → b = .non → False) : x ≠ y := by
  cases ra <;> cases rb <;> first | (cases s; done) | exact (n _ _ rfl rfl).elim | exact (n2 _ _ rfl rfl).elim | exact (n3 _ _ rfl rfl).elim | exact (n4 rfl rfl).elim | exact (nofun)
end
section
variable {X : Cx} {EX : EXT} {H0 : Ent} {ρ : DEnv} {σ : L2.St} {Hf H : Hp} {a b : D} {x y : V} {Q : D → Prop} {QV : VK}
theorem op_srep : OpR X (binaryOp .Mult) (fun x y H Q => ∃ z n, x = .str z ∧ y = .int n ∧ MulOk z n ∧ Q (.str (Txt.mul z n)) H) := by
  intro pins s σ H x y v u Q I rx ry ⟨z, n, ex, ey, hm, q⟩
  subst ex ey
  obtain ⟨t, rfl⟩ := rx
  obtain ⟨t2, rfl⟩ := ry
  exact SB.mul hm fun t' k => ⟨.str (Txt.mul z n), H, I.tok _, ⟨t', rfl⟩, q⟩
theorem bin_ok (ek : EXok EX) {o : BOp} (R : SR X.K EX H0 ρ σ Hf H) (ra : RepB X.K Hf H a x) (rb : RepB X.K Hf H b y) (w : binW o a b Q) (k : Kt X.K EX H0 ρ σ Hf H .fr Q QV) : mOp X (binaryOp o.op) x y H QV := by
  unfold binW at w
  split at w
  · cases ra.int_inv; cases rb.int_inv
    exact mOp.of op_add ⟨_, _, rfl, rfl, k.int R w⟩
  · cases ra.str_inv; cases rb.str_inv
    exact mOp.of op_add_str ⟨_, _, rfl, rfl, w.1, k.str R w.2⟩
  · obtain ⟨p, xs, rfl, h1, r1⟩ := ra.lst_inv R.sub
    obtain ⟨q, ys, rfl, h2, r2⟩ := rb.lst_inv R.sub
    exact mOp.of op_catS ⟨_, _, _, _, rfl, rfl, h1, h2, by rw [← r1.length, ← r2.length]; exact w.1, fun p hp => k.lst R ek hp (r1.append r2) w.2⟩
  · obtain ⟨p, xs, rfl, h1, g1, r1⟩ := ra.tup_inv R.sub
    obtain ⟨q, ys, rfl, h2, g2, r2⟩ := rb.tup_inv R.sub
    refine mOp.of op_catA ⟨_, _, _, _, rfl, rfl, h1, h2, by rw [← r1.length, ← r2.length]; exact w.1, fun e => ?_, fun _ e => ?_, fun _ _ p hp => k.tup R ek hp (r1.append r2) w.2⟩
    · subst e; cases r1
      exact k.rep R rfl (.tup g2 r2) w.2
    · subst e; cases r2
      have w2 := w.2
      rw [List.append_nil] at w2
      exact k.rep R rfl (.tup g1 r1) w2
  · cases ra.int_inv; cases rb.int_inv
    exact mOp.of op_sub ⟨_, _, rfl, rfl, k.int R w⟩
  · cases ra.int_inv; cases rb.int_inv
    exact mOp.of op_mul ⟨_, _, rfl, rfl, w.1, k.int R w.2⟩
  · cases ra.str_inv; cases rb.int_inv
    exact mOp.of op_srep ⟨_, _, rfl, rfl, w.1, k.str R w.2⟩
  · cases ra.int_inv; cases rb.int_inv
    exact mOp.of op_mod ⟨_, _, rfl, rfl, w.1, k.int R w.2⟩
  · cases ra.int_inv; cases rb.int_inv
    exact mOp.of op_fdiv ⟨_, _, rfl, rfl, w.1, k.int R w.2⟩
  · cases ra.int_inv; cases rb.int_inv
    exact mOp.of op_pow ⟨_, _, rfl, rfl, w.1, k.int R w.2⟩
  · exact w.elim
theorem RepB.rep' (R : SR X.K EX H0 ρ σ Hf H) (ra : RepB X.K Hf H a x) : Rep X.K H a x := ra.rep R.sub
theorem eq_ok (hu : X.A.units + 64 < cLine) {W : Bool → Prop} (R : SR X.K EX H0 ρ σ Hf H) (ra : RepB X.K Hf H a x) (rb : RepB X.K Hf H b y) (w : eqW a b W) (k : ∀ c, W c → QV (.bl c) H) : mOp X (compareOp .Eq) x y H QV := by
  have r1 := ra.rep R.sub
  have r2 := rb.rep R.sub
  unfold eqW at w
  split at w
  · cases r1; cases r2
    refine mOp.of op_eq ⟨rfl, ?_⟩
    have e := k _ w
    rw [dI]; exact e
  · cases r1; cases r2
    refine mOp.of op_eq ⟨rfl, ?_⟩
    have e := k _ w
    rw [dS]; exact e
  · cases r1; cases r2
    refine mOp.of op_eq ⟨rfl, ?_⟩
    have e := k _ w
    rw [dB]; exact e
  · cases r1; cases r2
    exact mOp.of op_eq ⟨rfl, k _ w⟩
  · rename_i n1 n2 n3 n4
    split at w
    · rename_i hs
      refine mOp.of op_eq ⟨r1.scal r2 hs, ?_⟩
      have e : decide (x = y) = false := decide_eq_false (r1.scal_ne r2 hs n1 n2 n3 n4)
      rw [e]; exact k _ w
    · exact mOp.of (op_eqD hu) ⟨_, _, r1.dp _ _ w.1, r2.dp _ _ w.2.1, w.1, w.2.1, k _ w.2.2⟩
theorem ne_ok (hu : X.A.units + 64 < cLine) {W : Bool → Prop} (R : SR X.K EX H0 ρ σ Hf H) (ra : RepB X.K Hf H a x) (rb : RepB X.K Hf H b y) (w : eqW a b W) (k : ∀ c, W c → QV (.bl (!c)) H) : mOp X (compareOp .NotEq) x y H QV := by
  have r1 := ra.rep R.sub
  have r2 := rb.rep R.sub
  unfold eqW at w
  split at w
  · cases r1; cases r2
    refine mOp.of op_ne ⟨rfl, ?_⟩
    have e := k _ w
    rw [dI]; exact e
  · cases r1; cases r2
    refine mOp.of op_ne ⟨rfl, ?_⟩
    have e := k _ w
    rw [dS]; exact e
  · cases r1; cases r2
    refine mOp.of op_ne ⟨rfl, ?_⟩
    have e := k _ w
    rw [dB]; exact e
  · cases r1; cases r2
    exact mOp.of op_ne ⟨rfl, k _ w⟩
  · rename_i n1 n2 n3 n4
    split at w
    · rename_i hs
      refine mOp.of op_ne ⟨r1.scal r2 hs, ?_⟩
      have e : decide (x = y) = false := decide_eq_false (r1.scal_ne r2 hs n1 n2 n3 n4)
      rw [e]; exact k _ w
    · exact mOp.of (op_neD hu) ⟨_, _, r1.dp _ _ w.1, r2.dp _ _ w.2.1, w.1, w.2.1, k _ w.2.2⟩
theorem Rep.flat (r : Rep X.K H a x) (f : flatD a = true) : flatV x = true := by
  cases r <;> first | rfl | cases f
theorem Rep.eqF (r : Rep X.K H a x) (s : Rep X.K H b y) (f : flatD a = true) (g : flatD b = true) : eqV x y = eqF a b := by
  cases r <;> first | (cases f; done) | (cases s <;> first | (cases g; done) | rfl)
theorem Reps.inV {l : List D} {xs : List V} (r : Rep X.K H a x) (f : flatD a = true) : ∀ {l : List D} {xs : List V}, Reps X.K H l xs → l.all flatD = true → xs.all flatV = true ∧ L2.inV x xs = l.any fun y => DL.eqF y a
  | _, _, .nil, _ => ⟨rfl, rfl⟩
  | d :: l, _, .cons s t, g => by
    rw [List.all_cons, Bool.and_eq_true] at g
    obtain ⟨h1, h2⟩ := Reps.inV (l := []) (xs := []) r f t g.2
    refine ⟨by rw [List.all_cons, h1, s.flat g.1]; rfl, ?_⟩
    unfold L2.inV at h2 ⊢
    rw [List.any_cons, List.any_cons, h2, s.eqF r g.1 f]
theorem in_ok {neg : Bool} {W : Bool → Prop} (R : SR X.K EX H0 ρ σ Hf H) (ra : RepB X.K Hf H a x) {l : List D} {xs : List V} {p : Addr} (hq : SqL X.K H p xs ∨ SqT X.K H p xs) (rl : Reps X.K Hf l xs) (w : inW a l W) (k : ∀ c, W c → QV (.bl (if neg = true then !c else c)) H) :
    mOp X (compareOp (if neg = true then .NotIn else .In)) x (.ref p) H QV := by
  obtain ⟨f, g, w⟩ := w
  obtain ⟨h1, h2⟩ := Reps.inV (l := []) (xs := []) (ra.rep R.sub) f (rl.same R.sub) g
  have fx := (ra.rep R.sub).flat f
  cases neg with
  | false => exact mOp.of op_in_seq ⟨p, xs, rfl, hq, fx, h1, by rw [h2]; exact k _ w⟩
  | true => exact mOp.of op_notIn_seq ⟨p, xs, rfl, hq, fx, h1, by rw [h2]; exact k _ w⟩
theorem Rep.isn (r : Rep X.K H a x) (n : ∀ φ, a ≠ .opq φ) : decide (x = .non) = (match a with | .non => true | _ => false) := by
  cases r <;> first | rfl | exact (n _ rfl).elim
theorem cmp_ok (hu : X.A.units + 64 < cLine) {o : COp} {W : Bool → Prop} (R : SR X.K EX H0 ρ σ Hf H) (ra : RepB X.K Hf H a x) (rb : RepB X.K Hf H b y) (w : cmpW o a b W) (k : ∀ c, W c → QV (.bl c) H) : mOp X (compareOp o.op) x y H QV := by
  unfold cmpW at w
  split at w
  · cases ra.int_inv; cases rb.int_inv
    exact mOp.of op_lt ⟨_, _, rfl, rfl, k _ w⟩
  · cases ra.int_inv; cases rb.int_inv
    exact mOp.of op_le ⟨_, _, rfl, rfl, k _ w⟩
  · cases ra.int_inv; cases rb.int_inv
    exact mOp.of op_gt ⟨_, _, rfl, rfl, k _ w⟩
  · cases ra.int_inv; cases rb.int_inv
    exact mOp.of op_ge ⟨_, _, rfl, rfl, k _ w⟩
  · cases ra.str_inv; cases rb.str_inv
    exact mOp.of op_lt_str ⟨_, _, rfl, rfl, k _ w⟩
  · cases ra.str_inv; cases rb.str_inv
    exact mOp.of op_le_str ⟨_, _, rfl, rfl, k _ w⟩
  · cases ra.str_inv; cases rb.str_inv
    exact mOp.of op_gt_str ⟨_, _, rfl, rfl, k _ w⟩
  · cases ra.str_inv; cases rb.str_inv
    exact mOp.of op_ge_str ⟨_, _, rfl, rfl, k _ w⟩
  · exact eq_ok hu R ra rb w k
  · exact ne_ok hu R ra rb w fun c q => k _ q
  · exact w.elim
  · exact w.elim
  · cases ra.non_inv; cases rb.non_inv
    exact mOp.of op_isN ⟨rfl, k _ w⟩
  · rename_i n1 n2
    cases rb.non_inv
    refine mOp.of op_isN ⟨rfl, ?_⟩
    have e := Rep.isn (ra.rep R.sub) fun φ z => n1 φ z
    rw [e]
    cases a <;> first | exact (n2 rfl).elim | exact k _ w
  · cases ra.non_inv; cases rb.non_inv
    exact mOp.of op_notN ⟨rfl, k _ w⟩
  · rename_i n1 n2
    cases rb.non_inv
    refine mOp.of op_notN ⟨rfl, ?_⟩
    have e := Rep.isn (ra.rep R.sub) fun φ z => n1 φ z
    rw [e]
    cases a <;> first | exact (n2 rfl).elim | exact k _ w
  · cases ra.str_inv; cases rb.str_inv
    exact mOp.of op_in_sign ⟨_, _, rfl, rfl, k _ w⟩
  · cases ra.str_inv; cases rb.str_inv
    exact mOp.of op_notIn_sign ⟨_, _, rfl, rfl, k _ w⟩
  · obtain ⟨q, ys, rfl, h2, r2⟩ := rb.lst_inv R.sub
    exact in_ok (neg := false) R ra (.inl h2) r2 w fun c q => by rw [if_neg Bool.false_ne_true]; exact k _ q
  · obtain ⟨q, ys, rfl, h2, _, r2⟩ := rb.tup_inv R.sub
    exact in_ok (neg := false) R ra (.inr h2) r2 w fun c q => by rw [if_neg Bool.false_ne_true]; exact k _ q
  · obtain ⟨q, ys, rfl, h2, r2⟩ := rb.lst_inv R.sub
    exact in_ok (neg := true) R ra (.inl h2) r2 w fun c q => by rw [if_pos rfl]; exact k _ q
  · obtain ⟨q, ys, rfl, h2, _, r2⟩ := rb.tup_inv R.sub
    exact in_ok (neg := true) R ra (.inr h2) r2 w fun c q => by rw [if_pos rfl]; exact k _ q
  · exact w.elim
theorem ix_ok (R : SR X.K EX H0 ρ σ Hf H) (ra : RepB X.K Hf H a x) (rb : RepB X.K Hf H b y) (w : ixW a b Q) (k : Kt X.K EX H0 ρ σ Hf H .sh Q QV) : mIx X x y H QV := by
  unfold ixW at w
  split at w
  · obtain ⟨p, xs, rfl, h1, _, r1⟩ := ra.tup_inv R.sub
    cases rb.int_inv
    obtain ⟨d, e, q⟩ := w
    obtain ⟨v, e2, r⟩ := r1.atI e
    exact mIx.of ix_tup ⟨_, _, _, _, rfl, rfl, h1, e2, k d v Hf H R (Same.refl _) (Same.refl _) r q⟩
  · obtain ⟨p, xs, rfl, h1, r1⟩ := ra.lst_inv R.sub
    cases rb.int_inv
    obtain ⟨d, e, q⟩ := w
    obtain ⟨v, e2, r⟩ := r1.atI e
    exact mIx.of ix_list ⟨_, _, _, _, rfl, rfl, h1, e2, k d v Hf H R (Same.refl _) (Same.refl _) r q⟩
  · cases ra.str_inv; cases rb.int_inv
    obtain ⟨hz, c, e, q⟩ := w
    exact mIx.of ix_str ⟨_, _, _, rfl, rfl, hz, e, k _ _ Hf H R (Same.refl _) (Same.refl _) (Rep.str _) q⟩
  · exact w.elim
theorem sl_ok (ek : EXok EX) {lo hi : Option Int} (R : SR X.K EX H0 ρ σ Hf H) (ra : RepB X.K Hf H a x) (w : slW a lo hi Q) (k : Kt X.K EX H0 ρ σ Hf H .fr Q QV) : mSl X x lo hi H QV := by
  unfold slW at w
  split at w
  · obtain ⟨p, xs, rfl, h1, g1, r1⟩ := ra.tup_inv R.sub
    refine mSl.of sl_tupA ⟨_, _, rfl, h1, fun e => ?_, fun _ p hp => k.tup R ek hp (r1.cutV lo hi) w⟩
    rw [← r1.length] at e
    rw [cut_whole e] at w
    exact k.rep R rfl (.tup g1 r1) w
  · obtain ⟨p, xs, rfl, h1, r1⟩ := ra.lst_inv R.sub
    exact mSl.of sl_list ⟨_, _, rfl, h1, fun p hp => k.lst R ek hp (r1.cutV lo hi) w⟩
  · cases ra.str_inv
    exact mSl.of sl_str ⟨_, rfl, w.1, k.str R w.2⟩
  · exact w.elim
theorem tru_ok' {W : Bool → Prop} {QB : Bool → Hp → Prop} (R : SR X.K EX H0 ρ σ Hf H) (ra : RepB X.K Hf H a x) (w : truW a W) (k : ∀ c, W c → QB c H) : ∃ c, TruV X.K x H c ∧ QB c H := by
  unfold truW at w
  split at w
  · cases ra.non_inv; exact ⟨_, rfl, k _ w⟩
  · cases ra.bl_inv; exact ⟨_, rfl, k _ w⟩
  · cases ra.int_inv; exact ⟨_, rfl, k _ w⟩
  · cases ra.str_inv; exact ⟨_, ⟨w.1, rfl⟩, k _ w.2⟩
  · obtain ⟨p, xs, rfl, h1, r1⟩ := ra.lst_inv R.sub
    refine ⟨_, .inl ⟨xs, h1, rfl⟩, ?_⟩
    have e := k _ w
    cases r1 <;> exact e
  · obtain ⟨p, xs, rfl, h1, _, r1⟩ := ra.tup_inv R.sub
    refine ⟨_, .inr (.inl ⟨xs, h1, rfl⟩), ?_⟩
    have e := k _ w
    cases r1 <;> exact e
  · exact w.elim
end
end DL
/-! DE: built-in calls, methods, what is walked -/
namespace DL
open PySem PySem.Spec PyProof.Rows L2
/-- the values of a row of arguments, each borrowed or not -/
inductive RepBs (K : PySem.W.Frag) (Hf H : Hp) : List D → List V → Prop
  | nil : RepBs K Hf H [] []
  | cons {d : D} {v : V} {l : List D} {xs : List V} : RepB K Hf H d v → RepBs K Hf H l xs → RepBs K Hf H (d :: l) (v :: xs)
theorem RepBs.mono {K : PySem.W.Frag} {Hf H Hf' H' : Hp} (s : Same Hf Hf') (t : Same H H') : ∀ {l : List D} {xs : List V}, RepBs K Hf H l xs → RepBs K Hf' H' l xs
  | _, _, .nil => .nil
  | _, _, .cons r q => .cons (r.mono s t) (RepBs.mono s t q)
theorem RepBs.of {K : PySem.W.Frag} {Hf H : Hp} : ∀ {l : List D} {xs : List V}, Reps K Hf l xs → RepBs K Hf H l xs
  | _, _, .nil => .nil
  | _, _, .cons r q => .cons (.sh r) (RepBs.of q)
theorem RepBs.length {K : PySem.W.Frag} {Hf H : Hp} : ∀ {l : List D} {xs : List V}, RepBs K Hf H l xs → l.length = xs.length
  | _, _, .nil => rfl
  | _, _, .cons _ q => congrArg (· + 1) (RepBs.length q)
def tyOk : List String := ["NoneType", "bool", "int", "str", "tuple", "list", "dict"]
def subAll : Bool := tyOk.all fun t => tyOk.all fun u => decide (kitB t u = some (subTy t u))
theorem subAll_ok : subAll = true := by decide +kernel
theorem kit_sub {K : PySem.W.Frag} {t u : String} (h1 : t ∈ tyOk) (h2 : u ∈ tyOk) : PySem.W.kitOne K (.type t) (.type u) = some (subTy t u) := by
  have h := List.all_eq_true.mp (List.all_eq_true.mp subAll_ok t h1) u h2
  exact kit_ty (of_decide_eq_true h)
theorem kit_any {K : PySem.W.Frag} {t : String} (h1 : t ∈ tyOk) : ∀ {ts : List String}, (∀ u ∈ ts, u ∈ tyOk) → PySem.W.kitAny K (.type t) (ts.map Value.type) = some (ts.any (subTy t))
  | [], _ => kitAny_nil
  | u :: r, h => by
    have a := kit_sub (K := K) h1 (h u List.mem_cons_self)
    have b := kit_any (K := K) h1 (ts := r) fun v hv => h v (List.mem_cons_of_mem _ hv)
    rw [List.map_cons, List.any_cons]
    exact kitAny_cons a (fun e => by rw [e]; exact b) fun e => by rw [e]; rfl
section
variable {K : PySem.W.Frag} {H : Hp} {d : D} {x : V}
theorem tyD_mem {t : String} (h : tyD d = some t) : t ∈ tyOk := by
  cases d <;> first | (cases h; decide) | cases h
theorem Rep.ty {t : String} (r : Rep K H d x) (h : tyD d = some t) : TyX K H x (.type t) := by
  cases r with
  | non => cases h; exact .base .non
  | bl b => cases h; exact .base (.bl b)
  | int i => cases h; exact .base (.int i)
  | str x => cases h; exact .base (.str x)
  | tup s _ =>
    cases h
    rcases s with (s | ⟨o, s⟩) | ⟨o, its, n, s, c, _⟩
    · exact .base (.tup s)
    · exact .fTuple s
    · exact .kTuple s c
  | lst s _ =>
    cases h
    rcases s with (s | ⟨o, s⟩) | ⟨o, its, n, s, c, _⟩
    · exact .base (.lst s)
    · exact .base (.frz s)
    · exact .kList s c
  | dct s _ =>
    cases h
    rcases s with s | ⟨o, s⟩
    · exact .base (.dK s)
    · exact .fDict s
  | opq _ _ => cases h
end
section
variable {X : Cx} {EX : EXT} {H0 : Ent} {ρ : DEnv} {σ : L2.St} {Hf H : Hp} {a b : D} {x y : V} {ds : List D} {vs : List V} {Q : D → Prop} {QV : VK}
theorem isT_ok {ts : List String} {t : String} (R : SR X.K EX H0 ρ σ Hf H) (ra : RepB X.K Hf H a x) (ht : tyD a = some t) (hts : ∀ u ∈ ts, u ∈ tyOk) : ∃ b, b = ts.any (subTy t) ∧ TyX X.K H x (.type t) ∧ PySem.W.kitAny X.K (.type t) (ts.map Value.type) = some b :=
  ⟨_, rfl, (ra.rep R.sub).ty ht, kit_any (tyD_mem ht) hts⟩
theorem one_inv (rs : RepBs X.K Hf H [a] vs) : ∃ v, vs = [v] ∧ RepB X.K Hf H a v := by
  cases rs with
  | cons r rs => cases rs; exact ⟨_, rfl, r⟩
theorem two_inv (rs : RepBs X.K Hf H [a, b] vs) : ∃ v u, vs = [v, u] ∧ RepB X.K Hf H a v ∧ RepB X.K Hf H b u := by
  cases rs with
  | cons r rs =>
    obtain ⟨u, rfl, q⟩ := one_inv rs
    exact ⟨_, _, rfl, r, q⟩
theorem len_ok (R : SR X.K EX H0 ρ σ Hf H) (rs : RepBs X.K Hf H ds vs) (w : lenW ds Q) (k : Kt X.K EX H0 ρ σ Hf H .fr Q QV) : mCa X (.builtin "len") vs H QV := by
  unfold lenW at w
  split at w
  · obtain ⟨v, rfl, r⟩ := one_inv rs
    cases r.str_inv
    exact mCa.of call_len ⟨_, _, rfl, ⟨w.1, rfl⟩, k.int R w.2⟩
  · obtain ⟨v, rfl, r⟩ := one_inv rs
    obtain ⟨p, xs, rfl, h1, _, r1⟩ := r.tup_inv R.sub
    exact mCa.of call_len ⟨_, _, rfl, .inr ⟨xs, h1, rfl⟩, by rw [← r1.length]; exact k.int R w⟩
  · obtain ⟨v, rfl, r⟩ := one_inv rs
    obtain ⟨p, xs, rfl, h1, r1⟩ := r.lst_inv R.sub
    exact mCa.of call_len ⟨_, _, rfl, .inl ⟨xs, h1, rfl⟩, by rw [← r1.length]; exact k.int R w⟩
  · exact w.elim
theorem int_ok (R : SR X.K EX H0 ρ σ Hf H) (rs : RepBs X.K Hf H ds vs) (w : intW ds Q) (k : Kt X.K EX H0 ρ σ Hf H .fr Q QV) : mCa X (.type "int") vs H QV := by
  unfold intW at w
  split at w
  · obtain ⟨v, rfl, r⟩ := one_inv rs
    cases r.int_inv
    exact mCa.of call_int1 (.inl ⟨_, rfl, k.int R w⟩)
  · obtain ⟨v, rfl, r⟩ := one_inv rs
    cases r.bl_inv
    exact mCa.of call_int1 (.inr ⟨_, rfl, k.int R w⟩)
  · exact w.elim
theorem tuple_ok (ek : EXok EX) (R : SR X.K EX H0 ρ σ Hf H) (rs : RepBs X.K Hf H ds vs) (w : tupleW ds Q) (k : Kt X.K EX H0 ρ σ Hf H .fr Q QV) : mCa X (.type "tuple") vs H QV := by
  unfold tupleW at w
  split at w
  · obtain ⟨v, rfl, r⟩ := one_inv rs
    obtain ⟨p, xs, rfl, h1, g1, r1⟩ := r.tup_inv R.sub
    exact mCa.of call_tuple_of ⟨_, xs, rfl, .inr ⟨h1, k.rep R rfl (.tup g1 r1) w⟩⟩
  · obtain ⟨v, rfl, r⟩ := one_inv rs
    obtain ⟨p, xs, rfl, h1, r1⟩ := r.lst_inv R.sub
    exact mCa.of call_tuple_of ⟨_, xs, rfl, .inl ⟨h1, fun l hl => k.tup R ek hl r1 w⟩⟩
  · exact w.elim
theorem list_ok (ek : EXok EX) (R : SR X.K EX H0 ρ σ Hf H) (rs : RepBs X.K Hf H ds vs) (w : listW ds Q) (k : Kt X.K EX H0 ρ σ Hf H .fr Q QV) : mCa X (.type "list") vs H QV := by
  unfold listW at w
  split at w
  · obtain ⟨v, rfl, r⟩ := one_inv rs
    obtain ⟨p, xs, rfl, h1, g1, r1⟩ := r.tup_inv R.sub
    exact mCa.of call_list_of ⟨_, xs, rfl, .inr h1, fun l hl => k.lst R ek hl r1 w⟩
  · obtain ⟨v, rfl, r⟩ := one_inv rs
    obtain ⟨p, xs, rfl, h1, r1⟩ := r.lst_inv R.sub
    exact mCa.of call_list_of ⟨_, xs, rfl, .inl h1, fun l hl => k.lst R ek hl r1 w⟩
  · exact w.elim
theorem any_ok (hc : X.calm = true) (R : SR X.K EX H0 ρ σ Hf H) (rs : RepBs X.K Hf H ds vs) (w : anyW ds Q) (k : Kt X.K EX H0 ρ σ Hf H .fr Q QV) : mCa X (.builtin "any") vs H QV := by
  unfold anyW at w
  split at w
  · obtain ⟨bs, rfl, w⟩ := w
    obtain ⟨v, rfl, r⟩ := one_inv rs
    obtain ⟨p, xs, rfl, h1, r1⟩ := r.lst_inv R.sub
    rw [r1.bls] at h1
    exact mCa.of (cr_any hc) ⟨_, bs, rfl, h1, k.bl R w⟩
  · exact w.elim
theorem all_ok (hc : X.calm = true) (R : SR X.K EX H0 ρ σ Hf H) (rs : RepBs X.K Hf H ds vs) (w : allW ds Q) (k : Kt X.K EX H0 ρ σ Hf H .fr Q QV) : mCa X (.builtin "all") vs H QV := by
  unfold allW at w
  split at w
  · obtain ⟨bs, rfl, w⟩ := w
    obtain ⟨v, rfl, r⟩ := one_inv rs
    obtain ⟨p, xs, rfl, h1, r1⟩ := r.lst_inv R.sub
    rw [r1.bls] at h1
    exact mCa.of (cr_all hc) ⟨_, bs, rfl, h1, k.bl R w⟩
  · exact w.elim
theorem ord_ok (R : SR X.K EX H0 ρ σ Hf H) (rs : RepBs X.K Hf H ds vs) (w : ordW ds Q) (k : Kt X.K EX H0 ρ σ Hf H .fr Q QV) : mCa X (.builtin "ord") vs H QV := by
  unfold ordW at w
  split at w
  · obtain ⟨v, rfl, r⟩ := one_inv rs
    cases r.str_inv
    exact mCa.of call_ord ⟨_, rfl, w.1, k.int R w.2⟩
  · exact w.elim
theorem min2_ok (hc : X.calm = true) (R : SR X.K EX H0 ρ σ Hf H) (rs : RepBs X.K Hf H ds vs) (w : min2W ds Q) (k : Kt X.K EX H0 ρ σ Hf H .fr Q QV) : mCa X (.builtin "min") vs H QV := by
  unfold min2W at w
  split at w
  · obtain ⟨v, u, rfl, r, r'⟩ := two_inv rs
    cases r.int_inv; cases r'.int_inv
    exact mCa.of (call_min2 hc) ⟨_, _, rfl, k.int R w⟩
  · exact w.elim
theorem max2_ok (hc : X.calm = true) (R : SR X.K EX H0 ρ σ Hf H) (rs : RepBs X.K Hf H ds vs) (w : max2W ds Q) (k : Kt X.K EX H0 ρ σ Hf H .fr Q QV) : mCa X (.builtin "max") vs H QV := by
  unfold max2W at w
  split at w
  · obtain ⟨v, u, rfl, r, r'⟩ := two_inv rs
    cases r.int_inv; cases r'.int_inv
    exact mCa.of (call_max2 hc) ⟨_, _, rfl, k.int R w⟩
  · exact w.elim
theorem abs_ok (R : SR X.K EX H0 ρ σ Hf H) (rs : RepBs X.K Hf H ds vs) (w : absW ds Q) (k : Kt X.K EX H0 ρ σ Hf H .fr Q QV) : mCa X (.builtin "abs") vs H QV := by
  unfold absW at w
  split at w
  · obtain ⟨v, rfl, r⟩ := one_inv rs
    cases r.int_inv
    exact mCa.of call_abs ⟨_, rfl, k.int R w⟩
  · exact w.elim
theorem sum_ok (hc : X.calm = true) (R : SR X.K EX H0 ρ σ Hf H) (rs : RepBs X.K Hf H ds vs) (w : sumW ds Q) (k : Kt X.K EX H0 ρ σ Hf H .fr Q QV) : mCa X (.builtin "sum") vs H QV := by
  unfold sumW at w
  split at w
  · obtain ⟨ns, rfl, w⟩ := w
    obtain ⟨v, rfl, r⟩ := one_inv rs
    obtain ⟨p, xs, rfl, h1, r1⟩ := r.lst_inv R.sub
    rw [r1.ints] at h1
    exact mCa.of (cr_sum hc) ⟨_, ns, rfl, h1, k.int R w⟩
  · exact w.elim
def Bi.val : Bi → Value
  | .len => .builtin "len" | .int => .type "int" | .tuple => .type "tuple" | .list => .type "list" | .any => .builtin "any" | .all => .builtin "all" | .ord => .builtin "ord"
  | .min2 => .builtin "min" | .max2 => .builtin "max" | .abs => .builtin "abs" | .sum => .builtin "sum"
theorem bi_ok (ek : EXok EX) (hc : X.calm = true) {f : Bi} (R : SR X.K EX H0 ρ σ Hf H) (rs : RepBs X.K Hf H ds vs) (w : biW f ds Q) (k : Kt X.K EX H0 ρ σ Hf H .fr Q QV) : mCa X f.val vs H QV := by
  cases f with
  | len => exact len_ok R rs w k
  | int => exact int_ok R rs w k
  | tuple => exact tuple_ok ek R rs w k
  | list => exact list_ok ek R rs w k
  | any => exact any_ok hc R rs w k
  | all => exact all_ok hc R rs w k
  | ord => exact ord_ok R rs w k
  | min2 => exact min2_ok hc R rs w k
  | max2 => exact max2_ok hc R rs w k
  | abs => exact abs_ok R rs w k
  | sum => exact sum_ok hc R rs w k
def Me.id : Me → String
  | .starts => "str.startswith" | .starts2 => "str.startswith" | .join => "str.join" | .strip1 => "str.strip" | .split1 => "str.split"
theorem me_ok (ek : EXok EX) {m : Me} (R : SR X.K EX H0 ρ σ Hf H) (ra : RepB X.K Hf H a x) (rs : RepBs X.K Hf H ds vs) (w : meW m a ds Q) (k : Kt X.K EX H0 ρ σ Hf H .fr Q QV) : mMt X m.id x vs H QV := by
  unfold meW at w
  split at w
  · cases ra.str_inv
    obtain ⟨v, rfl, r⟩ := one_inv rs
    cases r.str_inv
    exact mMt.of mt_startswith ⟨_, _, rfl, rfl, k.bl R w⟩
  · cases ra.str_inv
    obtain ⟨v, u, rfl, r, r'⟩ := two_inv rs
    cases r.str_inv; cases r'.int_inv
    exact mMt.of mt_startswith3 ⟨_, _, _, rfl, rfl, k.bl R w⟩
  · cases ra.str_inv
    obtain ⟨v, rfl, r⟩ := one_inv rs
    obtain ⟨l, ys, e, rfl, hz, w⟩ := w
    rename_i d
    cases d with
    | lst l' =>
      cases e
      obtain ⟨p, xs, rfl, h1, r1⟩ := r.lst_inv R.sub
      rw [r1.strs] at h1
      exact mMt.of mt_join ⟨_, _, ys, rfl, rfl, .inl h1, hz, k.str R w⟩
    | tup l' =>
      cases e
      obtain ⟨p, xs, rfl, h1, _, r1⟩ := r.tup_inv R.sub
      rw [r1.strs] at h1
      exact mMt.of mt_join ⟨_, _, ys, rfl, rfl, .inr h1, hz, k.str R w⟩
    | _ => cases e
  · cases ra.str_inv
    obtain ⟨v, rfl, r⟩ := one_inv rs
    cases r.str_inv
    exact mMt.of mt_stripChars ⟨_, _, rfl, rfl, w.1, k.str R w.2⟩
  · cases ra.str_inv
    obtain ⟨v, rfl, r⟩ := one_inv rs
    cases r.str_inv
    exact mMt.of mt_split ⟨_, _, rfl, rfl, w.1, w.2.1, fun p hp => k.lst R ek hp Reps.of_strs w.2.2⟩
  · exact w.elim
theorem me_str {m : Me} (w : meW m a ds Q) : ∃ z, a = .str z := by
  unfold meW at w
  split at w <;> first | exact ⟨_, rfl⟩ | exact w.elim
end
end DL
/-! DF: what is walked -/
namespace DL
open PySem PySem.Spec PyProof.Rows L2

/-- a list or a tuple, read -/
def Sq (K : PySem.W.Frag) (k : Bool) (H : Hp) (a : Addr) (xs : List V) : Prop := if k = true then SqL K H a xs else SqT K H a xs
/-- the object of such a one, and its iterator -/
def Hs (k : Bool) (h : Heap) (a : Addr) (its : Array Value) : Prop := if k = true then h.IsList a its else h.IsTuple a its
def Hi (k : Bool) (h : Heap) (it a : Addr) (i : Nat) : Prop := if k = true then h.IsListIter it a i else h.IsTupleIter it a i
def Ho (k : Bool) (a : Addr) : Obj := if k = true then { cls := .type "list_iterator", data := .fields #[.ref a, .int 0 0] } else { cls := .type "tuple_iterator", data := .fields #[.ref a, .int 0 0] }
theorem Inv.src {X : Cx} {pins : List (Addr × Obj)} {σ : L2.St} {H : Hp} {s : Shared} (I : L2.Inv X pins σ H s) {k : Bool} {a : Addr} {xs : List V} (h : Sq X.K k H a xs) : ∃ its : List Value, Vals xs its ∧ Hs k s.heap a its.toArray := by
  cases k with
  | true =>
    obtain ⟨its, r, p, _⟩ := I.list (a := a) (xs := xs) h
    exact ⟨its, r, p.isList⟩
  | false =>
    obtain ⟨its, r, p, _⟩ := I.tuple (a := a) (xs := xs) h
    exact ⟨its, r, (show s.heap.IsTuple a its.toArray from p)⟩
theorem begins_k (k : Bool) (a : Addr) (its : Array Value) : Begins (.ref a) (Ho k a) fun h => Hs k h a its := by
  cases k with
  | true => exact begins_list a its
  | false => exact begins_tuple a its
theorem draws_k {prog : Program} {w : World} {A : Around} (hh : A.handled = none) (k : Bool) (it a : Addr) (hne : a ≠ it) (its : Array Value) :
    Draws prog w A it [it, a] its.size (fun i v => its[i]? = some v) (fun i h => Hi k h it a i ∧ Hs k h a its) := by
  cases k with
  | true => exact Draws.list hh it a hne its
  | false => exact Draws.tuple hh it a hne its
theorem Hi.at {k : Bool} {h h' : Heap} {it a : Addr} {i : Nat} (x : Hi k h it a i) (e : ∀ o, h.get? it = some o → h'.get? it = some o) : Hi k h' it a i := by
  cases k with
  | true => exact Heap.IsListIter.at (show h.IsListIter it a i from x) e
  | false => exact Heap.IsTupleIter.at (show h.IsTupleIter it a i from x) e
theorem Hi.obj {k : Bool} {h : Heap} {it a : Addr} {i : Nat} (x : Hi k h it a i) : ∃ o, h.get? it = some o ∧ ∀ v, o.data ≠ .cell v := by
  cases k with
  | true =>
    obtain ⟨o, ho, _, hd⟩ := (show h.IsListIter it a i from x)
    exact ⟨o, ho, fun v q => by rw [hd] at q; cases q⟩
  | false =>
    obtain ⟨o, ho, _, hd⟩ := (show h.IsTupleIter it a i from x)
    exact ⟨o, ho, fun v q => by rw [hd] at q; cases q⟩
theorem Hi.start {k : Bool} {h : Heap} {it a : Addr} (e : h.get? it = some (Ho k a)) : Hi k h it a 0 := by
  cases k with
  | true => exact ⟨_, e, rfl, rfl⟩
  | false => exact ⟨_, e, rfl, rfl⟩
theorem Hs.lt {k : Bool} {h : Heap} {a : Addr} {its : Array Value} (x : Hs k h a its) : a < h.objs.size := by
  cases k with
  | true => obtain ⟨o, e, _⟩ := (show h.IsList a its from x); exact Heap.lt_size e
  | false => obtain ⟨o, e, _⟩ := (show h.IsTuple a its from x); exact Heap.lt_size e

/-- enumerate(v), one argument: its two new cells -/
theorem meets_en {v : Value} {o : Obj} {H : Heap → Prop} (B : Begins v o H) :
    Meets (Builtin.«enumerate.__new__» ⟨[.type "enumerate", v], []⟩) (fun _ R s => H s.heap ∧
      R (.ok (.ret (.ref (s.heap.push o).objs.size))) { s with heap := (s.heap.push o).push { cls := .type "enumerate", data := .fields #[.none, .bool false, .ref s.heap.objs.size, rawInt 0, .none, .none] } }) :=
  .of_wp fun prog w A R s h => by
    obtain ⟨hp, g, d, tk, os⟩ := s
    obtain ⟨h1, h⟩ := h
    have hsub := sub_enumerate
    have qi : ∀ {A' : Around} {E : Value → Shared → Prop} {Q : Value → Shared → Prop}, Q (.ref hp.objs.size) ⟨hp.push o, g, d, tk, os⟩ → wpAny (model prog w) A' (pyIter v) Q E ⟨hp, g, d, tk, os⟩ :=
      fun q => B.iter prog w _ _ ⟨hp, g, d, tk, os⟩ _ h1 q
    wp_walk using qi
    refine wpAny_stack_any fun st => wpAny_pure ?_
    split
    · rename_i c _ _ _ _ _
      cases (c == Value.type "enumerate") <;> (wp_walk using qi; exact ⟨_, rfl, h⟩)
    · wp_walk using qi
      exact ⟨_, rfl, h⟩
theorem call_en {prog : Program} {w : World} {A : Around} {E : Value → Shared → Prop} {s : Shared} {v : Value} {o : Obj} {H : Heap → Prop} {Q : Value → Shared → Prop} (B : Begins v o H) (h1 : H s.heap)
    (h : ∀ h', IsEnum h' (s.heap.objs.size + 1) s.heap.objs.size 0 .none → h'.get? s.heap.objs.size = some o → (∀ b u, s.heap.get? b = some u → h'.get? b = some u) → Q (.ref (s.heap.objs.size + 1)) { s with heap := h' }) :
    wpAny (model prog w) A (call (.type "enumerate") [v]) Q E s := by
  have z : (s.heap.push o).objs.size = s.heap.objs.size + 1 := Heap.size_push ..
  refine callType_new F.called_enumerate (by decide) (F.typeCall_enumerate_1 _) (F.newCall_enumerate_1 _) (fun obj => F.args_object_init_2 obj _) F.entry_enumerate_new (meets_en B) ⟨h1, ?_⟩
  have he := Heap.get?_push_size (s.heap.push o) (o := { cls := .type "enumerate", data := .fields #[.none, .bool false, .ref s.heap.objs.size, rawInt 0, .none, .none] }) rfl
  show _ ∧ _
  rw [z] at he ⊢
  exact ⟨⟨_, he, rfl⟩, h _ he (Heap.get?_push_of_some _ (Heap.get?_push_size _ B.free)) fun b u q => Heap.get?_push_of_some _ (Heap.get?_push_of_some _ q)⟩

/-- pairs: the k-th of xs with f -/
def Jp (G : Hp → Prop) (n : Nat) (f : Nat → V → V → Prop) : It :=
  ⟨fun i H => G H ∧ i < n, fun i H v H' => ∃ T x y, v = .ref T ∧ H T = none ∧ H' = upd H T (.tup [x, y]) ∧ f i x y, fun i H => G H ∧ i = n⟩
/-- a walk of pairs from the library's walk of new tuples -/
theorem turn_pairs {P : Program} {w : World} {K : PySem.W.Frag} {elts : List Expr} {kk : Nat} {tpos : Pos} {I : Addr} {wr : List Addr} {n : Nat} {G : Hp → Prop} {f : Nat → V → V → Prop} {tn : Nat → Heap → Prop} (hI : I ∈ wr)
    (obj : ∀ i h, tn i h → ∀ b ∈ wr, ∃ o, h.get? b = some o ∧ ∀ v, o.data ≠ .cell v)
    (keep : ∀ i h h', tn i h → (∀ b ∈ wr, ∀ o, h.get? b = some o → h'.get? b = some o) → tn i h')
    (src : ∀ (X : Cx) (pins : List (Addr × Obj)) (σ : L2.St) (H : Hp) (s : Shared), X.prog = P → X.w = w → X.K = K → X.calm = true → Inv X pins σ H s → G H →
      ∃ (fp : List Addr) (Y : Nat → Heap → Value → Heap → Prop) (St : Nat → Heap → Prop), GoesN P w X.A (.Tuple elts kk tpos) I fp wr n Y St ∧ (∀ i, tn i s.heap → St i s.heap) ∧ (∀ i h, St i h → tn i h) ∧
        ∀ i h v h', Y i h v h' → ∃ (T : Addr) (x y : V) (u1 u2 : Value), v = .ref T ∧ h.objs.size ≤ T ∧ h'.IsTuple T #[u1, u2] ∧ RelV x u1 ∧ RelV y u2 ∧ f i x y)
    (self : ∀ (A : Around) (i : Nat) (s : Shared) (Q : Value → Shared → Prop) (E : Value → Shared → Prop), tn i s.heap → Q (.ref I) s → wpAny (model P w) A (pyIter (.ref I)) Q E s) :
    Turn P w K (.Tuple elts kk tpos) (Jp G n f) wr I tn where
  mem := hI
  obj := obj
  keep := keep
  item := by
    intro X hP hw hK hc i pins s σ H E I0 hf st hg
    obtain ⟨fp, Y, St, W, h1, h2, h3⟩ := src X pins σ H s hP hw hK hc I0 hg.1
    have live : ∀ b ∈ wr, b < s.heap.objs.size := fun b hb => let ⟨o, e, _⟩ := obj i _ st b hb; Heap.lt_size e
    refine wpAny_mono (W.goes i s (fun v s2 => ∃ x H', Inv X pins σ H' s2 ∧ RelV x v ∧ (Jp G n f).yld i H x H' ∧ tn (i + 1) s2.heap ∧ ∀ b ∈ wr, H' b = none) E hg.2 (h1 i st) fun v h' tk y st' kp _ => ?_) (fun r s1 ⟨v, e, q⟩ => ⟨v, e, q⟩) fun _ _ z => z
    obtain ⟨T, x, y', u1, u2, rfl, hT, ht, r1, r2, hy⟩ := h3 i _ _ _ y
    have tu : ∃ o, h'.get? T = some o ∧ o.cls = .type "tuple" ∧ ∃ n, o.data = .seq #[u1, u2] n := ht
    have new : ObjOk X.prog X.w (upd H T (.tup [x, y'])) h' T (.tup [x, y']) := ⟨by show 2 ≤ sizeLine; decide, [u1, u2], .cons r1 (.cons r2 .nil), tu⟩
    have J : Inv X pins σ (upd H T (.tup [x, y'])) { s with heap := h', toks := tk } := I0.turnedNew (ch := wr) (fun b o hb e => kp b o hb e) hf hT new
    refine ⟨.ref T, _, J, rfl, ⟨T, x, y', rfl, I0.hok.fresh hT, rfl, hy⟩, h2 _ _ st', fun b hb => ?_⟩
    rw [upd_ne (Nat.ne_of_lt (Nat.lt_of_lt_of_le (live b hb) hT))]
    exact (hf b hb).1
  done := by
    intro X hP hw hK hc i pins s σ H E I0 hf st hg
    obtain ⟨hg, rfl⟩ := hg
    obtain ⟨fp, Y, St, W, h1, h2, h3⟩ := src X pins σ H s hP hw hK hc I0 hg
    exact W.stops s (fun s1 => Inv X pins σ H s1) E (h1 _ st) fun h' tk kp _ => I0.turnedL (ch := wr) (fun b o hb e => kp b o hb e) hf
  self := self

section
variable {X : Cx} {tg : Expr}
/-- list or tuple -/
def iSeq (K : PySem.W.Frag) (te : TE) : TI := fun σ H R => te σ H fun x H1 => ∃ (k : Bool) (a : Addr) (xs : List V), x = .ref a ∧ Sq K k H1 a xs ∧ R (if k = true then Itl K a else Itt K a) H1
theorem pi_seq {e : Expr} {te : TE} (he : PE X e te) : PI X tg e (iSeq X.K te) := by
  refine ⟨fun pins s σ H R I h => thn (he.run pins s σ H _ I h) fun u s1 ⟨x, H1, I1, r1, k, a, xs, ex, hq, q⟩ => ?_⟩
  subst ex
  cases r1
  obtain ⟨its, rv, hs⟩ := Inv.src I1 hq
  have fr : ∀ b ∈ [s1.heap.objs.size], FpOk X pins H1 b := fun b hb => by
    cases (List.mem_singleton.mp hb)
    exact I1.fpOk (Nat.le_refl _) (I1.hok.fresh (Nat.le_refl _))
  have J : ∀ o : Obj, Inv X pins σ H1 { s1 with heap := s1.heap.push o } := fun o => I1.kept (t' := s1.toks) fun b o' e => Heap.get?_push_of_some _ e
  cases k with
  | true =>
    refine wpAny_pyIter_list (show s1.heap.IsList a its.toArray from hs) ?_
    exact ⟨s1.heap.objs.size, [s1.heap.objs.size], _, _, H1, rfl, J _, turn_list a _, ⟨_, Heap.get?_push_size _ rfl, rfl, rfl⟩, fr, q⟩
  | false =>
    refine wpAny_pyIter_tuple (show s1.heap.IsTuple a its.toArray from hs) ?_
    exact ⟨s1.heap.objs.size, [s1.heap.objs.size], _, _, H1, rfl, J _, turn_tuple a _, ⟨_, Heap.get?_push_size _ rfl, rfl, rfl⟩, fr, q⟩
/-- enumerate(v), v a list or a tuple -/
abbrev Jen (K : PySem.W.Frag) (k : Bool) (a : Addr) (xs : List V) : It := Jp (fun H => Sq K k H a xs) xs.length (fun i x y => x = .int (i : Nat) ∧ xs[i]? = some y)
def iEn (K : PySem.W.Frag) (ta : TA) : TI := fun σ H R => ta σ H fun vs H1 => ∃ (k : Bool) (a : Addr) (xs : List V), vs = [.ref a] ∧ Sq K k H1 a xs ∧ R (Jen K k a xs) H1
theorem turn_en {P : Program} {w : World} {K : PySem.W.Frag} {elts : List Expr} {kk : Nat} {tpos : Pos} (k : Bool) (a e it : Addr) (xs : List V) (hne : e ≠ it) (ha : a ≠ it) (hae : a ≠ e) :
    Turn P w K (.Tuple elts kk tpos) (Jen K k a xs) [e, it] e (fun i h => (∃ old, IsEnum h e it (0 + ((i : Nat) : Int)) old) ∧ Hi k h it a i) := by
  refine turn_pairs (by simp) (fun i h st b hb => ?_) (fun i h h' st kp => ?_) (fun X pins σ H s hP hw hK hc I hq => ?_) (fun A i s Q E st h => let ⟨⟨_, he⟩, _⟩ := st; wpAny_pyIter_enum he h)
  · obtain ⟨⟨old, he⟩, hi⟩ := st
    have z : b = e ∨ b = it := by simpa using hb
    rcases z with rfl | rfl
    · exact ⟨_, he, fun v q => nomatch q⟩
    · exact hi.obj
  · obtain ⟨⟨old, he⟩, hi⟩ := st
    exact ⟨⟨old, kp e (by simp) _ he⟩, hi.at fun o q => kp it (by simp) o q⟩
  · subst hP hw hK
    obtain ⟨its, rv, hs⟩ := Inv.src I hq
    have hl : its.toArray.size = xs.length := by rw [List.size_toArray]; exact rv.length.symm
    have hh : X.A.in1.handled = none := I.ok.hd hc
    have D := draws_k (prog := X.prog) (w := X.w) hh k it a ha its.toArray
    have W := GoesN.enumFrom (elts := elts) (x1 := kk) (pos := tpos) 0 D e hne (by simp [hne, Ne.symm hae]) (by simp)
    rw [hl] at W
    refine ⟨_, _, _, W, fun i st => ⟨st.1, st.2, hs⟩, fun i h st => ⟨st.1, st.2.1⟩, fun i h v h' y => ?_⟩
    obtain ⟨T, t, x, ev, hT, hx, ht⟩ := y
    have hx' : its[i]? = some x := by simpa using hx
    have hi : i < xs.length := by rw [rv.length]; exact (List.getElem?_eq_some_iff.mp hx').1
    obtain ⟨u, hu, ru⟩ := rv.get (i := i) (x := xs[i]) (by simp [hi])
    rw [hx'] at hu
    cases hu
    refine ⟨T, .int (i : Nat), xs[i], _, _, ev, hT, ht, ⟨t, by rw [Int.zero_add]⟩, ru, rfl, by simp [hi]⟩
theorem pi_en {elts : List Expr} {kk : Nat} {tpos p pos : Pos} {e : Expr} {ta : TA} (hg : Gl X "enumerate") (hm : X.mg "enumerate" = none) (ha : PA X [e] ta) (hs : starEach [e] X.env = [(false, eval e X.env)]) :
    PI X (.Tuple elts kk tpos) (.Call (.Name "enumerate" p) [e] [] pos) (iEn X.K ta) := by
  refine ⟨fun pins s σ H R I h => Call_ (ld_blt I hg hm boot_enumerate (PyProof.Rows.callWith_type1 (thn (ha.run pos pins s σ H _ I h) fun us s1 hh => ?_) hs rfl))⟩
  obtain ⟨vs, H1, I1, r1, k, a, xs, ex, hq, q⟩ := hh
  subst ex
  obtain ⟨u, rfl, ru⟩ := vals1 r1
  cases ru
  obtain ⟨its, rv, hs1⟩ := Inv.src I1 hq
  have hlt := hs1.lt
  refine call_en (begins_k k a its.toArray) hs1 fun h' he ho kp => wpAny_pyIter_enum he ?_
  have fr : ∀ b ∈ [s1.heap.objs.size + 1, s1.heap.objs.size], FpOk X pins H1 b := fun b hb => by
    have z : b = s1.heap.objs.size + 1 ∨ b = s1.heap.objs.size := by simpa using hb
    have hle : s1.heap.objs.size ≤ b := by
      rcases z with z | z
      · rw [z]; exact Nat.le_succ _
      · rw [z]; exact Nat.le_refl _
    exact I1.fpOk hle (I1.hok.fresh hle)
  exact ⟨s1.heap.objs.size + 1, [s1.heap.objs.size + 1, s1.heap.objs.size], _, _, H1, rfl, I1.kept (t' := s1.toks) kp, turn_en k a (s1.heap.objs.size + 1) s1.heap.objs.size xs (Nat.succ_ne_self _) (Nat.ne_of_lt hlt) (Nat.ne_of_lt (Nat.lt_succ_of_lt hlt)),
    ⟨⟨_, by rw [Int.zero_add]; exact he⟩, Hi.start ho⟩, fr, q⟩
end
end DL
/-! DG: promises by data, the context, walks by data -/
namespace DL
open PySem PySem.Spec PyProof.Rows L2

/-- the fields of an exception -/
inductive RepX (K : PySem.W.Frag) (H : Hp) : List (Str × D) → List (Str × V) → Prop
  | nil : RepX K H [] []
  | cons {x : Str} {d : D} {v : V} {l : List (Str × D)} {xs : List (Str × V)} : Rep K H d v → RepX K H l xs → RepX K H ((x, d) :: l) ((x, v) :: xs)
theorem RepX.same {K : PySem.W.Frag} {H H' : Hp} (e : Same H H') : ∀ {l : List (Str × D)} {xs : List (Str × V)}, RepX K H l xs → RepX K H' l xs
  | _, _, .nil => .nil
  | _, _, .cons r t => .cons (r.same e) (RepX.same e t)
/-- the promise sp (by data) of a def, by values and heap; Hf: the part of the heap that is never written again -/
def low (K : PySem.W.Frag) (xa : Nat → Addr) (sp : FSp) : Sp := fun vs H QV E => ∃ (ds : List D) (QD : D → Prop) (QE : DX → Prop) (Hf : Hp), Same Hf H ∧ Reps K Hf ds vs ∧ sp ds QD QE ∧
  (∀ d v Hf' H', Same H H' → Same Hf Hf' → Same Hf' H' → (∀ a : Addr, H a ≠ none → Hf a = none → Hf' a = none) → Rep K Hf' d v → QD d → QV v H') ∧
  (∀ c l dd xs Hf' H', Same H H' → Same Hf Hf' → Same Hf' H' → (∀ a : Addr, H a ≠ none → Hf a = none → Hf' a = none) → H' dd = some (.xd xs) → RepX K Hf' l xs → QE (c, l) → E (.ref (xa c)) (some dd) H')
/-- what is wished of an exception at the slots -/
def lowW (K : PySem.W.Frag) (EX : EXT) (H0 : Ent) (xa : Nat → Addr) (ED : DX → DEnv → Prop) : WX := fun cls d σ H =>
  ∃ (c : Nat) (l : List (Str × D)) (dd : Addr) (xs : List (Str × V)) (ρ : DEnv) (Hf : Hp), cls = .ref (xa c) ∧ d = some dd ∧ SR K EX H0 ρ σ Hf H ∧ H dd = some (.xd xs) ∧ RepX K Hf l xs ∧ ED (c, l) ρ

def bltNames : List Str := ["len", "int", "tuple", "list", "isinstance", "any", "all", "ord", "min", "max", "abs", "sum", "range", "enumerate", "zip", "str", "bool", "dict", "set", "sorted", "reversed", "repr"]
/-- a def of the program keeps its promise -/
def FD (X : Cx) (xa : Nat → Addr) (Γ : Nat → FSp) (C : Cn) (f : Nat) : Prop :=
  ∃ (fa : Addr) (fd : FuncData) (ps : List Str), X.mg (C.nm f) = some (.ref fa) ∧ PySem.W.keepIn X.K (.ref fa) = true ∧ Binds X.K fd ps [] ∧ FnOk X.prog X.w X.K X.mg X.base (L2.CX X.prog X.w) (C.lv f) fa fd ps (low X.K xa (Γ f))
/-- the context is as the check takes it -/
structure Cok (X : Cx) (xa : Nat → Addr) (Γ : Nat → FSp) (C : Cn) (sc : Scope) : Prop where
  N : X.N = C.N
  nd : C.N.Nodup
  scp : X.env.scope = sc
  calm : X.calm = true
  room : Room C.k X.A
  fns : ∀ f ∈ C.dep, FD X xa Γ C f
  blt : ∀ x ∈ bltNames, X.mg x = none
theorem Cok.hu {X : Cx} {xa : Nat → Addr} {Γ : Nat → FSp} {C : Cn} {sc : Scope} (c : Cok X xa Γ C sc) : X.A.units + 64 < cLine := c.room.units

/-- a walk gives just these data -/
structure ItD (K : PySem.W.Frag) (EX : EXT) (b : Bool) (Hf0 H1 : Hp) (J : It) (items : List D) : Prop where
  go : ∀ i Hf H, Same Hf0 Hf → Same Hf H → (b = true → Same H1 H) → i < items.length → J.go i H
  stop : ∀ Hf H, Same Hf0 Hf → Same Hf H → (b = true → Same H1 H) → J.stop items.length H
  yld : ∀ (H0 : Ent) i d H x H' Hf ρ σ, SR K EX H0 ρ σ Hf H → Same Hf0 Hf → (b = true → Same H1 H) → items[i]? = some d → J.yld i H x H' → ∃ Hf', SR K EX H0 ρ σ Hf' H' ∧ Same Hf Hf' ∧ Same H H' ∧ Rep K Hf' d x
section
variable {K : PySem.W.Frag} {EX : EXT} {Hf0 H1 : Hp} {x y : V} {d e : D}
/-- a borrowed value, told by its list or tuple -/
theorem seq_inv {l : List D} (r : RepB K Hf0 H1 d x) (s : Same Hf0 H1) (h : strsD d = some l) :
    ∃ (k b : Bool) (a : Addr) (xs : List V), x = .ref a ∧ Sq K k H1 a xs ∧ Reps K Hf0 l xs ∧ (b = true ∨ Sq K k Hf0 a xs) ∧ (b = false → Sq K k Hf0 a xs) := by
  cases d with
  | tup l' =>
    cases h
    obtain ⟨a, xs, rfl, h1, h2, r1⟩ := r.tup_inv s
    exact ⟨false, false, a, xs, rfl, h1, r1, .inr h2, fun _ => h2⟩
  | lst l' =>
    cases h
    obtain ⟨a, xs, rfl, h1, r1⟩ := r.lst_inv s
    exact ⟨true, true, a, xs, rfl, h1, r1, .inl rfl, fun z => by cases z⟩
  | _ => cases h
theorem seq_sh {l : List D} (r : Rep K Hf0 d x) (h : strsD d = some l) : ∃ (k : Bool) (a : Addr) (xs : List V), x = .ref a ∧ Sq K k Hf0 a xs ∧ Reps K Hf0 l xs := by
  cases d with
  | tup l' =>
    cases h
    cases r with
    | tup h r => exact ⟨false, _, _, rfl, h, r⟩
  | lst l' =>
    cases h
    cases r with
    | lst h r => exact ⟨true, _, _, rfl, h, r⟩
  | _ => cases h
theorem Sq.same {k : Bool} {H H' : Hp} {a : Addr} {xs : List V} (h : Sq K k H a xs) (e : Same H H') : Sq K k H' a xs := by
  cases k with
  | true => exact e.seq (show SqL K H a xs from h)
  | false => exact (Sim.of e).seqT (show SqT K H a xs from h)
/-- where the source stands: frozen, or as at the start -/
theorem Sq.keep {k b : Bool} {a : Addr} {xs : List V} (h1 : Sq K k H1 a xs) (h0 : b = false → Sq K k Hf0 a xs) {Hf H : Hp} (s : Same Hf0 Hf) (t : Same Hf H) (u : b = true → Same H1 H) : Sq K k H a xs := by
  cases b with
  | true => exact h1.same (u rfl)
  | false => exact ((h0 rfl).same s).same t
theorem itD_seq {k b : Bool} {a : Addr} {xs : List V} {l : List D} (h1 : Sq K k H1 a xs) (h0 : b = false → Sq K k Hf0 a xs) (r : Reps K Hf0 l xs) : ItD K EX b Hf0 H1 (if k = true then Itl K a else Itt K a) l where
  go := fun i Hf H s t u hi => by
    have q := h1.keep h0 s t u
    have hl : i < xs.length := by rw [← r.length]; exact hi
    cases k with
    | true => exact ⟨xs, xs[i], q, by simp [hl]⟩
    | false => exact ⟨xs, xs[i], q, by simp [hl]⟩
  stop := fun Hf H s t u => by
    have q := h1.keep h0 s t u
    cases k with
    | true => exact ⟨xs, q, by rw [r.length]; exact Nat.le_refl _⟩
    | false => exact ⟨xs, q, by rw [r.length]; exact Nat.le_refl _⟩
  yld := fun H0 i d H x H' Hf ρ σ R s u hd y => by
    have q := h1.keep h0 s R.sub u
    obtain ⟨v, hv, rv⟩ := r.get hd
    have z : H' = H ∧ xs[i]? = some x := by
      cases k with
      | true => exact ⟨y.1, y.2 xs q⟩
      | false => exact ⟨y.1, y.2 xs q⟩
    obtain ⟨rfl, hx⟩ := z
    rw [hv] at hx
    cases hx
    exact ⟨Hf, R, Same.refl _, Same.refl _, rv.same s⟩
theorem itD_str (z : Str) : ItD K EX false Hf0 H1 (Its z) (z.cps.toList.map fun c => .str ⟨#[c]⟩) where
  go := fun i Hf H _ _ _ hi => by
    rw [List.length_map, Array.length_toList] at hi
    exact hi
  stop := fun Hf H _ _ _ => by
    show z.cps.size ≤ _
    rw [List.length_map, Array.length_toList]
    exact Nat.le_refl _
  yld := fun H0 i d H x H' Hf ρ σ R _ _ hd y => by
    obtain ⟨rfl, c, hc, rfl⟩ := y
    rw [List.getElem?_map, Array.getElem?_toList, hc] at hd
    cases hd
    exact ⟨Hf, R, Same.refl _, Same.refl _, .str _⟩
theorem itD_rng (lo : Int) (n : Nat) : ItD K EX false Hf0 H1 (Itr lo n) ((List.range n).map fun (i : Nat) => .int (lo + (i : Int))) where
  go := fun i Hf H _ _ _ hi => by
    rw [List.length_map, List.length_range] at hi
    exact hi
  stop := fun Hf H _ _ _ => by
    show n ≤ _
    rw [List.length_map, List.length_range]
    exact Nat.le_refl _
  yld := fun H0 i d H x H' Hf ρ σ R _ _ hd y => by
    obtain ⟨rfl, rfl⟩ := y
    rw [List.getElem?_map] at hd
    have hi : i < n := by
      cases e : (List.range n)[i]? with
      | none => rw [e] at hd; cases hd
      | some j =>
        have := (List.getElem?_eq_some_iff.mp e).1
        rwa [List.length_range] at this
    rw [List.getElem?_range hi] at hd
    cases hd
    exact ⟨Hf, R, Same.refl _, Same.refl _, .int _⟩
theorem enD_length : ∀ (l : List D) (n : Nat), (enD n l).length = l.length
  | [], _ => rfl
  | _ :: l, n => congrArg (· + 1) (enD_length l (n + 1))
theorem enD_get : ∀ (l : List D) (n i : Nat), (enD n l)[i]? = l[i]?.map fun d => .tup [.int ((n + i : Nat) : Int), d]
  | [], _, i => by simp [enD]
  | d :: l, n, 0 => by simp [enD]
  | d :: l, n, i + 1 => by
    have h := enD_get l (n + 1) i
    simp only [enD, List.getElem?_cons_succ]
    rw [h, show n + 1 + i = n + (i + 1) by omega]
theorem itD_pairs {b : Bool} {G : Hp → Prop} {n : Nat} {f : Nat → V → V → Prop} {items : List D} (ek : EXok EX) (hn : items.length = n) (g : ∀ Hf H, Same Hf0 Hf → Same Hf H → (b = true → Same H1 H) → G H)
    (h : ∀ i x y d, f i x y → items[i]? = some d → ∃ d1 d2, d = .tup [d1, d2] ∧ Rep K Hf0 d1 x ∧ Rep K Hf0 d2 y) : ItD K EX b Hf0 H1 (Jp G n f) items where
  go := fun i Hf H s t u hi => ⟨g Hf H s t u, by rw [← hn]; exact hi⟩
  stop := fun Hf H s t u => ⟨g Hf H s t u, hn⟩
  yld := fun H0 i d H x H' Hf ρ σ R s u hd y => by
    obtain ⟨T, x1, y1, rfl, hT, rfl, hf⟩ := y
    obtain ⟨d1, d2, rfl, r1, r2⟩ := h i x1 y1 d hf hd
    have sn := same_new (R.fresh hT) (.tup [x1, y1])
    exact ⟨upd Hf T (.tup [x1, y1]), R.newF ek hT _, sn, same_new hT _, .tup (.of upd_same) (.cons ((r1.same s).same sn) (.cons ((r2.same s).same sn) .nil))⟩
theorem itD_en (ek : EXok EX) {k b : Bool} {a : Addr} {xs : List V} {l : List D} (h1 : Sq K k H1 a xs) (h0 : b = false → Sq K k Hf0 a xs) (r : Reps K Hf0 l xs) : ItD K EX b Hf0 H1 (Jen K k a xs) (enD 0 l) :=
  itD_pairs ek (by rw [enD_length, r.length]) (fun Hf H s t u => h1.keep h0 s t u) fun i x y d hf hd => by
    obtain ⟨rfl, hy⟩ := hf
    rw [enD_get] at hd
    cases e : l[i]? with
    | none => rw [e] at hd; cases hd
    | some d' =>
      rw [e] at hd
      cases hd
      obtain ⟨v, hv, rv⟩ := r.get e
      rw [hv] at hy
      cases hy
      refine ⟨_, d', rfl, ?_, rv⟩
      rw [Nat.zero_add]
      exact .int _
end
end DL
/-! DH: slots stored and frozen; expressions, one rule a form -/
namespace DL
open PySem PySem.Spec PyProof.Rows L2
theorem get_set {α : Type} {l : List α} {i j : Nat} {x y : α} (h : (l.set i x)[j]? = some y) : (j = i ∧ y = x ∧ i < l.length) ∨ (j ≠ i ∧ l[j]? = some y) := by
  by_cases e : i = j
  · subst e
    by_cases hl : i < l.length
    · rw [List.getElem?_set_self hl] at h
      exact .inl ⟨rfl, (Option.some.inj h).symm, hl⟩
    · rw [List.getElem?_eq_none (by rw [List.length_set]; omega)] at h
      cases h
  · rw [List.getElem?_set_ne e] at h
    exact .inr ⟨fun z => e z.symm, h⟩
section
variable {K : PySem.W.Frag} {EX : EXT} {H0 : Ent} {ρ : DEnv} {σ : L2.St} {Hf H : Hp} {d : D} {v : V}
theorem SR.setSh (R : SR K EX H0 ρ σ Hf H) (r : Rep K Hf d v) (i : Nat) : SR K EX H0 (ρ.set i (.sh d)) (σ.set i (some v)) Hf H := by
  refine ⟨R.base, R.ent, R.nof, R.sub, by rw [List.length_set, List.length_set, R.len], fun j d' e => ?_, fun j p l e => ?_, fun j p l e => ?_, fun j c l e => ?_, fun j k s t a n e1 e2 o1 o2 z1 z2 => ?_⟩
  · rcases get_set e with ⟨rfl, z, hl⟩ | ⟨n, e⟩
    · cases z; exact ⟨v, by rw [List.getElem?_set_self (by rw [← R.len]; exact hl)], r⟩
    · rw [List.getElem?_set_ne (Ne.symm n)]; exact R.sh j d' e
  · rcases get_set e with ⟨rfl, z, hl⟩ | ⟨n, e⟩
    · cases z
    · rw [List.getElem?_set_ne (Ne.symm n)]; exact R.own j p l e
  · rcases get_set e with ⟨rfl, z, hl⟩ | ⟨n, e⟩
    · cases z
    · rw [List.getElem?_set_ne (Ne.symm n)]; exact R.ownK j p l e
  · rcases get_set e with ⟨rfl, z, hl⟩ | ⟨n, e⟩
    · cases z
    · rw [List.getElem?_set_ne (Ne.symm n)]; exact R.exc j c l e
  · rcases get_set e1 with ⟨rfl, z, hl⟩ | ⟨n1, e1⟩
    · cases z; cases o1
    · rcases get_set e2 with ⟨rfl, z, hl⟩ | ⟨n2, e2⟩
      · cases z; cases o2
      · rw [List.getElem?_set_ne (Ne.symm n1)] at z1
        rw [List.getElem?_set_ne (Ne.symm n2)] at z2
        exact R.apart j k s t a n e1 e2 o1 o2 z1 z2
/-- a slot of its own -/
theorem SR.setO (R : SR K EX H0 ρ σ Hf H) {a : Addr} {s : Sl} (ho : s.isOwn = true)
    (h1 : ∀ p l, s = .own p l → ∃ xs, Hf a = none ∧ H a = some (HO.lst xs) ∧ Reps K Hf l xs ∧ H0.h a = none ∧ ∀ b, p = some b → b = a)
    (h2 : ∀ p l, s = .ownK p l → ∃ xs, Hf a = none ∧ H a = some (HO.dK xs) ∧ RepK K Hf l xs ∧ H0.h a = none ∧ ∀ b, p = some b → b = a)
    (i : Nat) (f : ∀ (j : Nat) (t : Sl), j ≠ i → ρ[j]? = some t → t.isOwn = true → σ[j]? ≠ some (some (V.ref a))) : SR K EX H0 (ρ.set i s) (σ.set i (some (.ref a))) Hf H := by
  refine ⟨R.base, R.ent, R.nof, R.sub, by rw [List.length_set, List.length_set, R.len], fun j d' e => ?_, fun j p l e => ?_, fun j p l e => ?_, fun j c l e => ?_, fun j k s1 t b n e1 e2 o1 o2 z1 z2 => ?_⟩
  · rcases get_set e with ⟨rfl, z, hl⟩ | ⟨n, e⟩
    · rw [← z] at ho; cases ho
    · rw [List.getElem?_set_ne (Ne.symm n)]; exact R.sh j d' e
  · rcases get_set e with ⟨rfl, z, hl⟩ | ⟨n, e⟩
    · obtain ⟨xs, q⟩ := h1 p l z.symm
      exact ⟨a, xs, by rw [List.getElem?_set_self (by rw [← R.len]; exact hl)], q⟩
    · rw [List.getElem?_set_ne (Ne.symm n)]; exact R.own j p l e
  · rcases get_set e with ⟨rfl, z, hl⟩ | ⟨n, e⟩
    · obtain ⟨xs, q⟩ := h2 p l z.symm
      exact ⟨a, xs, by rw [List.getElem?_set_self (by rw [← R.len]; exact hl)], q⟩
    · rw [List.getElem?_set_ne (Ne.symm n)]; exact R.ownK j p l e
  · rcases get_set e with ⟨rfl, z, hl⟩ | ⟨n, e⟩
    · rw [← z] at ho; cases ho
    · rw [List.getElem?_set_ne (Ne.symm n)]; exact R.exc j c l e
  · rcases get_set e1 with ⟨rfl, z, hl⟩ | ⟨n1, q1⟩
    · rcases get_set e2 with ⟨rfl, z', hl'⟩ | ⟨n2, e2⟩
      · exact n rfl
      · rw [List.getElem?_set_self (by rw [← R.len]; exact hl)] at z1
        rw [List.getElem?_set_ne (Ne.symm n2)] at z2
        cases z1
        exact f k t n2 e2 o2 z2
    · rw [List.getElem?_set_ne (Ne.symm n1)] at z1
      rcases get_set e2 with ⟨ki, z', hl'⟩ | ⟨n2, e3⟩
      · rw [ki, List.getElem?_set_self (by rw [← R.len]; exact hl')] at z2
        cases z2
        exact f j s1 n1 q1 o1 z1
      · rw [List.getElem?_set_ne (Ne.symm n2)] at z2
        exact R.apart j k s1 t b n q1 e3 o1 o2 z1 z2
/-- the list of a slot is frozen -/
theorem SR.frzSlot (R : SR K EX H0 ρ σ Hf H) (ek : EXok EX) {i : Nat} {p : Option Addr} {l : List D} (e : ρ[i]? = some (.own p l)) : ∃ a Hf', σ[i]? = some (some (V.ref a)) ∧ SR K EX H0 (ρ.set i (.sh (.lst l))) σ Hf' H ∧ Same Hf Hf' ∧ Rep K Hf' (.lst l) (.ref a) := by
  obtain ⟨a, xs, h1, h2, h3, r, h0, _⟩ := R.own i p l e
  obtain ⟨s1, s2⟩ := same_freeze R.sub h2 h3
  have rr : Rep K (upd Hf a (.lst xs)) (.lst l) (.ref a) := .lst (.of upd_same) (r.same s1)
  refine ⟨a, upd Hf a (.lst xs), h1, ⟨R.base.trans s1, R.ent, fun b q1 q2 => by rw [upd_ne (fun z => q1 (by rw [z]; exact h0))]; exact R.nof b q1 q2, s2, by rw [List.length_set, R.len], fun j d' e' => ?_, fun j p m e' => ?_, fun j p m e' => ?_, fun j c m e' => ?_, fun j k s t b n e1 e2 o1 o2 z1 z2 => ?_⟩, s1, rr⟩
  · rcases get_set e' with ⟨rfl, z, hl⟩ | ⟨n, e'⟩
    · cases z; exact ⟨_, h1, rr⟩
    · obtain ⟨v, q, r'⟩ := R.sh j d' e'
      exact ⟨v, q, r'.same s1⟩
  · rcases get_set e' with ⟨rfl, z, hl⟩ | ⟨n, e'⟩
    · cases z
    · obtain ⟨b, ys, q1, q2, q3, r', q4⟩ := R.own j p m e'
      refine ⟨b, ys, q1, ?_, q3, r'.same s1, q4⟩
      rw [upd_ne (fun z => R.apart j i _ _ a n e' e rfl rfl (by rw [q1, z]) h1)]; exact q2
  · rcases get_set e' with ⟨rfl, z, hl⟩ | ⟨n, e'⟩
    · cases z
    · obtain ⟨b, ys, q1, q2, q3, r', q4⟩ := R.ownK j p m e'
      refine ⟨b, ys, q1, ?_, q3, r'.same s1, q4⟩
      rw [upd_ne (fun z => R.apart j i _ _ a n e' e rfl rfl (by rw [q1, z]) h1)]; exact q2
  · rcases get_set e' with ⟨rfl, z, hl⟩ | ⟨n, e'⟩
    · cases z
    · obtain ⟨v, q, r'⟩ := R.exc j c m e'
      exact ⟨v, q, ek _ _ _ _ _ s1 r'⟩
  · rcases get_set e1 with ⟨rfl, z, hl⟩ | ⟨n1, e1⟩
    · cases z; cases o1
    · rcases get_set e2 with ⟨rfl, z, hl⟩ | ⟨n2, e2⟩
      · cases z; cases o2
      · exact R.apart j k s t b n e1 e2 o1 o2 z1 z2
theorem SR.frzSlotK (R : SR K EX H0 ρ σ Hf H) (ek : EXok EX) {i : Nat} {p : Option Addr} {l : List (Key × D)} (e : ρ[i]? = some (.ownK p l)) : ∃ a Hf', σ[i]? = some (some (V.ref a)) ∧ SR K EX H0 (ρ.set i (.sh (.dct l))) σ Hf' H ∧ Same Hf Hf' ∧ Rep K Hf' (.dct l) (.ref a) := by
  obtain ⟨a, xs, h1, h2, h3, r, h0, _⟩ := R.ownK i p l e
  obtain ⟨s1, s2⟩ := same_freeze R.sub h2 h3
  have rr : Rep K (upd Hf a (.dK xs)) (.dct l) (.ref a) := .dct (.inl upd_same) (r.same s1)
  refine ⟨a, upd Hf a (.dK xs), h1, ⟨R.base.trans s1, R.ent, fun b q1 q2 => by rw [upd_ne (fun z => q1 (by rw [z]; exact h0))]; exact R.nof b q1 q2, s2, by rw [List.length_set, R.len], fun j d' e' => ?_, fun j p m e' => ?_, fun j p m e' => ?_, fun j c m e' => ?_, fun j k s t b n e1 e2 o1 o2 z1 z2 => ?_⟩, s1, rr⟩
  · rcases get_set e' with ⟨rfl, z, hl⟩ | ⟨n, e'⟩
    · cases z; exact ⟨_, h1, rr⟩
    · obtain ⟨v, q, r'⟩ := R.sh j d' e'
      exact ⟨v, q, r'.same s1⟩
  · rcases get_set e' with ⟨rfl, z, hl⟩ | ⟨n, e'⟩
    · cases z
    · obtain ⟨b, ys, q1, q2, q3, r', q4⟩ := R.own j p m e'
      refine ⟨b, ys, q1, ?_, q3, r'.same s1, q4⟩
      rw [upd_ne (fun z => R.apart j i _ _ a n e' e rfl rfl (by rw [q1, z]) h1)]; exact q2
  · rcases get_set e' with ⟨rfl, z, hl⟩ | ⟨n, e'⟩
    · cases z
    · obtain ⟨b, ys, q1, q2, q3, r', q4⟩ := R.ownK j p m e'
      refine ⟨b, ys, q1, ?_, q3, r'.same s1, q4⟩
      rw [upd_ne (fun z => R.apart j i _ _ a n e' e rfl rfl (by rw [q1, z]) h1)]; exact q2
  · rcases get_set e' with ⟨rfl, z, hl⟩ | ⟨n, e'⟩
    · cases z
    · obtain ⟨v, q, r'⟩ := R.exc j c m e'
      exact ⟨v, q, ek _ _ _ _ _ s1 r'⟩
  · rcases get_set e1 with ⟨rfl, z, hl⟩ | ⟨n1, e1⟩
    · cases z; cases o1
    · rcases get_set e2 with ⟨rfl, z, hl⟩ | ⟨n2, e2⟩
      · cases z; cases o2
      · exact R.apart j k s t b n e1 e2 o1 o2 z1 z2
/-- slots forgotten on both sides -/
theorem SR.wipe (R : SR K EX H0 ρ σ Hf H) : ∀ l : List Nat, SR K EX H0 (wipeD ρ l) (L2.wipe σ l) Hf H
  | [] => R
  | i :: l => by
    have R' := SR.wipe R l
    show SR K EX H0 ((wipeD ρ l).set i .un) ((L2.wipe σ l).set i none) Hf H
    have g : ∀ {j : Nat} {s : Sl}, ((wipeD ρ l).set i .un)[j]? = some s → s ≠ .un → j ≠ i ∧ (wipeD ρ l)[j]? = some s := fun {j s} e n => by
      rcases get_set e with ⟨_, z, _⟩ | q
      · exact absurd z n
      · exact q
    refine ⟨R'.base, R'.ent, R'.nof, R'.sub, by rw [List.length_set, List.length_set, R'.len], fun j d' e => ?_, fun j p m e => ?_, fun j p m e => ?_, fun j c m e => ?_, fun j k s t b n e1 e2 o1 o2 z1 z2 => ?_⟩
    · obtain ⟨n, e⟩ := g e nofun
      rw [List.getElem?_set_ne (Ne.symm n)]; exact R'.sh j d' e
    · obtain ⟨n, e⟩ := g e nofun
      rw [List.getElem?_set_ne (Ne.symm n)]; exact R'.own j p m e
    · obtain ⟨n, e⟩ := g e nofun
      rw [List.getElem?_set_ne (Ne.symm n)]; exact R'.ownK j p m e
    · obtain ⟨n, e⟩ := g e nofun
      rw [List.getElem?_set_ne (Ne.symm n)]; exact R'.exc j c m e
    · obtain ⟨n1, e1⟩ := g e1 (fun z => by rw [z] at o1; cases o1)
      obtain ⟨n2, e2⟩ := g e2 (fun z => by rw [z] at o2; cases o2)
      rw [List.getElem?_set_ne (Ne.symm n1)] at z1
      rw [List.getElem?_set_ne (Ne.symm n2)] at z2
      exact R'.apart j k s t b n e1 e2 o1 o2 z1 z2
end
end DL
/-! DI: expressions -/
namespace DL
open PySem PySem.Spec PyProof.Rows L2
section
variable (X : Cx)
def mE (e : Expr) : TE := fun σ H Q => ∀ (pins : List (Addr × Obj)) (s : Shared), Inv X pins σ H s → wpAny (model X.prog X.w) X.A (eval e X.env) (EP X pins σ Q) X.xe s
def mT (e : Expr) : TT := fun σ H Q => ∀ (pins : List (Addr × Obj)) (s : Shared), Inv X pins σ H s → wpAny (model X.prog X.w) X.A (isTrue e X.env (eval e X.env)) (TP X pins σ Q) X.xe s
def mW (e : Expr) : TT := fun σ H Q => ∀ (whole : Sem Value) (pins : List (Addr × Obj)) (s : Shared), Inv X pins σ H s → wpAny (model X.prog X.w) X.A (isTrue e X.env whole) (TP X pins σ Q) X.xe s
def mA (es : List Expr) : TA := fun σ H Q => ∀ (pos : Pos) (pins : List (Addr × Obj)) (s : Shared), Inv X pins σ H s → wpAny (model X.prog X.w) X.A (spliced (backTo pos (starEach es X.env))) (AP X pins σ Q) X.xe s
def mI (tg iter : Expr) : TI := fun σ H R => ∀ (pins : List (Addr × Obj)) (s : Shared), Inv X pins σ H s → wpAny (model X.prog X.w) X.A (eval iter X.env) (fun v s1 => wpAny (model X.prog X.w) X.A (pyIter v) (PIE X pins σ tg R) X.xe s1) X.xe s
def mTs (ifs : List Expr) : TT := fun σ H Q => ∀ (pins : List (Addr × Obj)) (s : Shared), Inv X pins σ H s → wpAny (model X.prog X.w) X.A (forIn ifs true fun c r => if r = true then do let ok ← isTrue c X.env (eval c X.env); pure (ForInStep.yield ok) else pure (ForInStep.yield r)) (TP X pins σ Q) X.xe s
def mG (tg : Expr) : TG := fun v σ H Q => ∀ (pins : List (Addr × Obj)) (s : Shared) (u : Value), Inv X pins σ H s → RelV v u → wpAny (model X.prog X.w) X.A (assign tg X.env u) (fun _ s' => ∃ σ' H', Inv X pins σ' H' s' ∧ Q σ' H') X.xe s
end
section
variable {X : Cx}
theorem PE.m (e : Expr) : PE X e (mE X e) := ⟨fun pins s σ H Q I h => h pins s I⟩
theorem PT.m (e : Expr) : PT X e (mT X e) := ⟨fun pins s σ H Q I h => h pins s I⟩
theorem PW.m (e : Expr) : PW X e (mW X e) := ⟨fun whole pins s σ H Q I h => h whole pins s I⟩
theorem PA.m (es : List Expr) : PA X es (mA X es) := ⟨fun pos pins s σ H Q I h => h pos pins s I⟩
theorem PI.m (tg iter : Expr) : PI X tg iter (mI X tg iter) := ⟨fun pins s σ H R I h => h pins s I⟩
theorem PTs.m (ifs : List Expr) : PTs X ifs (mTs X ifs) := ⟨fun pins s σ H Q I h => h pins s I⟩
theorem mE.of {e : Expr} {te : TE} (h : PE X e te) {σ : L2.St} {H : Hp} {Q : VK} (q : te σ H Q) : mE X e σ H Q := fun pins s I => h.run pins s σ H Q I q
theorem mT.of {e : Expr} {te : TT} (h : PT X e te) {σ : L2.St} {H : Hp} {Q : Bool → Hp → Prop} (q : te σ H Q) : mT X e σ H Q := fun pins s I => h.run pins s σ H Q I q
theorem mW.of {e : Expr} {te : TT} (h : PW X e te) {σ : L2.St} {H : Hp} {Q : Bool → Hp → Prop} (q : te σ H Q) : mW X e σ H Q := fun whole pins s I => h.run whole pins s σ H Q I q
theorem mA.of {e : List Expr} {te : TA} (h : PA X e te) {σ : L2.St} {H : Hp} {Q : List V → Hp → Prop} (q : te σ H Q) : mA X e σ H Q := fun pos pins s I => h.run pos pins s σ H Q I q
theorem mI.of {tg e : Expr} {te : TI} (h : PI X tg e te) {σ : L2.St} {H : Hp} {R : It → Hp → Prop} (q : te σ H R) : mI X tg e σ H R := fun pins s I => h.run pins s σ H R I q
theorem mTs.of {e : List Expr} {te : TT} (h : PTs X e te) {σ : L2.St} {H : Hp} {Q : Bool → Hp → Prop} (q : te σ H Q) : mTs X e σ H Q := fun pins s I => h.run pins s σ H Q I q
theorem PG.m (tg : Expr) : PG X tg (mG X tg) := ⟨fun pins s σ H Q v u I r h => by
  first | exact h pins s u I r | exact h pins s v I r⟩
end

/-! ### the judgement -/
section
variable (X : Cx) (EX : EXT) (Γ : Nat → FSp) (H0 : Ent)
def SE (E : DX → DEnv → Prop) (x : Ex) (e : Expr) : Prop := ∀ (ρ : DEnv) (σ : L2.St) (Hf H : Hp) (Q : D → DEnv → Prop) (QV : VK), SR X.K EX H0 ρ σ Hf H → wE Γ E x ρ Q →
  (∀ d ρ' v Hf' H', SR X.K EX H0 ρ' σ Hf' H' → Same Hf Hf' → Same H H' → Res X.K H0 (md x) ρ' σ Hf' H' d v → Q d ρ' → QV v H') → mE X e σ H QV
def ST (E : DX → DEnv → Prop) (x : Ex) (e : Expr) : Prop := ∀ (ρ : DEnv) (σ : L2.St) (Hf H : Hp) (Q : Bool → DEnv → Prop) (QB : Bool → Hp → Prop), SR X.K EX H0 ρ σ Hf H → wT Γ E x ρ Q →
  (∀ b ρ' Hf' H', SR X.K EX H0 ρ' σ Hf' H' → Same Hf Hf' → Same H H' → Q b ρ' → QB b H') → mT X e σ H QB
def SA (E : DX → DEnv → Prop) (l : Exs) (es : List Expr) : Prop := ∀ (ρ : DEnv) (σ : L2.St) (Hf H : Hp) (Q : List D → DEnv → Prop) (QA : List V → Hp → Prop), SR X.K EX H0 ρ σ Hf H → wA Γ E l ρ Q →
  (∀ ds ρ' vs Hf' H', SR X.K EX H0 ρ' σ Hf' H' → Same Hf Hf' → Same H H' → RepBs X.K Hf' H' ds vs → (nbA l = true → Reps X.K Hf' ds vs) → Q ds ρ' → QA vs H') → mA X es σ H QA
end
theorem like_b {o : BOp} {p : Operator} (h : o.like p = true) : o.op = p := by
  cases o <;> cases p <;> first | rfl | cases h
theorem like_c {o : COp} {p : CmpOp} (h : o.like p = true) : o.op = p := by
  cases o <;> cases p <;> first | rfl | cases h
theorem nb_md {x : Ex} (h : nb x = true) : md x ≠ .bo := fun z => by
  unfold nb at h
  rw [z] at h
  exact absurd h Bool.false_ne_true
theorem star_cons {e : Expr} {es : List Expr} {env : Env} (h : nst e = true) : starEach (e :: es) env = (false, eval e env) :: starEach es env := by
  cases e <;> first | rfl | cases h
theorem ckA_star {C : Cn} {sc : Scope} {env : Env} {pos : Pos} : ∀ {l : Exs} {es : List Expr}, ckA C sc l es = true → (backTo pos (starEach es env)).any (·.1) = false ∧ (backTo pos (starEach es env)).all (fun x => !x.1) = true
  | .nil, [], _ => ⟨rfl, rfl⟩
  | .nil, _ :: _, h => by cases h
  | .cons x l, [], h => by cases h
  | .cons x l, e :: es, h => by
    have h' : (ck C sc x e = true ∧ nst e = true) ∧ ckA C sc l es = true := by simpa [ckA] using h
    obtain ⟨a, b⟩ := ckA_star (env := env) (pos := pos) h'.2
    rw [star_cons h'.1.2]
    exact ⟨by simpa [backTo] using a, by simpa [backTo] using b⟩
theorem nsl_plain {i : Expr} (h : nslice i = true) : PlainIx i := by
  intro o v
  cases i <;> first | rfl | cases h
theorem nsup_base {o : Expr} {a : Str} {env : Env} (h : nsup o = true) : attributeBase o a env (eval o env) = eval o env := by
  unfold attributeBase
  split
  · rename_i id p pos
    have hs : (id == ("super" : Str)) = false := by simpa [nsup] using h
    have : (id != ("super" : Str)) = true := by rw [bne, hs]; rfl
    simp only [this, Bool.true_or, if_true]
  · rfl
theorem vis_of {sc : Scope} {x : Str} (h : visB sc x = true) : Vis sc x := by
  unfold visB at h
  split at h <;> first | (cases h; done) | skip
  · exact .inl (by assumption)
  · exact .inr (.inl (by assumption))
  · exact .inr (.inr (by assumption))
theorem loc_of {sc : Scope} {x : Str} (h : locB sc x = true) : Loc sc x := by
  unfold locB at h
  split at h <;> first | (cases h; done) | skip
  · exact .inl (by assumption)
  · exact .inr (by assumption)
theorem glo_of {sc : Scope} {x : Str} (h : gloB sc x = true) : sc.names.lookup x = some .globalImplicit := by
  unfold gloB at h
  split at h <;> first | (cases h; done) | assumption
section
variable {X : Cx} {EX : EXT} {Γ : Nat → FSp} {H0 : Ent} {xa : Nat → Addr} {C : Cn} {sc : Scope} {E : DX → DEnv → Prop}
theorem Cok.gl (c : Cok X xa Γ C sc) {x : Str} (h : gloB sc x = true) : Gl X x := by
  show X.env.scope.names.lookup x = _
  rw [c.scp]; exact glo_of h
theorem Cok.pv (c : Cok X xa Γ C sc) {i : Nat} {x : Str} {pos : Pos} (h : nmB C.N sc i x = true) : PE X (.Name x pos) (tVar i) := by
  unfold nmB at h
  simp only [Bool.and_eq_true, decide_eq_true_eq, Bool.not_eq_true'] at h
  refine pe_var (by rw [c.N]; exact h.1.1.1) (by rw [c.scp]; exact vis_of h.1.1.2) h.1.2 h.2
theorem se_v (ek : EXok EX) (c : Cok X xa Γ C sc) {i : Nat} {x : Str} {pos : Pos} (h : nmB C.N sc i x = true) : SE X EX Γ H0 E (.v i) (.Name x pos) := fun ρ σ Hf H Q QV R w k => by
  refine mE.of (c.pv h) ?_
  have w' : (match ρ[i]? with
    | some (.sh d) => Q d ρ
    | some (.own _ l) => Q (.lst l) (ρ.set i (.sh (.lst l)))
    | some (.ownK _ l) => Q (.dct l) (ρ.set i (.sh (.dct l)))
    | _ => False) := w
  split at w'
  · obtain ⟨v, e, r⟩ := R.sh i _ (by assumption)
    exact ⟨v, e, k _ ρ v Hf H R (Same.refl _) (Same.refl _) r w'⟩
  · obtain ⟨a, Hf', e, R', s, r⟩ := R.frzSlot ek (by assumption)
    exact ⟨_, e, k _ _ _ Hf' H R' s (Same.refl _) r w'⟩
  · obtain ⟨a, Hf', e, R', s, r⟩ := R.frzSlotK ek (by assumption)
    exact ⟨_, e, k _ _ _ Hf' H R' s (Same.refl _) r w'⟩
  · exact w'.elim
theorem se_b (c : Cok X xa Γ C sc) {i : Nat} {x : Str} {pos : Pos} (h : nmB C.N sc i x = true) : SE X EX Γ H0 E (.b i) (.Name x pos) := fun ρ σ Hf H Q QV R w k => by
  refine mE.of (c.pv h) ?_
  have w' : (match ρ[i]? with
    | some (.sh d) => Q d ρ
    | some (.own _ l) => Q (.lst l) ρ
    | some (.ownK _ l) => Q (.dct l) ρ
    | _ => False) := w
  split at w'
  · obtain ⟨v, e, r⟩ := R.sh i _ (by assumption)
    exact ⟨v, e, k _ ρ v Hf H R (Same.refl _) (Same.refl _) (.sh r) w'⟩
  · obtain ⟨a, xs, e, _, h3, r, _⟩ := R.own i _ _ (by assumption)
    exact ⟨_, e, k _ _ _ Hf H R (Same.refl _) (Same.refl _) (.own h3 r) w'⟩
  · obtain ⟨a, xs, e, _, h3, r, _⟩ := R.ownK i _ _ (by assumption)
    exact ⟨_, e, k _ _ _ Hf H R (Same.refl _) (Same.refl _) (.ownK h3 r) w'⟩
  · exact w'.elim
theorem se_fr (ek : EXok EX) {i : Nat} {x : Ex} {e : Expr} (h : SE X EX Γ H0 E x e) : SE X EX Γ H0 E (.fr i x) e := fun ρ σ Hf H Q QV R w k => by
  have w' : (match ρ[i]? with
    | some (.own _ l) => wE Γ E x (ρ.set i (.sh (.lst l))) Q
    | some (.ownK _ l) => wE Γ E x (ρ.set i (.sh (.dct l))) Q
    | _ => wE Γ E x ρ Q) := w
  split at w'
  · obtain ⟨a, Hf', e, R', s, r⟩ := R.frzSlot ek (by assumption)
    exact h _ σ Hf' H Q QV R' w' fun d ρ' v Hf2 H2 R2 s2 t2 r2 q => k d ρ' v Hf2 H2 R2 (s.trans s2) t2 r2 q
  · obtain ⟨a, Hf', e, R', s, r⟩ := R.frzSlotK ek (by assumption)
    exact h _ σ Hf' H Q QV R' w' fun d ρ' v Hf2 H2 R2 s2 t2 r2 q => k d ρ' v Hf2 H2 R2 (s.trans s2) t2 r2 q
  · exact h _ σ Hf H Q QV R w' k
theorem se_int {n : Int} {j : Nat} {pos : Pos} : SE X EX Γ H0 E (.int n) (.Constant (.int n) j pos) := fun ρ σ Hf H Q QV R w k =>
  mE.of pe_int (k _ ρ _ Hf H R (Same.refl _) (Same.refl _) (Rep.int n) w)
theorem se_str {n : Str} {j : Nat} {pos : Pos} : SE X EX Γ H0 E (.str n) (.Constant (.str n) j pos) := fun ρ σ Hf H Q QV R w k =>
  mE.of pe_str (k _ ρ _ Hf H R (Same.refl _) (Same.refl _) (Rep.str n) w)
theorem se_bl {n : Bool} {j : Nat} {pos : Pos} : SE X EX Γ H0 E (.bl n) (.Constant (.bool n) j pos) := fun ρ σ Hf H Q QV R w k =>
  mE.of pe_bl (k _ ρ _ Hf H R (Same.refl _) (Same.refl _) (Rep.bl n) w)
theorem se_non {j : Nat} {pos : Pos} : SE X EX Γ H0 E .non (.Constant .none j pos) := fun ρ σ Hf H Q QV R w k =>
  mE.of pe_non (k _ ρ _ Hf H R (Same.refl _) (Same.refl _) Rep.non w)
theorem se_bin (ek : EXok EX) {o : BOp} {a b : Ex} {l r : Expr} {p : Operator} {pos : Pos} (hp : o.like p = true) (ha : SE X EX Γ H0 E a l) (hb : SE X EX Γ H0 E b r) : SE X EX Γ H0 E (.bin o a b) (.BinOp l p r pos) := fun ρ σ Hf H Q QV R w k => by
  rw [← like_b hp]
  refine mE.of (pe_op mOp_ok (PE.m l) (PE.m r)) ?_
  refine ha ρ σ Hf H _ _ R w fun d1 ρ1 v1 Hf1 H1 R1 s1 t1 r1 w1 => ?_
  refine hb ρ1 σ Hf1 H1 _ _ R1 w1 fun d2 ρ2 v2 Hf2 H2 R2 s2 t2 r2 w2 => ?_
  exact bin_ok ek R2 (r1.toB.mono s2 t2) r2.toB w2 fun d v Hf3 H3 R3 s3 t3 r3 q => k d ρ2 v Hf3 H3 R3 (s1.trans (s2.trans s3)) (t1.trans (t2.trans t3)) r3 q
theorem se_neg {a : Ex} {l : Expr} {pos : Pos} (ha : SE X EX Γ H0 E a l) : SE X EX Γ H0 E (.neg a) (.UnaryOp .USub l pos) := fun ρ σ Hf H Q QV R w k => by
  refine mE.of (pe_un un_neg (PE.m l)) ?_
  refine ha ρ σ Hf H _ _ R w fun d1 ρ1 v1 Hf1 H1 R1 s1 t1 r1 w1 => ?_
  split at w1
  · cases r1.toB.int_inv
    exact ⟨_, rfl, k _ ρ1 _ Hf1 H1 R1 s1 t1 (Rep.int _) w1⟩
  · exact w1.elim
theorem se_not {a : Ex} {l : Expr} {pos : Pos} (ha : SE X EX Γ H0 E a l) : SE X EX Γ H0 E (.not a) (.UnaryOp .Not l pos) := fun ρ σ Hf H Q QV R w k => by
  refine mE.of (pe_not (PE.m l)) ?_
  refine ha ρ σ Hf H _ _ R w fun d1 ρ1 v1 Hf1 H1 R1 s1 t1 r1 w1 => ?_
  split at w1
  · cases r1.toB.bl_inv
    exact ⟨_, rfl, k _ ρ1 _ Hf1 H1 R1 s1 t1 (Rep.bl _) w1⟩
  · exact w1.elim
theorem cmp_core (hu : X.A.units + 64 < cLine) {o : COp} {a b : Ex} {l r : Expr} (ha : SE X EX Γ H0 E a l) (hb : SE X EX Γ H0 E b r) {ρ : DEnv} {σ : L2.St} {Hf H : Hp} {Q : Bool → DEnv → Prop} {QV : VK}
    (R : SR X.K EX H0 ρ σ Hf H) (w : wE Γ E a ρ fun x ρ1 => wE Γ E b ρ1 fun y ρ2 => cmpW o x y fun k => Q k ρ2) (k : ∀ c ρ2 v2 Hf2 H2, SR X.K EX H0 ρ2 σ Hf2 H2 → Same Hf Hf2 → Same H H2 → (∃ d2, Res X.K H0 (md b) ρ2 σ Hf2 H2 d2 v2) → Q c ρ2 → QV (.bl c) H2) :
    tOp (mOp X (compareOp o.op)) (mE X l) (mE X r) σ H QV := by
  refine ha ρ σ Hf H _ _ R w fun d1 ρ1 v1 Hf1 H1 R1 s1 t1 r1 w1 => ?_
  refine hb ρ1 σ Hf1 H1 _ _ R1 w1 fun d2 ρ2 v2 Hf2 H2 R2 s2 t2 r2 w2 => ?_
  exact cmp_ok hu R2 (r1.toB.mono s2 t2) r2.toB w2 fun c q => k c ρ2 v2 Hf2 H2 R2 (s1.trans s2) (t1.trans t2) ⟨d2, r2⟩ q
theorem se_cmp (hu : X.A.units + 64 < cLine) {o : COp} {a b : Ex} {l r : Expr} {p : CmpOp} {pos : Pos} (hp : o.like p = true) (hm : behindInMarks p r = false) (ha : SE X EX Γ H0 E a l) (hb : SE X EX Γ H0 E b r) :
    SE X EX Γ H0 E (.cmp o a b) (.Compare l [p] [r] pos) := fun ρ σ Hf H Q QV R w k => by
  cases like_c hp
  exact mE.of (pe_cmpR mOp_ok (PE.m l) (PE.m r) hm) (cmp_core hu ha hb (Q := fun c ρ2 => Q (.bl c) ρ2) R w fun c ρ2 v2 Hf2 H2 R2 s t _ q => k _ ρ2 _ Hf2 H2 R2 s t (Rep.bl c) q)
theorem st_cmp (hu : X.A.units + 64 < cLine) {o : COp} {a b : Ex} {l r : Expr} {p : CmpOp} {pos : Pos} (hp : o.like p = true) (hm : behindInMarks p r = false) (ha : SE X EX Γ H0 E a l) (hb : SE X EX Γ H0 E b r) :
    ST X EX Γ H0 E (.cmp o a b) (.Compare l [p] [r] pos) := fun ρ σ Hf H Q QB R w k => by
  cases like_c hp
  exact mT.of (pt_cmpR mOp_ok (PE.m l) (PE.m r) hm) (cmp_core hu ha hb (Q := Q) R w fun c ρ2 v2 Hf2 H2 R2 s t _ q => ⟨c, rfl, k _ ρ2 Hf2 H2 R2 s t q⟩)
theorem cmp2_core (hu : X.A.units + 64 < cLine) {o p : COp} {a b c : Ex} {l r r' : Expr} (ha : SE X EX Γ H0 E a l) (hb : SE X EX Γ H0 E b r) (hc : SE X EX Γ H0 E c r') {ρ : DEnv} {σ : L2.St} {Hf H : Hp} {Q : Bool → DEnv → Prop} {QV : VK}
    (R : SR X.K EX H0 ρ σ Hf H) (w : wE Γ E a ρ fun x ρ1 => wE Γ E b ρ1 fun y ρ2 => cmpW o x y fun k => if k = true then wE Γ E c ρ2 fun z ρ3 => cmpW p y z fun j => Q j ρ3 else Q false ρ2)
    (k : ∀ c ρ2 Hf2 H2, SR X.K EX H0 ρ2 σ Hf2 H2 → Same Hf Hf2 → Same H H2 → Q c ρ2 → QV (.bl c) H2) :
    tChain (mOp X (compareOp o.op)) (mOp X (compareOp p.op)) (mE X l) (mE X r) (mE X r') σ H QV := by
  refine ha ρ σ Hf H _ _ R w fun d1 ρ1 v1 Hf1 H1 R1 s1 t1 r1 w1 => ?_
  refine hb ρ1 σ Hf1 H1 _ _ R1 w1 fun d2 ρ2 v2 Hf2 H2 R2 s2 t2 r2 w2 => ?_
  refine cmp_ok hu R2 (r1.toB.mono s2 t2) r2.toB w2 fun c1 q => ⟨c1, rfl, ?_⟩
  cases c1 with
  | false =>
    rw [if_neg Bool.false_ne_true] at q ⊢
    exact k _ ρ2 Hf2 H2 R2 (s1.trans s2) (t1.trans t2) q
  | true =>
    rw [if_pos rfl] at q ⊢
    refine hc ρ2 σ Hf2 H2 _ _ R2 q fun d3 ρ3 v3 Hf3 H3 R3 s3 t3 r3 w3 => ?_
    exact cmp_ok hu R3 (r2.toB.mono s3 t3) r3.toB w3 fun c q => k c ρ3 Hf3 H3 R3 (s1.trans (s2.trans s3)) (t1.trans (t2.trans t3)) q
theorem se_cmp2 (hu : X.A.units + 64 < cLine) {o q : COp} {a b c : Ex} {l r r' : Expr} {p p' : CmpOp} {pos : Pos} (hp : o.like p = true) (hq : q.like p' = true) (hm : behindInMarks p' r' = false) (ha : SE X EX Γ H0 E a l) (hb : SE X EX Γ H0 E b r) (hc : SE X EX Γ H0 E c r') :
    SE X EX Γ H0 E (.cmp2 o q a b c) (.Compare l [p, p'] [r, r'] pos) := fun ρ σ Hf H Q QV R w k => by
  cases like_c hp
  cases like_c hq
  exact mE.of (pe_chain mOp_ok mOp_ok (PE.m l) (PE.m r) (PE.m r') (by show behindInMarks _ _ = false; exact hm)) (cmp2_core hu ha hb hc (Q := fun c ρ2 => Q (.bl c) ρ2) R w fun c ρ2 Hf2 H2 R2 s t q => k _ ρ2 _ Hf2 H2 R2 s t (Rep.bl c) q)
theorem st_cmp2 (hu : X.A.units + 64 < cLine) {o q : COp} {a b c : Ex} {l r r' : Expr} {p p' : CmpOp} {pos : Pos} (hp : o.like p = true) (hq : q.like p' = true) (hm : behindInMarks p' r' = false) (ha : SE X EX Γ H0 E a l) (hb : SE X EX Γ H0 E b r) (hc : SE X EX Γ H0 E c r') :
    ST X EX Γ H0 E (.cmp2 o q a b c) (.Compare l [p, p'] [r, r'] pos) := fun ρ σ Hf H Q QB R w k => by
  cases like_c hp
  cases like_c hq
  exact mT.of (pt_chain mOp_ok mOp_ok (PE.m l) (PE.m r) (PE.m r') (by show behindInMarks _ _ = false; exact hm)) (cmp2_core hu ha hb hc (Q := Q) R w fun c ρ2 Hf2 H2 R2 s t q => ⟨c, rfl, k _ ρ2 Hf2 H2 R2 s t q⟩)
theorem se_ite {c a b : Ex} {t e f : Expr} {pos : Pos} (ek : EXok EX) (na : nb a = true) (nb' : nb b = true) (hc : ST X EX Γ H0 E c t) (ha : SE X EX Γ H0 E a e) (hb : SE X EX Γ H0 E b f) : SE X EX Γ H0 E (.ite c a b) (.IfExp t e f pos) := fun ρ σ Hf H Q QV R w k => by
  refine mE.of (pe_ifExp (PT.m t) (PE.m e) (PE.m f)) ?_
  refine hc ρ σ Hf H _ _ R w fun z ρ1 Hf1 H1 R1 s1 t1 w1 => ?_
  cases z with
  | true =>
    rw [if_pos rfl] at w1 ⊢
    refine ha ρ1 σ Hf1 H1 _ _ R1 w1 fun d2 ρ2 v2 Hf2 H2 R2 s2 t2 r2 w2 => ?_
    obtain ⟨Hf3, R3, s3, r3⟩ := r2.freeze (nb_md na) R2 ek
    exact k _ ρ2 _ Hf3 H2 R3 (s1.trans (s2.trans s3)) (t1.trans t2) r3 w2
  | false =>
    rw [if_neg Bool.false_ne_true] at w1 ⊢
    refine hb ρ1 σ Hf1 H1 _ _ R1 w1 fun d2 ρ2 v2 Hf2 H2 R2 s2 t2 r2 w2 => ?_
    obtain ⟨Hf3, R3, s3, r3⟩ := r2.freeze (nb_md nb') R2 ek
    exact k _ ρ2 _ Hf3 H2 R3 (s1.trans (s2.trans s3)) (t1.trans t2) r3 w2
theorem se_ix {a b : Ex} {e i : Expr} {pos : Pos} (hs : nslice i = true) (ha : SE X EX Γ H0 E a e) (hb : SE X EX Γ H0 E b i) : SE X EX Γ H0 E (.ix a b) (.Subscript e i pos) := fun ρ σ Hf H Q QV R w k => by
  refine mE.of (pe_ix mIx_ok (PE.m e) (PE.m i) (nsl_plain hs)) ?_
  refine ha ρ σ Hf H _ _ R w fun d1 ρ1 v1 Hf1 H1 R1 s1 t1 r1 w1 => ?_
  refine hb ρ1 σ Hf1 H1 _ _ R1 w1 fun d2 ρ2 v2 Hf2 H2 R2 s2 t2 r2 w2 => ?_
  exact ix_ok R2 (r1.toB.mono s2 t2) r2.toB w2 fun d v Hf3 H3 R3 s3 t3 r3 q => k d ρ2 v Hf3 H3 R3 (s1.trans (s2.trans s3)) (t1.trans (t2.trans t3)) r3 q
theorem se_tup (ek : EXok EX) {l : Exs} {es : List Expr} {x1 : Nat} {pos : Pos} (n : nbA l = true) (h : SA X EX Γ H0 E l es) : SE X EX Γ H0 E (.tup l) (.Tuple es x1 pos) := fun ρ σ Hf H Q QV R w k => by
  refine mE.of (pe_tup (PA.m es)) ?_
  refine h ρ σ Hf H _ _ R w fun ds ρ1 vs Hf1 H1 R1 s1 t1 _ r1 w1 => ?_
  have r := r1 n
  refine ⟨by rw [← r.length]; exact w1.1, fun p hp => ?_⟩
  have sn := same_new (R1.fresh hp) (.tup vs)
  exact k _ ρ1 _ (upd Hf1 p (.tup vs)) _ (R1.newF ek hp _) (s1.trans sn) (t1.trans (same_new hp _)) (Rep.tup (.of upd_same) (r.same sn)) w1.2
theorem se_lst (ek : EXok EX) {l : Exs} {es : List Expr} {pos : Pos} (n : nbA l = true) (h : SA X EX Γ H0 E l es) : SE X EX Γ H0 E (.lst l) (.List es pos) := fun ρ σ Hf H Q QV R w k => by
  refine mE.of (pe_lst (PA.m es)) ?_
  refine h ρ σ Hf H _ _ R w fun ds ρ1 vs Hf1 H1 R1 s1 t1 _ r1 w1 => ?_
  have r := r1 n
  refine ⟨by rw [← r.length]; exact w1.1, fun p hp => ?_⟩
  exact k _ ρ1 _ Hf1 _ (R1.newO ek hp _) s1 (t1.trans (same_new hp _)) (RepF.own (R1.ent.free hp) (R1.fresh hp) upd_same r (R1.notOwn hp)) w1.2
theorem se_call (ek : EXok EX) (c : Cok X xa Γ C sc) (tk : Takes X (lowW X.K EX H0 xa E)) {f : Nat} {l : Exs} {x : Str} {p pos : Pos} {e : Expr} {es : List Expr} (hx : x = C.nm f) (hg : gloB sc x = true) (hd : (x == ("__debug__" : Str)) = false) (hl : C.lv f ≤ C.k) (hf : f ∈ C.dep) (hck : ckA C sc l (e :: es) = true)
    (n : nbA l = true) (h : SA X EX Γ H0 E l (e :: es)) : SE X EX Γ H0 E (.call f l) (.Call (.Name x p) (e :: es) [] pos) := fun ρ σ Hf H Q QV R w k => by
  obtain ⟨fa, fd, ps, hm, hk, hb, F⟩ := c.fns f hf
  subst hx
  obtain ⟨z1, z2⟩ := ckA_star (env := X.env) (pos := pos) hck
  have ne : nst e = true := by
    cases l with
    | nil => cases hck
    | cons y l' => exact ((by simpa [ckA] using hck : (_ ∧ nst e = true) ∧ _).1).2
  have z3 : (backTo pos (starEach es X.env)).any (·.1) = false := by
    rw [star_cons ne] at z1
    simpa [backTo] using z1
  refine mE.of (pe_callS F (c.room.mono hl) (c.gl hg) hm hk hb (fun σ => passAt tk σ) (PA.m (e :: es)) hd (star_cons ne) z3) ?_
  refine h ρ σ Hf H _ _ R w fun ds ρ1 vs Hf1 H1 R1 s1 t1 _ r1 w1 => ?_
  refine ⟨ds, _, _, Hf1, R1.sub, r1 n, w1, fun d v Hf2 H2 a1 a2 a3 a4 r q => ?_, fun cl l' dd xs Hf2 H2 a1 a2 a3 a4 hx rx q => ?_⟩
  · exact k d ρ1 v Hf2 H2 (R1.grow ek a2 a1 a3 a4) (s1.trans a2) (t1.trans a1) r q
  · exact ⟨cl, l', dd, xs, ρ1, Hf2, rfl, rfl, R1.grow ek a2 a1 a3 a4, hx, rx, q⟩
end
end DL
/-! DJ: the rest of the expressions -/
namespace DL
open PySem PySem.Spec PyProof.Rows L2
theorem ckA_cons {C : Cn} {sc : Scope} {l : Exs} {e : Expr} {es : List Expr} (h : ckA C sc l (e :: es) = true) : ∃ x l', l = .cons x l' ∧ ck C sc x e = true ∧ nst e = true ∧ ckA C sc l' es = true := by
  cases l with
  | nil => cases h
  | cons x l' =>
    have h' : (ck C sc x e = true ∧ nst e = true) ∧ ckA C sc l' es = true := by simpa [ckA] using h
    exact ⟨x, l', rfl, h'.1.1, h'.1.2, h'.2⟩
theorem ckA_nil {C : Cn} {sc : Scope} {l : Exs} (h : ckA C sc l [] = true) : l = .nil := by
  cases l with
  | nil => rfl
  | cons x l' => cases h
theorem getK_val {K : PySem.W.Frag} {H : Hp} {j : Key} : ∀ {l : List (Key × D)} {xs : List (Key × V)}, RepK K H l xs → (getK l j = none → valV xs j = none) ∧ ∀ z, getK l j = some z → ∃ v, valV xs j = some v ∧ Rep K H z v
  | _, _, .nil => ⟨fun _ => rfl, fun z e => by cases e⟩
  | (k, d) :: l, (_, v) :: xs, .cons r t => by
    obtain ⟨i1, i2⟩ := getK_val (j := j) t
    by_cases e : k = j
    · have g : getK ((k, d) :: l) j = some d := by simp [getK, List.find?_cons, e]
      have u : valV ((k, v) :: xs) j = some v := valV_pos e
      rw [g, u]
      exact ⟨fun z => (by cases z), fun z q => (by cases q; exact ⟨v, rfl, r⟩)⟩
    · have g : getK ((k, d) :: l) j = getK l j := by simp [getK, List.find?_cons, e]
      have u : valV ((k, v) :: xs) j = valV xs j := valV_neg e
      rw [g, u]
      exact ⟨i1, i2⟩
theorem keyD_inv {K : PySem.W.Frag} {Hf H : Hp} {d : D} {x : V} {j : Key} (r : RepB K Hf H d x) (h : keyD d = some j) : x = kV j := by
  cases d with
  | int i => cases h; exact r.int_inv
  | str i => cases h; exact r.str_inv
  | _ => cases h
section
variable {X : Cx} {EX : EXT} {Γ : Nat → FSp} {H0 : Ent} {xa : Nat → Addr} {C : Cn} {sc : Scope} {E : DX → DEnv → Prop}
theorem sa_nil : SA X EX Γ H0 E .nil [] := fun ρ σ Hf H Q QA R w k => mA.of pa_nil (k [] ρ [] Hf H R (Same.refl _) (Same.refl _) .nil (fun _ => .nil) w)
theorem sa_cons (ek : EXok EX) {x : Ex} {l : Exs} {e : Expr} {es : List Expr} (ne : nst e = true) (hx : SE X EX Γ H0 E x e) (hl : SA X EX Γ H0 E l es) : SA X EX Γ H0 E (.cons x l) (e :: es) := fun ρ σ Hf H Q QA R w k => by
  refine mA.of (pa_cons (PE.m e) (PA.m es) (star_cons ne)) ?_
  refine hx ρ σ Hf H _ _ R w fun d1 ρ1 v1 Hf1 H1 R1 s1 t1 r1 w1 => ?_
  by_cases hb : nb x = true
  · obtain ⟨Hf1', R1', s1', r1'⟩ := r1.freeze (nb_md hb) R1 ek
    refine hl ρ1 σ Hf1' H1 _ _ R1' w1 fun ds ρ2 vs Hf2 H2 R2 s2 t2 rs rn w2 => ?_
    refine k (d1 :: ds) ρ2 (v1 :: vs) Hf2 H2 R2 (s1.trans (s1'.trans s2)) (t1.trans t2) (.cons (.sh (r1'.same s2)) rs) (fun n => .cons (r1'.same s2) (rn ?_)) w2
    have n' : (nb x && nbA l) = true := n
    exact (Bool.and_eq_true_iff.mp n').2
  · refine hl ρ1 σ Hf1 H1 _ _ R1 w1 fun ds ρ2 vs Hf2 H2 R2 s2 t2 rs rn w2 => ?_
    refine k (d1 :: ds) ρ2 (v1 :: vs) Hf2 H2 R2 (s1.trans s2) (t1.trans t2) (.cons (r1.toB.mono s2 t2) rs) (fun n => ?_) w2
    have n' : (nb x && nbA l) = true := n
    exact absurd (Bool.and_eq_true_iff.mp n').1 hb
def SO (X : Cx) (EX : EXT) (Γ : Nat → FSp) (H0 : Ent) (E : DX → DEnv → Prop) (l : Exs) (o : Option Expr) : Prop := ∃ to, PO X o to ∧ ∀ (ρ : DEnv) (σ : L2.St) (Hf H : Hp) (Q : Option Int → DEnv → Prop) (QO : Option Int → Hp → Prop), SR X.K EX H0 ρ σ Hf H → wO Γ E l ρ Q →
  (∀ i ρ' Hf' H', SR X.K EX H0 ρ' σ Hf' H' → Same Hf Hf' → Same H H' → Q i ρ' → QO i H') → to σ H QO
theorem so_none : SO X EX Γ H0 E .nil none := ⟨_, po_none, fun ρ σ Hf H Q QO R w k => k none ρ Hf H R (Same.refl _) (Same.refl _) w⟩
theorem so_some {x : Ex} {e : Expr} (hx : SE X EX Γ H0 E x e) : SO X EX Γ H0 E (.cons x .nil) (some e) := ⟨_, po_some (PE.m e), fun ρ σ Hf H Q QO R w k => by
  refine hx ρ σ Hf H _ _ R w fun d1 ρ1 v1 Hf1 H1 R1 s1 t1 r1 w1 => ?_
  split at w1
  · cases r1.toB.int_inv
    exact ⟨_, rfl, k _ ρ1 Hf1 H1 R1 s1 t1 w1⟩
  · exact w1.elim⟩
theorem se_sl (ek : EXok EX) {a : Ex} {lo hi : Exs} {e : Expr} {l u : Option Expr} {p2 pos : Pos} (ha : SE X EX Γ H0 E a e) (hl : SO X EX Γ H0 E lo l) (hu : SO X EX Γ H0 E hi u) : SE X EX Γ H0 E (.sl a lo hi) (.Subscript e (.Slice l u none p2) pos) := fun ρ σ Hf H Q QV R w k => by
  obtain ⟨tl, pl, kl⟩ := hl
  obtain ⟨tu, pu, ku⟩ := hu
  refine mE.of (pe_slice mSl_ok (PE.m e) pl pu) ?_
  refine ha ρ σ Hf H _ _ R w fun d1 ρ1 v1 Hf1 H1 R1 s1 t1 r1 w1 => ?_
  refine kl ρ1 σ Hf1 H1 _ _ R1 w1 fun i ρ2 Hf2 H2 R2 s2 t2 w2 => ?_
  refine ku ρ2 σ Hf2 H2 _ _ R2 w2 fun j ρ3 Hf3 H3 R3 s3 t3 w3 => ?_
  exact sl_ok ek R3 (r1.toB.mono (s2.trans s3) (t2.trans t3)) w3 fun d v Hf4 H4 R4 s4 t4 r4 q => k d ρ3 v Hf4 H4 R4 (s1.trans (s2.trans (s3.trans s4))) (t1.trans (t2.trans (t3.trans t4))) r4 q
theorem bi_boot (f : Bi) : bootBuiltins f.nm = some f.val ∧ f.nm ∈ bltNames ∧ f.nm ≠ "__name__" ∧ (f.nm == ("__debug__" : Str)) = false := by
  cases f <;> exact ⟨by decide +kernel, by decide +kernel, by decide +kernel, by decide +kernel⟩
theorem args_plain {l : Exs} {e : Expr} {es : List Expr} {env : Env} {pos : Pos} (h : ckA C sc l (e :: es) = true) : starEach (e :: es) env = (false, eval e env) :: starEach es env ∧ (backTo pos (starEach es env)).any (·.1) = false := by
  obtain ⟨x, l', rfl, _, ne, h'⟩ := ckA_cons h
  exact ⟨star_cons ne, (ckA_star h').1⟩
theorem se_bi (ek : EXok EX) (c : Cok X xa Γ C sc) {f : Bi} {l : Exs} {x : Str} {p pos : Pos} {e : Expr} {es : List Expr} (hx : x = f.nm) (hg : gloB sc x = true) (hck : ckA C sc l (e :: es) = true) (h : SA X EX Γ H0 E l (e :: es)) :
    SE X EX Γ H0 E (.bi f l) (.Call (.Name x p) (e :: es) [] pos) := fun ρ σ Hf H Q QV R w k => by
  subst hx
  obtain ⟨b1, b2, b3, b4⟩ := bi_boot f
  obtain ⟨z1, z2⟩ := args_plain (env := X.env) (pos := pos) hck
  have goal : mE X (.Call (.Name f.nm p) (e :: es) [] pos) σ H QV ∨ True := .inr trivial
  have rd : tCB (mCa X f.val) (mA X (e :: es)) σ H QV := by
    refine h ρ σ Hf H _ _ R w fun ds ρ1 vs Hf1 H1 R1 s1 t1 rs _ w1 => ?_
    exact bi_ok ek c.calm R1 rs w1 fun d v Hf2 H2 R2 s2 t2 r2 q => k d ρ1 v Hf2 H2 R2 (s1.trans s2) (t1.trans t2) r2 q
  have hm := c.blt _ b2
  have hgl := c.gl hg
  cases f <;> first
    | exact mE.of (pe_callB mCa_ok hgl hm b1 (PA.m (e :: es)) b3 b4 z1 z2) rd
    | exact mE.of (pe_callTy mCa_ok hgl hm b1 (PA.m (e :: es)) b3 b4 z1 z2) rd
theorem me_facts (m : Me) : ∃ id, Slot "str" m.nm id ∧ typeOf (.builtin id) = pure (.type "method_descriptor") ∧ id = m.id := by
  cases m
  · exact ⟨_, PySem.F.slot_str_startswith, PySem.F.type_str_startswith, rfl⟩
  · exact ⟨_, PySem.F.slot_str_startswith, PySem.F.type_str_startswith, rfl⟩
  · exact ⟨_, PySem.F.slot_str_join, PySem.F.type_str_join, rfl⟩
  · exact ⟨_, PySem.F.slot_str_strip, PySem.F.type_str_strip, rfl⟩
  · exact ⟨_, PySem.F.slot_str_split, PySem.F.type_str_split, rfl⟩
theorem se_me (ek : EXok EX) {m : Me} {l : Exs} {o : Ex} {oe e : Expr} {es : List Expr} {ap p : Pos} (hs : nsup oe = true) (hck : ckA C sc l (e :: es) = true) (hl : (ap.endLine == p.line) = true) (hn : es.length < 20) (ho : SE X EX Γ H0 E o oe) (h : SA X EX Γ H0 E l (e :: es)) :
    SE X EX Γ H0 E (.me m o l) (.Call (.Attribute oe m.nm ap) (e :: es) [] p) := fun ρ σ Hf H Q QV R w k => by
  obtain ⟨id, sl, ty, hid⟩ := me_facts m
  obtain ⟨z1, z2⟩ := args_plain (env := X.env) (pos := p) hck
  obtain ⟨_, z3⟩ := ckA_star (env := X.env) (pos := p) hck
  have few : ((backTo p (starEach (e :: es) X.env)).all (fun x => !x.1) && (backToKw p (keywordEach [] X.env)).all (fun x => x.1.isSome)
      && decide ((e :: es).length + ([] : List Keyword).length + (if ([] : List Keyword).isEmpty then 0 else 1) < 30)) = true := by
    rw [z3]
    have : (e :: es).length + ([] : List Keyword).length + (if ([] : List Keyword).isEmpty then 0 else 1) < 30 := by
      simp only [List.length_cons, List.length_nil, List.isEmpty_nil, if_true]
      omega
    rw [decide_eq_true this]
    rfl
  refine mE.of (pe_bm PySem.F.plainAttrs_str sl ty mMt_ok (PE.m oe) (PA.m (e :: es)) (nsup_base hs) few hl z1 z2) ?_
  refine ho ρ σ Hf H _ _ R w fun d1 ρ1 v1 Hf1 H1 R1 s1 t1 r1 w1 => ?_
  split at w1
  · rw [r1.toB.str_inv]
    refine ⟨rfl, ?_⟩
    refine h ρ1 σ Hf1 H1 _ _ R1 w1 fun ds ρ2 vs Hf2 H2 R2 s2 t2 rs _ w2 => ?_
    subst hid
    refine me_ok ek R2 (.sh (.str _)) rs w2 fun d v Hf3 H3 R3 s3 t3 r3 q => k d ρ2 v Hf3 H3 R3 (s1.trans (s2.trans s3)) (t1.trans (t2.trans t3)) r3 q
  · exact w1.elim
theorem se_dget (hu : X.A.units + 64 < cLine) {d k : Ex} {e i : Expr} {pos : Pos} (hs : nslice i = true) (hd : SE X EX Γ H0 E d e) (hk : SE X EX Γ H0 E k i) : SE X EX Γ H0 E (.dget d k) (.Subscript e i pos) := fun ρ σ Hf H Q QV R w kk => by
  refine mE.of (pe_dget (by omega) (PE.m e) (PE.m i) (nsl_plain hs)) ?_
  refine hd ρ σ Hf H _ _ R w fun d1 ρ1 v1 Hf1 H1 R1 s1 t1 r1 w1 => ?_
  refine hk ρ1 σ Hf1 H1 _ _ R1 w1 fun d2 ρ2 v2 Hf2 H2 R2 s2 t2 r2 w2 => ?_
  split at w2
  · obtain ⟨j, z, e1, e2, q⟩ := w2
    obtain ⟨a, xs, rfl, hr, rk⟩ := (r1.toB.mono s2 t2).dct_inv R2.sub
    obtain ⟨v, e3, rv⟩ := (getK_val (j := j) rk).2 z e2
    exact ⟨a, v, rfl, .inl ⟨xs, j, hr, keyD_inv r2.toB e1, e3.symm⟩, kk z ρ2 v Hf2 H2 R2 (s1.trans s2) (t1.trans t2) rv q⟩
  · exact w2.elim
theorem getK_some {K : PySem.W.Frag} {H : Hp} {j : Key} {l : List (Key × D)} {xs : List (Key × V)} (r : RepK K H l xs) : (valV xs j).isSome = (getK l j).isSome := by
  obtain ⟨h1, h2⟩ := getK_val (j := j) r
  cases e : getK l j with
  | none => rw [h1 e]; rfl
  | some z =>
    obtain ⟨v, e2, _⟩ := h2 z e
    rw [e2]; rfl
theorem din_core {d k : Ex} {l r : Expr} (hk : SE X EX Γ H0 E k l) (hd : SE X EX Γ H0 E d r) {neg : Bool} {ρ : DEnv} {σ : L2.St} {Hf H : Hp} {Q : Bool → DEnv → Prop} {QV : VK} (R : SR X.K EX H0 ρ σ Hf H)
    (w : wE Γ E k ρ fun y ρ1 => wE Γ E d ρ1 fun x ρ2 => match x with
    | .dct l => ∃ j, keyD y = some j ∧ Q (if neg = true then !(getK l j).isSome else (getK l j).isSome) ρ2
    | _ => False) (kk : ∀ c ρ2 Hf2 H2, SR X.K EX H0 ρ2 σ Hf2 H2 → Same Hf Hf2 → Same H H2 → Q c ρ2 → QV (.bl c) H2) :
    (if neg = true then tDNotIn (mE X l) (mE X r) else tDIn (mE X l) (mE X r)) σ H QV := by
  have main : mE X l σ H fun y H1 => mE X r σ H1 fun x H2 => ∃ a o, x = .ref a ∧ DGet H2 a y o ∧ QV (.bl (if neg = true then !o.isSome else o.isSome)) H2 := by
    refine hk ρ σ Hf H _ _ R w fun d1 ρ1 v1 Hf1 H1 R1 s1 t1 r1 w1 => ?_
    refine hd ρ1 σ Hf1 H1 _ _ R1 w1 fun d2 ρ2 v2 Hf2 H2 R2 s2 t2 r2 w2 => ?_
    split at w2
    · obtain ⟨j, e1, q⟩ := w2
      obtain ⟨a, xs, rfl, hr, rk⟩ := r2.toB.dct_inv R2.sub
      refine ⟨a, valV xs j, rfl, .inl ⟨xs, j, hr, keyD_inv (r1.toB.mono s2 t2) e1, rfl⟩, ?_⟩
      rw [getK_some rk]
      exact kk _ ρ2 Hf2 H2 R2 (s1.trans s2) (t1.trans t2) q
    · exact w2.elim
  cases neg with
  | true => rw [if_pos rfl]; simpa only [tDNotIn, if_true] using main
  | false => rw [if_neg Bool.false_ne_true]; simpa only [tDIn, if_neg Bool.false_ne_true, Bool.false_eq_true, if_false] using main
theorem se_din (hu : X.A.units + 64 < cLine) {d k : Ex} {l r : Expr} {pos : Pos} (hm : behindInMarks .In r = false) (hk : SE X EX Γ H0 E k l) (hd : SE X EX Γ H0 E d r) : SE X EX Γ H0 E (.din k d) (.Compare l [.In] [r] pos) := fun ρ σ Hf H Q QV R w kk =>
  mE.of (pe_cmp (pc_din (by omega) (PE.m l) (PE.m r)) hm) (din_core (neg := false) hk hd (Q := fun c ρ2 => Q (.bl c) ρ2) R w fun c ρ2 Hf2 H2 R2 s t q => kk _ ρ2 _ Hf2 H2 R2 s t (Rep.bl c) q)
theorem se_dnin (hu : X.A.units + 64 < cLine) {d k : Ex} {l r : Expr} {pos : Pos} (hm : behindInMarks .NotIn r = false) (hk : SE X EX Γ H0 E k l) (hd : SE X EX Γ H0 E d r) : SE X EX Γ H0 E (.dnin k d) (.Compare l [.NotIn] [r] pos) := fun ρ σ Hf H Q QV R w kk =>
  mE.of (pe_cmp (pc_dnotin (by omega) (PE.m l) (PE.m r)) hm) (din_core (neg := true) hk hd (Q := fun c ρ2 => Q (.bl c) ρ2) R w fun c ρ2 Hf2 H2 R2 s t q => kk _ ρ2 _ Hf2 H2 R2 s t (Rep.bl c) q)
theorem st_din (hu : X.A.units + 64 < cLine) {d k : Ex} {l r : Expr} {pos : Pos} (hm : behindInMarks .In r = false) (hk : SE X EX Γ H0 E k l) (hd : SE X EX Γ H0 E d r) : ST X EX Γ H0 E (.din k d) (.Compare l [.In] [r] pos) := fun ρ σ Hf H Q QB R w kk =>
  mT.of (pt_cmp (pc_din (by omega) (PE.m l) (PE.m r)) hm) (din_core (neg := false) hk hd (Q := Q) R w fun c ρ2 Hf2 H2 R2 s t q => ⟨c, rfl, kk _ ρ2 Hf2 H2 R2 s t q⟩)
theorem st_dnin (hu : X.A.units + 64 < cLine) {d k : Ex} {l r : Expr} {pos : Pos} (hm : behindInMarks .NotIn r = false) (hk : SE X EX Γ H0 E k l) (hd : SE X EX Γ H0 E d r) : ST X EX Γ H0 E (.dnin k d) (.Compare l [.NotIn] [r] pos) := fun ρ σ Hf H Q QB R w kk =>
  mT.of (pt_cmp (pc_dnotin (by omega) (PE.m l) (PE.m r)) hm) (din_core (neg := true) hk hd (Q := Q) R w fun c ρ2 Hf2 H2 R2 s t q => ⟨c, rfl, kk _ ρ2 Hf2 H2 R2 s t q⟩)
theorem plain_true {e : Expr} {env : Env} (h : plainT e = true) : ∀ whole, isTrue e env whole = (do let v ← whole; standAt e.pos; holding [v] (truthy v)) := fun whole => by
  cases e <;> first | rfl | (cases h; done) | skip
  rename_i op x pos
  cases op <;> first | rfl | cases h
theorem st_tr {x : Ex} {e : Expr} (hp : plainT e = true) (hx : SE X EX Γ H0 E x e) : ST X EX Γ H0 E (.tr x) e := fun ρ σ Hf H Q QB R w kk => by
  refine mT.of (pt_truth (PE.m e) (plain_true hp)) ?_
  refine hx ρ σ Hf H _ _ R w fun d1 ρ1 v1 Hf1 H1 R1 s1 t1 r1 w1 => ?_
  exact tru_ok' R1 r1.toB w1 fun c q => kk c ρ1 Hf1 H1 R1 s1 t1 q
theorem st_not {x : Ex} {e : Expr} {pos : Pos} (hx : ST X EX Γ H0 E x e) : ST X EX Γ H0 E (.not x) (.UnaryOp .Not e pos) := fun ρ σ Hf H Q QB R w kk => by
  refine mT.of (pt_not (PT.m e)) ?_
  exact hx ρ σ Hf H _ _ R w fun b ρ1 Hf1 H1 R1 s1 t1 w1 => kk _ ρ1 Hf1 H1 R1 s1 t1 w1
/-- a row of tests -/
def SL (X : Cx) (EX : EXT) (Γ : Nat → FSp) (H0 : Ent) (E : DX → DEnv → Prop) (op : BoolOp) (l : Exs) (es : List Expr) : Prop := ∀ (a : Ex) (e : Expr) (pos : Pos), ST X EX Γ H0 E a e → ∀ (ρ : DEnv) (σ : L2.St) (Hf H : Hp) (Q : Bool → DEnv → Prop) (QB : Bool → Hp → Prop), SR X.K EX H0 ρ σ Hf H →
  (match op with
  | .And => wT Γ E a ρ fun k ρ1 => if k = true then wTall Γ E l ρ1 Q else Q false ρ1
  | .Or => wT Γ E a ρ fun k ρ1 => if k = true then Q true ρ1 else wTany Γ E l ρ1 Q) →
  (∀ b ρ' Hf' H', SR X.K EX H0 ρ' σ Hf' H' → Same Hf Hf' → Same H H' → Q b ρ' → QB b H') → mW X (.BoolOp op (e :: es) pos) σ H QB
theorem sl_nil {op : BoolOp} : SL X EX Γ H0 E op .nil [] := fun a e pos ha ρ σ Hf H Q QB R w kk => by
  cases op with
  | And =>
    refine mW.of (pw_and1 (PT.m e)) ?_
    refine ha ρ σ Hf H _ _ R w fun b ρ1 Hf1 H1 R1 s1 t1 w1 => kk b ρ1 Hf1 H1 R1 s1 t1 ?_
    cases b with
    | true => rw [if_pos rfl] at w1; exact w1
    | false => rw [if_neg Bool.false_ne_true] at w1; exact w1
  | Or =>
    refine mW.of (pw_or1 (PT.m e)) ?_
    refine ha ρ σ Hf H _ _ R w fun b ρ1 Hf1 H1 R1 s1 t1 w1 => kk b ρ1 Hf1 H1 R1 s1 t1 ?_
    cases b with
    | true => rw [if_pos rfl] at w1; exact w1
    | false => rw [if_neg Bool.false_ne_true] at w1; exact w1
theorem sl_cons {op : BoolOp} {b : Ex} {l : Exs} {f : Expr} {es : List Expr} (hb : ST X EX Γ H0 E b f) (hl : SL X EX Γ H0 E op l es) : SL X EX Γ H0 E op (.cons b l) (f :: es) := fun a e pos ha ρ σ Hf H Q QB R w kk => by
  cases op with
  | And =>
    refine mW.of (pw_and (PT.m e) (PW.m _)) ?_
    refine ha ρ σ Hf H _ _ R w fun c ρ1 Hf1 H1 R1 s1 t1 w1 => ?_
    cases c with
    | true =>
      rw [if_pos rfl] at w1 ⊢
      exact hl b f pos hb ρ1 σ Hf1 H1 _ _ R1 w1 fun c ρ2 Hf2 H2 R2 s2 t2 w2 => kk c ρ2 Hf2 H2 R2 (s1.trans s2) (t1.trans t2) w2
    | false =>
      rw [if_neg Bool.false_ne_true] at w1 ⊢
      exact kk _ ρ1 Hf1 H1 R1 s1 t1 w1
  | Or =>
    refine mW.of (pw_or (PT.m e) (PW.m _)) ?_
    refine ha ρ σ Hf H _ _ R w fun c ρ1 Hf1 H1 R1 s1 t1 w1 => ?_
    cases c with
    | true =>
      rw [if_pos rfl] at w1 ⊢
      exact kk _ ρ1 Hf1 H1 R1 s1 t1 w1
    | false =>
      rw [if_neg Bool.false_ne_true] at w1 ⊢
      exact hl b f pos hb ρ1 σ Hf1 H1 _ _ R1 w1 fun c ρ2 Hf2 H2 R2 s2 t2 w2 => kk c ρ2 Hf2 H2 R2 (s1.trans s2) (t1.trans t2) w2
theorem st_and {a : Ex} {l : Exs} {e : Expr} {es : List Expr} {pos : Pos} (ha : ST X EX Γ H0 E a e) (hl : SL X EX Γ H0 E .And l es) : ST X EX Γ H0 E (.and a l) (.BoolOp .And (e :: es) pos) := fun ρ σ Hf H Q QB R w kk =>
  mT.of (PW.m (X := X) (.BoolOp .And (e :: es) pos)).pt (hl a e pos ha ρ σ Hf H Q QB R w kk)
theorem st_or {a : Ex} {l : Exs} {e : Expr} {es : List Expr} {pos : Pos} (ha : ST X EX Γ H0 E a e) (hl : SL X EX Γ H0 E .Or l es) : ST X EX Γ H0 E (.or a l) (.BoolOp .Or (e :: es) pos) := fun ρ σ Hf H Q QB R w kk =>
  mT.of (PW.m (X := X) (.BoolOp .Or (e :: es) pos)).pt (hl a e pos ha ρ σ Hf H Q QB R w kk)
/-- a row of values -/
def SV (X : Cx) (EX : EXT) (Γ : Nat → FSp) (H0 : Ent) (E : DX → DEnv → Prop) (op : BoolOp) (l : Exs) (es : List Expr) : Prop := ∀ (a : Ex) (e : Expr) (pos : Pos), nb a = true → SE X EX Γ H0 E a e → ∀ (ρ : DEnv) (σ : L2.St) (Hf H : Hp) (Q : D → DEnv → Prop) (QV : VK), SR X.K EX H0 ρ σ Hf H →
  (match op with
  | .And => wE Γ E a ρ fun x ρ1 => wAnd Γ E x l ρ1 Q
  | .Or => wE Γ E a ρ fun x ρ1 => wOr Γ E x l ρ1 Q) →
  (∀ d ρ' v Hf' H', SR X.K EX H0 ρ' σ Hf' H' → Same Hf Hf' → Same H H' → Rep X.K Hf' d v → Q d ρ' → QV v H') → mE X (.BoolOp op (e :: es) pos) σ H QV
theorem sv_nil (ek : EXok EX) {op : BoolOp} : SV X EX Γ H0 E op .nil [] := fun a e pos na ha ρ σ Hf H Q QV R w kk => by
  refine mE.of (pe_one (PE.m e)) ?_
  cases op <;>
  · refine ha ρ σ Hf H _ _ R w fun d1 ρ1 v1 Hf1 H1 R1 s1 t1 r1 w1 => ?_
    obtain ⟨Hf2, R2, s2, r2⟩ := r1.freeze (nb_md na) R1 ek
    exact kk d1 ρ1 v1 Hf2 H1 R2 (s1.trans s2) t1 r2 w1
theorem sv_cons {op : BoolOp} {b : Ex} {l : Exs} {f : Expr} {es : List Expr} (nb' : nb b = true) (hb : SE X EX Γ H0 E b f) (hl : SV X EX Γ H0 E op l es) : SV X EX Γ H0 E op (.cons b l) (f :: es) := fun a e pos na ha ρ σ Hf H Q QV R w kk => by
  cases op with
  | And =>
    refine mE.of (pe_and (PE.m e) (PE.m _)) ?_
    refine ha ρ σ Hf H _ _ R w fun d1 ρ1 v1 Hf1 H1 R1 s1 t1 r1 w1 => ?_
    cases d1 with
    | bl c =>
      refine ⟨c, r1.toB.bl_inv, ?_⟩
      have w1' : if c = true then wE Γ E b ρ1 (fun y ρ2 => wAnd Γ E y l ρ2 Q) else Q (.bl false) ρ1 := w1
      cases c with
      | true =>
        rw [if_pos rfl] at w1' ⊢
        exact hl b f pos nb' hb ρ1 σ Hf1 H1 _ _ R1 w1' fun d ρ2 v Hf2 H2 R2 s2 t2 r2 w2 => kk d ρ2 v Hf2 H2 R2 (s1.trans s2) (t1.trans t2) r2 w2
      | false =>
        rw [if_neg Bool.false_ne_true] at w1' ⊢
        exact kk _ ρ1 _ Hf1 H1 R1 s1 t1 (.bl false) w1'
    | _ => exact (show False from w1).elim
  | Or =>
    refine mE.of (pe_or (PE.m e) (PE.m _)) ?_
    refine ha ρ σ Hf H _ _ R w fun d1 ρ1 v1 Hf1 H1 R1 s1 t1 r1 w1 => ?_
    cases d1 with
    | bl c =>
      refine ⟨c, r1.toB.bl_inv, ?_⟩
      have w1' : if c = true then Q (.bl true) ρ1 else wE Γ E b ρ1 (fun y ρ2 => wOr Γ E y l ρ2 Q) := w1
      cases c with
      | true =>
        rw [if_pos rfl] at w1' ⊢
        exact kk _ ρ1 _ Hf1 H1 R1 s1 t1 (.bl true) w1'
      | false =>
        rw [if_neg Bool.false_ne_true] at w1' ⊢
        exact hl b f pos nb' hb ρ1 σ Hf1 H1 _ _ R1 w1' fun d ρ2 v Hf2 H2 R2 s2 t2 r2 w2 => kk d ρ2 v Hf2 H2 R2 (s1.trans s2) (t1.trans t2) r2 w2
    | _ => exact (show False from w1).elim
theorem se_and {a : Ex} {l : Exs} {e : Expr} {es : List Expr} {pos : Pos} (na : nb a = true) (ha : SE X EX Γ H0 E a e) (hl : SV X EX Γ H0 E .And l es) : SE X EX Γ H0 E (.and a l) (.BoolOp .And (e :: es) pos) := fun ρ σ Hf H Q QV R w kk => hl a e pos na ha ρ σ Hf H Q QV R w kk
theorem se_or {a : Ex} {l : Exs} {e : Expr} {es : List Expr} {pos : Pos} (na : nb a = true) (ha : SE X EX Γ H0 E a e) (hl : SV X EX Γ H0 E .Or l es) : SE X EX Γ H0 E (.or a l) (.BoolOp .Or (e :: es) pos) := fun ρ σ Hf H Q QV R w kk => hl a e pos na ha ρ σ Hf H Q QV R w kk
end
end DL
/-! DK: isinstance, targets, walks -/
namespace DL
open PySem PySem.Spec PyProof.Rows L2
theorem wipe_set {σ : L2.St} {i : Nat} {v : Option V} : ∀ {l : List Nat}, i ∈ l → L2.wipe (σ.set i v) l = L2.wipe σ l := fun {l} h => by
  have gen : ∀ l : List Nat, L2.wipe (σ.set i v) l = if i ∈ l then L2.wipe σ l else (L2.wipe σ l).set i v := fun l => by
    induction l with
    | nil => rw [if_neg (by simp)]; rfl
    | cons j r ih =>
      show (L2.wipe (σ.set i v) r).set j none = _
      rw [ih]
      by_cases hj : i = j
      · subst hj
        rw [if_pos List.mem_cons_self]
        by_cases hr : i ∈ r
        · rw [if_pos hr]; rfl
        · rw [if_neg hr, List.set_set]; rfl
      · by_cases hr : i ∈ r
        · rw [if_pos hr, if_pos (List.mem_cons_of_mem _ hr)]; rfl
        · rw [if_neg hr, if_neg (by simp [hj, hr])]
          show ((L2.wipe σ r).set i v).set j none = ((L2.wipe σ r).set j none).set i v
          exact List.set_comm _ _ hj
  rw [gen l, if_pos h]
theorem wipe_get {σ : L2.St} {i : Nat} : ∀ {l : List Nat}, i ∉ l → (L2.wipe σ l)[i]? = σ[i]? := fun h => wipe_out h
theorem wipe_idem {σ : L2.St} : ∀ {m l : List Nat}, (∀ i ∈ l, i ∈ m) → L2.wipe (L2.wipe σ l) m = L2.wipe σ m
  | m, [], _ => rfl
  | m, j :: l, h => by
    show L2.wipe ((L2.wipe σ l).set j none) m = _
    rw [wipe_set (h j List.mem_cons_self)]
    exact wipe_idem fun i hi => h i (List.mem_cons_of_mem _ hi)
theorem wipeD_un {ρ : DEnv} {i : Nat} : ∀ {l : List Nat}, i ∈ l → ∀ {s : Sl}, (wipeD ρ l)[i]? = some s → s = .un
  | j :: l, h, s, e => by
    rcases get_set (show ((wipeD ρ l).set j .un)[i]? = some s from e) with ⟨_, q, _⟩ | ⟨n, q⟩
    · exact q
    · rcases List.mem_cons.mp h with z | z
      · exact absurd z n
      · exact wipeD_un z q

/-! ### isinstance -/
section
variable {X : Cx} {EX : EXT} {Γ : Nat → FSp} {H0 : Ent} {xa : Nat → Addr} {C : Cn} {sc : Scope} {E : DX → DEnv → Prop}
theorem ty_facts {t : String} (h : t ∈ tyNames) : bootBuiltins (Str.ofString t) = some (.type t) ∧ t ∈ tyOk ∧ Str.ofString t ≠ "__name__" ∧ (Str.ofString t == ("__debug__" : Str)) = false ∧ Str.ofString t ∈ bltNames := by
  simp only [tyNames, List.mem_cons, List.not_mem_nil, or_false] at h
  rcases h with rfl | rfl | rfl | rfl | rfl | rfl <;> exact ⟨by decide +kernel, by decide, by decide +kernel, by decide +kernel, by decide +kernel⟩
/-- the class part of a test, by its names -/
def tCls (X : Cx) (ts : List String) : TE := fun σ H Q => (∃ t, ts = [t] ∧ Q (.ty t) H) ∨ ∀ p, H p = none → Q (.ref p) (upd H p (.tup (ts.map V.ty)))
theorem pe_tys (c : Cok X xa Γ C sc) : ∀ {es : List Expr} {ts : List String}, es.length = ts.length → ((es.zip ts).all fun p => match p.1 with
    | .Name x _ => decide (x = Str.ofString p.2) && gloB sc x
    | _ => false) = true → (∀ t ∈ ts, t ∈ tyNames) → PA X es (fun _ H Q => Q (ts.map V.ty) H)
  | [], [], _, _, _ => pa_nil
  | e :: es, t :: ts, hl, h, hts => by
    rw [List.zip_cons_cons, List.all_cons, Bool.and_eq_true] at h
    have ih := pe_tys c (es := es) (ts := ts) (by simpa using hl) h.2 fun u hu => hts u (List.mem_cons_of_mem _ hu)
    obtain ⟨h1, _⟩ := h
    split at h1
    · rename_i x pos ex
      have ee : e = .Name x pos := ex
      subst ee
      rw [Bool.and_eq_true, decide_eq_true_eq] at h1
      have ex : x = Str.ofString t := h1.1
      subst ex
      obtain ⟨b, _, n1, n2, m⟩ := ty_facts (hts t List.mem_cons_self)
      exact pa_cons (pe_bltn (c.gl h1.2) (c.blt _ m) b (v := .ty t) rfl n1 n2) ih
    · cases h1
theorem pe_cls (c : Cok X xa Γ C sc) {e : Expr} {ts : List String} (h : clsNames sc e ts = true) (hts : ∀ t ∈ ts, t ∈ tyNames) (hz : ts.length ≤ sizeLine) : PE X e (fun σ H Q => (∀ t, ts = [t] → Q (.ty t) H) ∧ ∀ p, H p = none → Q (.ref p) (upd H p (.tup (ts.map V.ty)))) := by
  unfold clsNames at h
  split at h
  · rename_i x pos t
    rw [Bool.and_eq_true, decide_eq_true_eq] at h
    obtain ⟨rfl, hg⟩ := h
    obtain ⟨b, _, n1, n2, m⟩ := ty_facts (hts t List.mem_cons_self)
    have P := pe_bltn (pos := pos) (c.gl hg) (c.blt _ m) b (v := .ty t) rfl n1 n2
    exact ⟨fun pins s σ H Q I q => P.run pins s σ H Q I (q.1 t rfl)⟩
  · rw [Bool.and_eq_true, decide_eq_true_eq] at h
    have P := pe_tys c h.1 h.2 hts
    exact ⟨fun pins s σ H Q I q => (pe_tup P).run pins s σ H Q I ⟨by rw [List.length_map]; exact hz, q.2⟩⟩
  · cases h
theorem se_isT (ek : EXok EX) (c : Cok X xa Γ C sc) {ts : List String} {a : Ex} {e t : Expr} {p pos : Pos} (hg : gloB sc (Str.ofString "isinstance") = true) (hn : nst e = true) (hnt : nst t = true) (hc : clsNames sc t ts = true) (hts : ∀ t ∈ ts, t ∈ tyNames) (hz : ts.length ≤ sizeLine) (ha : SE X EX Γ H0 E a e) :
    SE X EX Γ H0 E (.isT ts a) (.Call (.Name (Str.ofString "isinstance") p) [e, t] [] pos) := fun ρ σ Hf H Q QV R w k => by
  refine mE.of (pe_callB (id := "isinstance") mCa_ok (c.gl hg) (c.blt _ (by decide +kernel)) (by decide +kernel) (pa_cons (PE.m e) (pa_cons (pe_cls c hc hts hz) pa_nil (star_cons hnt)) (star_cons hn)) (by decide +kernel) (by decide +kernel) (star_cons hn) (by rw [star_cons hnt]; rfl)) ?_
  refine ha ρ σ Hf H _ _ R w fun d1 ρ1 v1 Hf1 H1 R1 s1 t1 r1 w1 => ?_
  obtain ⟨ty, hty, q⟩ := w1
  have hts' : ∀ u ∈ ts, u ∈ tyOk := fun u hu => (ty_facts (hts u hu)).2.1
  obtain ⟨b, hb, hT, hk⟩ := isT_ok R1 r1.toB hty hts'
  rw [← hb] at q
  refine ⟨fun u hu => ?_, fun tp htp => ?_⟩
  · subst hu
    have hk1 : PySem.W.kitOne X.K (.type ty) (.type u) = some b := by
      rw [kit_sub (tyD_mem hty) (hts' u List.mem_cons_self), hb, List.any_cons, List.any_nil, Bool.or_false]
    exact mCa.of call_isi ⟨v1, .ty u, .type ty, .type u, b, rfl, .ty u, hT, hk1, k _ ρ1 _ Hf1 H1 R1 s1 t1 (Rep.bl b) q⟩
  · have sm := same_new htp (.tup (ts.map V.ty))
    have hT2 : TyX X.K (upd H1 tp (.tup (ts.map V.ty))) v1 (.type ty) := ((r1.toB.rep R1.sub).same sm).ty hty
    have cl : ∀ l : List String, Paired ClsV (l.map V.ty) (l.map Value.type) := fun l => by
      induction l with
      | nil => exact .nil
      | cons u r ih => exact .cons (.ty u) ih
    exact mCa.of call_isiT ⟨v1, tp, ts.map V.ty, .type ty, ts.map Value.type, b, rfl, upd_same, cl ts, hT2, hk, k _ ρ1 _ Hf1 _ (R1.newO ek htp _) s1 (t1.trans sm) (Rep.bl b) q⟩
end

/-! ### targets -/
/-- where a target stands: none: a def's body; some b: the block b of a comprehension -/
structure Gok (X : Cx) (N : List Str) (bs : Option Scope) (sc : Scope) : Prop where
  hN : X.N = N
  nd : N.Nodup
  scp : X.env.scope = sc
  calm : X.calm = true
  fn : ∀ x, (match bs with
    | none => true
    | some b => decide (b.names.lookup x = some .cell)) = true → X.fn x = true
def mGs (X : Cx) (es : List Expr) : TGs := fun vs σ H Q => ∀ (pins : List (Addr × Obj)) (s : Shared) (us : List Value), Inv X pins σ H s → Vals vs us → wpAny (model X.prog X.w) X.A (assignInOrder ((assignEach es X.env).map (·.2)) us) (fun _ s' => ∃ σ' H', Inv X pins σ' H' s' ∧ Q σ' H') X.xe s
theorem PGs.m {X : Cx} (es : List Expr) : PGs X es (mGs X es) := ⟨fun pins s σ H vs us Q I r h => h pins s us I r⟩
/-- what a store leaves -/
def KG (K : PySem.W.Frag) (EX : EXT) (H0 : Ent) (sl : List Nat) (ρ : DEnv) (σ : L2.St) (Hf H : Hp) (Q : DEnv → Prop) (QS : L2.St → Hp → Prop) : Prop :=
  ∀ ρ' σ', SR K EX H0 ρ' σ' Hf H → (∀ i, i ∉ sl → ρ'[i]? = ρ[i]? ∧ σ'[i]? = σ[i]?) → (∀ l : List Nat, (∀ i ∈ sl, i ∈ l) → L2.wipe σ' l = L2.wipe σ l) → Q ρ' → QS σ' H
theorem each_cons {e : Expr} {es : List Expr} {env : Env} {N : List Str} {bs : Option Scope} {sc : Scope} {t : Tg} (h : ckG N bs sc t e = true) : assignEach (e :: es) env = (false, assign e env) :: assignEach es env := by
  cases t with
  | nm i => cases e <;> first | rfl | (cases h; done)
  | tup l => cases e <;> first | rfl | (cases h; done)
theorem ckGs_cons {N : List Str} {bs : Option Scope} {sc : Scope} {t : Tg} {l : List Tg} {es : List Expr} (h : ckGs N bs sc (t :: l) es = true) : ∃ e r, es = e :: r ∧ ckG N bs sc t e = true ∧ ckGs N bs sc l r = true := by
  cases es with
  | nil => cases h
  | cons e r =>
    have h' : ckG N bs sc t e = true ∧ ckGs N bs sc l r = true := by simpa [ckGs] using h
    exact ⟨e, r, rfl, h'.1, h'.2⟩
theorem each_len {env : Env} {N : List Str} {bs : Option Scope} {sc : Scope} : ∀ {l : List Tg} {es : List Expr}, ckGs N bs sc l es = true → (assignEach es env).length = l.length ∧ (assignEach es env).findIdx? (·.1) = none
  | [], [], _ => ⟨rfl, rfl⟩
  | [], _ :: _, h => by cases h
  | t :: l, es, h => by
    obtain ⟨e, r, rfl, h1, h2⟩ := ckGs_cons h
    obtain ⟨a, b⟩ := each_len (env := env) h2
    rw [each_cons h1]
    refine ⟨congrArg (· + 1) a, ?_⟩
    rw [List.findIdx?_cons]
    simp [b]
section
variable {X : Cx} {EX : EXT} {H0 : Ent} {N : List Str} {bs : Option Scope} {sc : Scope}
theorem ckG_nm {i : Nat} {e : Expr} (h : ckG N bs sc (.nm i) e = true) : ∃ x pos, e = .Name x pos ∧ N[i]? = some x ∧ locB sc x = true ∧ fnB bs sc x = true := by
  cases e <;> first | (cases h; done) | skip
  rename_i x pos
  have h' : (decide (N[i]? = some x) && locB sc x && fnB bs sc x) = true := h
  rw [Bool.and_eq_true, Bool.and_eq_true, decide_eq_true_eq] at h'
  exact ⟨x, pos, rfl, h'.1.1, h'.1.2, h'.2⟩
theorem ckG_tup {l : List Tg} {e : Expr} (h : ckG N bs sc (.tup l) e = true) : ∃ es k pos, e = .Tuple es k pos ∧ ckGs N bs sc l es = true := by
  cases e <;> first | (cases h; done) | skip
  exact ⟨_, _, _, rfl, h⟩
mutual
theorem sg (ok : Gok X N bs sc) : ∀ (g : Tg) (tg : Expr), ckG N bs sc g tg = true → ∀ (ρ : DEnv) (σ : L2.St) (Hf H : Hp) (d : D) (v : V) (Q : DEnv → Prop) (QS : L2.St → Hp → Prop), SR X.K EX H0 ρ σ Hf H → Rep X.K Hf d v → wG g d ρ Q → KG X.K EX H0 g.slots ρ σ Hf H Q QS → mG X tg v σ H QS
  | .nm i, tg, h, ρ, σ, Hf, H, d, v, Q, QS, R, r, w, k => by
    obtain ⟨x, pos, rfl, h1, h2, h3⟩ := ckG_nm h
    have hf : X.fn x = true ∨ X.env.scope.names.lookup x = some .local := by
      cases bs with
      | none => exact .inl (ok.fn x rfl)
      | some b =>
        have h4 : (decide (b.names.lookup x = some .cell) || decide (sc.names.lookup x = some .local)) = true := h3
        rw [Bool.or_eq_true, decide_eq_true_eq, decide_eq_true_eq] at h4
        rcases h4 with z | z
        · exact .inl (ok.fn x (decide_eq_true z))
        · exact .inr (by rw [ok.scp]; exact z)
    have P := pg_name (X := X) (i := i) (x := x) (pos := pos) (by rw [ok.hN]; exact ok.nd) (by rw [ok.hN]; exact h1) (by rw [ok.scp]; exact loc_of h2) hf
    intro pins s u I rv
    refine P.run pins s σ H v u QS I rv ?_
    refine k _ _ (R.setSh r i) (fun j hj => ?_) (fun l hl => wipe_set (hl i (by simp [Tg.slots]))) w
    have hne : i ≠ j := fun z => hj (by simp [Tg.slots, z])
    exact ⟨List.getElem?_set_ne hne, List.getElem?_set_ne hne⟩
  | .tup l, tg, h, ρ, σ, Hf, H, d, v, Q, QS, R, r, w, k => by
    obtain ⟨es, k0, pos, rfl, h'⟩ := ckG_tup h
    obtain ⟨a1, a2⟩ := each_len (env := X.env) h'
    have P := pg_tup (X := X) (k := k0) (pos := pos) ok.calm (PGs.m es) a1 a2
    intro pins s u I rv
    cases d with
    | tup ds =>
      cases r with
      | tup hs rs =>
        have w' : ds.length = l.length ∧ wGs l ds ρ Q := w
        refine P.run pins s σ H _ u QS I rv ?_
        exact ⟨_, _, rfl, (Sim.of R.sub).seqT hs, by rw [← rs.length]; exact w'.1, sgs ok l es h' ρ σ Hf H ds _ Q QS R rs w'.2 k⟩
    | _ => exact (show False from w).elim
theorem sgs (ok : Gok X N bs sc) : ∀ (l : List Tg) (es : List Expr), ckGs N bs sc l es = true → ∀ (ρ : DEnv) (σ : L2.St) (Hf H : Hp) (ds : List D) (vs : List V) (Q : DEnv → Prop) (QS : L2.St → Hp → Prop), SR X.K EX H0 ρ σ Hf H → Reps X.K Hf ds vs → wGs l ds ρ Q → KG X.K EX H0 (slotsL l) ρ σ Hf H Q QS → mGs X es vs σ H QS
  | [], es, h, ρ, σ, Hf, H, ds, vs, Q, QS, R, r, w, k => by
    cases es with
    | cons _ _ => cases h
    | nil =>
      cases r with
      | cons _ _ => exact (show False from w).elim
      | nil =>
        intro pins s us I rv
        exact pgs_nil.run pins s σ H [] us QS I rv ⟨rfl, k ρ σ R (fun _ _ => ⟨rfl, rfl⟩) (fun _ _ => rfl) w⟩
  | t :: l, es, h, ρ, σ, Hf, H, ds, vs, Q, QS, R, r, w, k => by
    obtain ⟨e, es', rfl, h1, h2⟩ := ckGs_cons h
    cases r with
    | nil => exact (show False from w).elim
    | cons r rs =>
      intro pins s us I rv
      refine (pgs_cons (PG.m e) (PGs.m es') (by rw [each_cons h1]; rfl)).run pins s σ H _ us QS I rv ⟨_, _, rfl, ?_⟩
      refine sg ok t e h1 ρ σ Hf H _ _ _ _ R r w fun ρ1 σ1 R1 g1 z1 w1 => ?_
      refine sgs ok l es' h2 ρ1 σ1 Hf H _ _ _ _ R1 rs w1 fun ρ2 σ2 R2 g2 z2 w2 => ?_
      refine k ρ2 σ2 R2 (fun i hi => ?_) (fun m hm => ?_) w2
      · have i1 : i ∉ t.slots := fun z => hi (by simp [slotsL, z])
        have i2 : i ∉ slotsL l := fun z => hi (by simp [slotsL, z])
        exact ⟨(g2 i i2).1.trans (g1 i i1).1, (g2 i i2).2.trans (g1 i i1).2⟩
      · rw [z2 m fun i hi => hm i (by simp [slotsL, hi]), z1 m fun i hi => hm i (by simp [slotsL, hi])]
end
end
end DL
/-! DL1: comprehensions -/
namespace DL
open PySem PySem.Spec PyProof.Rows L2
open Classical in
/-- a frame entered anew: all that stands is the caller's, but the frame's own lists and dicts -/
noncomputable def entOf (ρ : DEnv) (σ : L2.St) (Hf H : Hp) : Ent := ⟨Hf, fun b => if ∃ (i : Nat) (s : Sl), ρ[i]? = some s ∧ s.isOwn = true ∧ σ[i]? = some (some (V.ref b)) then none else H b⟩
section
variable {K : PySem.W.Frag} {EX : EXT} {H0 : Ent} {ρ ρ' : DEnv} {σ σ' : L2.St} {Hf H Hf' H' : Hp}
open Classical in
theorem entOf_own {i : Nat} {s : Sl} {a : Addr} (h : ρ[i]? = some s) (o : s.isOwn = true) (e : σ[i]? = some (some (V.ref a))) : (entOf ρ σ Hf H).h a = none := if_pos ⟨i, s, h, o, e⟩
open Classical in
theorem SR.enter (R : SR K EX H0 ρ σ Hf H) : SR K EX (entOf ρ σ Hf H) ρ σ Hf H := by
  refine ⟨Same.refl _, fun b u q => ?_, fun a _ h => h, R.sub, R.len, R.sh, fun i p l e => ?_, fun i p l e => ?_, R.exc, R.apart⟩
  · have q' : (if ∃ (i : Nat) (s : Sl), ρ[i]? = some s ∧ s.isOwn = true ∧ σ[i]? = some (some (V.ref b)) then none else H b) = some u := q
    split at q'
    · cases q'
    · exact q'
  · obtain ⟨a, xs, h1, h2, h3, r, _, hp⟩ := R.own i p l e
    exact ⟨a, xs, h1, h2, h3, r, entOf_own e rfl h1, hp⟩
  · obtain ⟨a, xs, h1, h2, h3, r, _, hp⟩ := R.ownK i p l e
    exact ⟨a, xs, h1, h2, h3, r, entOf_own e rfl h1, hp⟩
open Classical in
/-- nothing that stood was frozen -/
theorem SR.leave (R : SR K EX (entOf ρ σ Hf H) ρ' σ' Hf' H') (keep : ∀ (i : Nat) (s : Sl), ρ[i]? = some s → s.isOwn = true → ρ'[i]? = some s ∧ σ'[i]? = σ[i]?) (a : Addr) (h1 : H a ≠ none) (h2 : Hf a = none) : Hf' a = none := by
  by_cases o : ∃ (i : Nat) (s : Sl), ρ[i]? = some s ∧ s.isOwn = true ∧ σ[i]? = some (some (V.ref a))
  · obtain ⟨i, s, e, ho, es⟩ := o
    obtain ⟨k1, k2⟩ := keep i s e ho
    rw [es] at k2
    cases s with
    | own p l =>
      obtain ⟨b, xs, q1, q2, _⟩ := R.own i p l k1
      rw [k2] at q1; cases q1; exact q2
    | ownK p l =>
      obtain ⟨b, xs, q1, q2, _⟩ := R.ownK i p l k1
      rw [k2] at q1; cases q1; exact q2
    | un => cases ho
    | sh _ => cases ho
    | exc _ _ => cases ho
  · exact R.nof a (by show (if _ then none else H a) ≠ none; rw [if_neg o]; exact h1) h2
/-- an object that is not of the frozen part, nor a slot's, is changed -/
theorem SR.other (R : SR K EX H0 ρ σ Hf H) {p : Addr} {o : HO} (n : Hf p = none) (n0 : H0.h p = none) (f : ∀ (i : Nat) (s : Sl), ρ[i]? = some s → s.isOwn = true → σ[i]? ≠ some (some (V.ref p))) : SR K EX H0 ρ σ Hf (upd H p o) := by
  have st : ∀ {G : Hp}, G p = none → Same G H → Same G (upd H p o) := fun {G} z s b u q => by
    rw [upd_ne (fun e => by rw [e, z] at q; cases q)]; exact s b u q
  refine ⟨R.base, st n0 R.ent, R.nof, st n R.sub, R.len, R.sh, fun i p l e => ?_, fun i p l e => ?_, R.exc, R.apart⟩
  · obtain ⟨a, xs, h1, h2, h3, r⟩ := R.own i p l e
    exact ⟨a, xs, h1, h2, by rw [upd_ne (fun z => f i _ e rfl (by rw [h1, z]))]; exact h3, r⟩
  · obtain ⟨a, xs, h1, h2, h3, r⟩ := R.ownK i p l e
    exact ⟨a, xs, h1, h2, by rw [upd_ne (fun z => f i _ e rfl (by rw [h1, z]))]; exact h3, r⟩
theorem same_other {G : Hp} {p : Addr} {o : HO} (z : G p = none) (s : Same G H) : Same G (upd H p o) := fun b u q => by
  rw [upd_ne (fun e => by rw [e, z] at q; cases q)]; exact s b u q
end
section
variable {X : Cx} {EX : EXT} {Γ : Nat → FSp} {H0 : Ent} {E : DX → DEnv → Prop}
/-- what is walked, by data -/
def SI (X : Cx) (EX : EXT) (Γ : Nat → FSp) (H0 : Ent) (E : DX → DEnv → Prop) (k : ItK) (l : Exs) (tg iter : Expr) : Prop := ∀ (ρ : DEnv) (σ : L2.St) (Hf H : Hp) (Q : DEnv → List D → Prop) (R : It → Hp → Prop), SR X.K EX H0 ρ σ Hf H →
  (wA Γ E l ρ fun ds ρ1 => itW k ds (Q ρ1)) → (∀ ρ1 Hf1 H1 J items b, SR X.K EX H0 ρ1 σ Hf1 H1 → Same Hf Hf1 → Same H H1 → ItD X.K EX b Hf1 H1 J items → (nbA l = true → b = false) → Q ρ1 items → R J H1) → mI X tg iter σ H R
/-- tests of a comprehension -/
def STs (X : Cx) (EX : EXT) (Γ : Nat → FSp) (H0 : Ent) (E : DX → DEnv → Prop) (t : Exs) (ifs : List Expr) : Prop := ∀ (ρ : DEnv) (σ : L2.St) (Hf H : Hp) (Q : Bool → DEnv → Prop) (QB : Bool → Hp → Prop), SR X.K EX H0 ρ σ Hf H → wTs Γ E t ρ Q →
  (∀ b ρ' Hf' H', SR X.K EX H0 ρ' σ Hf' H' → Same Hf Hf' → Same H H' → Q b ρ' → QB b H') → mTs X ifs σ H QB
theorem lc_core' (ek : EXok EX) {g : Tg} {k : ItK} {l t : Exs} {x : Ex} {tg iter elt : Expr} {ifs : List Expr} {scope : Scope} {own : List (Str × Nat)} (ho : own.map (·.2) = g.slots) (nx : nb x = true)
    (hI : SI X EX Γ H0 E k l tg iter)
    (hG : ∀ (s : Shared) (H : Hp) (C : Addr) (cl : List (Str × Addr)) (fp : List Addr) (H0 : Ent) (ρ : DEnv) (σ : L2.St) (Hf H' : Hp) (d : D) (v : V) (Q : DEnv → Prop) (QS : L2.St → Hp → Prop), SR X.K EX H0 ρ σ Hf H' → Rep X.K Hf d v → wG g d ρ Q → KG X.K EX H0 g.slots ρ σ Hf H' Q QS → mG (X.blk s H scope (compEnvC scope cl C X.env) fp) tg v σ H' QS)
    (hT : ∀ (s : Shared) (H : Hp) (C : Addr) (cl : List (Str × Addr)) (fp : List Addr) (H0 : Ent), STs (X.blk s H scope (compEnvC scope cl C X.env) fp) EX Γ H0 (fun _ _ => False) t ifs)
    (hE : ∀ (s : Shared) (H : Hp) (C : Addr) (cl : List (Str × Addr)) (fp : List Addr) (H0 : Ent), SE (X.blk s H scope (compEnvC scope cl C X.env) fp) EX Γ H0 (fun _ _ => False) x elt)
    {ρ : DEnv} {σ : L2.St} {Hf H : Hp} {Q : D → DEnv → Prop} {QV : VK} (R : SR X.K EX H0 ρ σ Hf H) (w : wE Γ E (.lc g k l t x) ρ Q)
    (kk : ∀ d ρ' v Hf' H', SR X.K EX H0 ρ' σ Hf' H' → Same Hf Hf' → Same H H' → RepF X.K H0 ρ' σ Hf' H' d v → Q d ρ' → QV v H') :
    tLc (mI X tg iter) (fun v σ H' Q => ∀ s H C cl fp, mG (X.blk s H scope (compEnvC scope cl C X.env) fp) tg v σ H' Q) (fun σ H' Q => ∀ s H C cl fp, mTs (X.blk s H scope (compEnvC scope cl C X.env) fp) ifs σ H' Q)
      (fun σ H' Q => ∀ s H C cl fp, mE (X.blk s H scope (compEnvC scope cl C X.env) fp) elt σ H' Q) (own.map (·.2)) σ H QV := by
  rw [ho]
  refine hI ρ σ Hf H (fun ρ1 items => lcL (wG g) (wTs Γ (fun _ _ => False) t) (wE Γ (fun _ _ => False) x) (wipeD ρ1 g.slots) (fun acc => Q (.lst acc) ρ1) items []) _ R w fun ρ1 Hf1 H1 J items b R1 s1 t1 it _ w1 => ?_
  intro L hD
  -- the state between two turns
  let Inv1 : Nat → Hp → Prop := fun i H => ∃ (Hf : Hp) (acc : List D) (vs : List V), SR X.K EX H0 ρ1 σ Hf H ∧ Same Hf1 Hf ∧ Same H1 H ∧ H L = some (.lst vs) ∧ Hf L = none ∧ Reps X.K Hf acc vs ∧
    lcL (wG g) (wTs Γ (fun _ _ => False) t) (wE Γ (fun _ _ => False) x) (wipeD ρ1 g.slots) (fun acc => Q (.lst acc) ρ1) (items.drop i) acc
  have D0 : H0.h L = none := R1.ent.free hD
  have DO := R1.notOwn hD
  refine ⟨fun i m H => m = items.length - i ∧ i ≤ items.length ∧ Inv1 i H, ⟨items.length, by simp, Nat.zero_le _, Hf1, [], [], R1.newO ek hD _, Same.refl _, same_new hD _, upd_same, R1.fresh hD, .nil, w1⟩, ?_⟩
  rintro i m H2 ⟨rfl, hi, Hf2, acc, vs, R2, s2, t2, e2, n2, r2, w2⟩
  by_cases hlt : i < items.length
  · refine .inr ⟨it.go i Hf2 H2 s2 R2.sub (fun _ => t2) hlt, Inv1 (i + 1), fun H' p => ⟨items.length - (i + 1), by omega, rfl, hlt, p⟩, fun v H3 y => ?_⟩
    have hget : items[i]? = some items[i] := by simp [hlt]
    rw [List.drop_eq_getElem_cons hlt] at w2
    obtain ⟨Hf3, R3e, s3, t3, r3⟩ := it.yld _ i items[i] H2 v H3 Hf2 ρ1 σ R2.enter s2 (fun _ => t2) hget y
    have nof3 := SR.leave R3e fun i s e o => ⟨e, rfl⟩
    have R3 := R2.grow ek s3 t3 R3e.sub nof3
    have n3 : Hf3 L = none := nof3 L (by rw [e2]; exact nofun) n2
    have e3 := t3 _ _ e2
    have Rw := (R3.wipe g.slots).enter
    have w3 : wG g items[i] (wipeD ρ1 g.slots) fun ρ2 => wTs Γ (fun _ _ => False) t ρ2 fun b ρ3 => ρ3 = ρ2 ∧ if b = true then wE Γ (fun _ _ => False) x ρ3 fun y ρ4 => ρ4 = ρ3 ∧ acc.length < sizeLine ∧ lcL (wG g) (wTs Γ (fun _ _ => False) t) (wE Γ (fun _ _ => False) x) (wipeD ρ1 g.slots) (fun acc => Q (.lst acc) ρ1) (items.drop (i + 1)) (acc ++ [y]) else lcL (wG g) (wTs Γ (fun _ _ => False) t) (wE Γ (fun _ _ => False) x) (wipeD ρ1 g.slots) (fun acc => Q (.lst acc) ρ1) (items.drop (i + 1)) acc := w2
    intro s0 Hb Cb cl fp
    refine hG s0 Hb Cb cl fp _ _ _ Hf3 H3 _ v _ _ Rw r3 w3 fun ρ2 σ2 R4 g4 z4 w4 => ?_
    have keep : ∀ (i : Nat) (s : Sl), (wipeD ρ1 g.slots)[i]? = some s → s.isOwn = true → ρ2[i]? = some s ∧ σ2[i]? = (L2.wipe σ g.slots)[i]? := fun i s e o => by
      have hi : i ∉ g.slots := fun z => by
        rw [wipeD_un z e] at o; cases o
      obtain ⟨a1, a2⟩ := g4 i hi
      exact ⟨a1.trans e, a2⟩
    refine ⟨(z4 g.slots fun _ h => h).trans (wipe_idem fun _ h => h), ?_⟩
    intro s0 Hb Cb cl fp
    refine hT s0 Hb Cb cl fp _ ρ2 σ2 Hf3 H3 _ _ R4 w4 fun bb ρ3 Hf5 H5 R5 s5 t5 w5 => ?_
    obtain ⟨rfl, w5⟩ := w5
    cases bb with
    | false =>
      rw [if_neg Bool.false_ne_true] at w5 ⊢
      have nof5 := SR.leave R5 keep
      exact ⟨Hf5, acc, vs, R3.grow ek s5 t5 R5.sub nof5, s2.trans (s3.trans s5), t2.trans (t3.trans t5), t5 _ _ e3, nof5 L (by rw [e3]; exact nofun) n3, (r2.same s3).same s5, w5⟩
    | true =>
      rw [if_pos rfl] at w5 ⊢
      intro s0 Hb Cb cl fp
      refine hE s0 Hb Cb cl fp _ ρ3 σ2 Hf5 H5 _ _ R5 w5 fun y ρ4 u Hf6 H6 R6 s6 t6 r6 w6 => ?_
      obtain ⟨rfl, hz, w6⟩ := w6
      obtain ⟨Hf7, R7, s7, r7⟩ := r6.freeze (nb_md nx) R6 ek
      have nof7 := SR.leave R7 keep
      have sA : Same Hf3 Hf7 := s5.trans (s6.trans s7)
      have tA : Same H3 H6 := t5.trans t6
      have R8 := R3.grow ek sA tA R7.sub nof7
      have e6 := tA _ _ e3
      have n7 : Hf7 L = none := nof7 L (by rw [e3]; exact nofun) n3
      refine ⟨vs, e6, by rw [← r2.length]; exact hz, Hf7, acc ++ [y], vs ++ [u], R8.other n7 D0 DO, s2.trans (s3.trans sA), same_other hD (t2.trans (t3.trans tA)), upd_same, n7, ((r2.same s3).same sA).append (.one r7), w6⟩
  · have e : i = items.length := by omega
    subst e
    rw [List.drop_length] at w2
    refine .inl ⟨it.stop Hf2 H2 s2 R2.sub (fun _ => t2), kk _ ρ1 _ Hf2 H2 R2 (s1.trans s2) (t1.trans t2) (.own D0 n2 e2 r2 DO) w2⟩
end
end DL
/-! DL2: walks, comprehensions -/
namespace DL
open PySem PySem.Spec PyProof.Rows L2
/-- the same but for the frame -/
structure Like (X X' : Cx) : Prop where
  prog : X'.prog = X.prog
  w : X'.w = X.w
  K : X'.K = X.K
  mg : X'.mg = X.mg
  base : X'.base = X.base
section
variable {X : Cx} {EX : EXT} {Γ : Nat → FSp} {H0 : Ent} {E : DX → DEnv → Prop} {xa : Nat → Addr} {C : Cn} {sc : Scope}
theorem itW_seq {d : D} {P : List D → Prop} (w : itW .seq [d] P) : ∃ l, strsD d = some l ∧ P l := by
  cases d with
  | tup l => exact ⟨l, rfl, w⟩
  | lst l => exact ⟨l, rfl, w⟩
  | _ => exact (show False from w).elim
theorem si_seq (ek : EXok EX) {x : Ex} {tg e : Expr} (hx : SE X EX Γ H0 E x e) : SI X EX Γ H0 E .seq (.cons x .nil) tg e := fun ρ σ Hf H Q R S w k => by
  refine mI.of (pi_seq (PE.m e)) ?_
  refine hx ρ σ Hf H (fun d ρ1 => itW .seq [d] (Q ρ1)) _ S w fun d ρ1 v Hf1 H1 R1 s1 t1 r1 w1 => ?_
  obtain ⟨l, hl, q⟩ := itW_seq w1
  by_cases hb : nb x = true
  · obtain ⟨Hf2, R2, s2, r2⟩ := r1.freeze (nb_md hb) R1 ek
    obtain ⟨k', a, xs, rfl, hq, rs⟩ := seq_sh r2 hl
    exact ⟨k', a, xs, rfl, hq.same R2.sub, k ρ1 Hf2 H1 _ l false R2 (s1.trans s2) t1 (itD_seq (hq.same R2.sub) (fun _ => hq) rs) (fun _ => rfl) q⟩
  · obtain ⟨k', b, a, xs, rfl, hq, rs, _, h0⟩ := seq_inv r1.toB R1.sub hl
    exact ⟨k', a, xs, rfl, hq, k ρ1 Hf1 H1 _ l b R1 s1 t1 (itD_seq hq h0 rs) (fun z => absurd (show nb x = true from (Bool.and_eq_true_iff.mp (show (nb x && nbA .nil) = true from z)).1) hb) q⟩
theorem si_str {x : Ex} {tg e : Expr} (hx : SE X EX Γ H0 E x e) : SI X EX Γ H0 E .str (.cons x .nil) tg e := fun ρ σ Hf H Q R S w k => by
  refine mI.of (pi_str (PE.m e)) ?_
  refine hx ρ σ Hf H (fun d ρ1 => itW .str [d] (Q ρ1)) _ S w fun d ρ1 v Hf1 H1 R1 s1 t1 r1 w1 => ?_
  cases d with
  | str z =>
    exact ⟨z, r1.toB.str_inv, k ρ1 Hf1 H1 _ _ false R1 s1 t1 (itD_str z) (fun _ => rfl) w1⟩
  | _ => exact (show False from w1).elim
theorem itW_rng1 {ds : List D} {P : List D → Prop} (w : itW .rng1 ds P) : ∃ n, ds = [.int n] ∧ -(2 ^ 62) ≤ n ∧ n < 2 ^ 62 ∧ P ((List.range n.toNat).map fun (i : Nat) => .int (i : Int)) := by
  unfold itW at w
  split at w
  all_goals first | (exact ⟨_, rfl, w.1, w.2.1, w.2.2⟩) | exact w.elim | (rename_i z _; cases z; done) | (rename_i z; cases z; done) | simp_all
theorem itW_rng2 {ds : List D} {P : List D → Prop} (w : itW .rng2 ds P) : ∃ a b, ds = [.int a, .int b] ∧ (-(2 ^ 62) ≤ a ∧ a < 2 ^ 62 ∧ -(2 ^ 62) ≤ b ∧ b < 2 ^ 62) ∧ P ((List.range (b - a).toNat).map fun (i : Nat) => .int (a + (i : Int))) := by
  unfold itW at w
  split at w
  all_goals first | (exact ⟨_, _, rfl, w.1, w.2⟩) | exact w.elim | (rename_i z _; cases z; done) | (rename_i z; cases z; done) | simp_all
theorem si_rng1 (ek : EXok EX) (c : Cok X xa Γ C sc) {x : Ex} {tg e : Expr} {p pos : Pos} (hg : gloB sc (Str.ofString "range") = true) (hn : nst e = true) (hx : SE X EX Γ H0 E x e) : SI X EX Γ H0 E .rng1 (.cons x .nil) tg (.Call (.Name (Str.ofString "range") p) [e] [] pos) := fun ρ σ Hf H Q R S w k => by
  refine mI.of (pi_range1 (c.gl hg) (c.blt _ (by decide +kernel)) (PA.m [e]) (star_cons hn)) ?_
  refine sa_cons ek hn hx sa_nil ρ σ Hf H _ _ S w fun ds ρ1 vs Hf1 H1 R1 s1 t1 rs _ w1 => ?_
  obtain ⟨n, rfl, a, b, q⟩ := itW_rng1 w1
  cases rs with
  | cons r rs =>
    cases rs with
    | nil =>
      refine ⟨n, by rw [r.int_inv], a, b, ?_⟩
      have it := itD_rng (K := X.K) (EX := EX) (Hf0 := Hf1) (H1 := H1) 0 n.toNat
      refine k ρ1 Hf1 H1 _ _ false R1 s1 t1 it (fun _ => rfl) ?_
      simpa only [Int.zero_add] using q
theorem si_rng2 (ek : EXok EX) (c : Cok X xa Γ C sc) {x y : Ex} {tg e f : Expr} {p pos : Pos} (hg : gloB sc (Str.ofString "range") = true) (hn : nst e = true) (hn2 : nst f = true) (hx : SE X EX Γ H0 E x e) (hy : SE X EX Γ H0 E y f) :
    SI X EX Γ H0 E .rng2 (.cons x (.cons y .nil)) tg (.Call (.Name (Str.ofString "range") p) [e, f] [] pos) := fun ρ σ Hf H Q R S w k => by
  refine mI.of (pi_range2 (c.gl hg) (c.blt _ (by decide +kernel)) (PA.m [e, f]) (by rw [star_cons hn, star_cons hn2]; rfl) (by rw [star_cons hn2]; rfl)) ?_
  refine sa_cons ek hn hx (sa_cons ek hn2 hy sa_nil) ρ σ Hf H _ _ S w fun ds ρ1 vs Hf1 H1 R1 s1 t1 rs _ w1 => ?_
  obtain ⟨a, b, rfl, z, q⟩ := itW_rng2 w1
  cases rs with
  | cons r rs =>
    cases rs with
    | cons r2 rs =>
      cases rs with
      | nil => exact ⟨a, b, by rw [r.int_inv, r2.int_inv], z, k ρ1 Hf1 H1 _ _ false R1 s1 t1 (itD_rng a (b - a).toNat) (fun _ => rfl) q⟩
theorem si_en (ek : EXok EX) (c : Cok X xa Γ C sc) {x : Ex} {es : List Expr} {kk : Nat} {tp : Pos} {e : Expr} {p pos : Pos} (hg : gloB sc (Str.ofString "enumerate") = true) (hn : nst e = true) (hx : SE X EX Γ H0 E x e) :
    SI X EX Γ H0 E .en (.cons x .nil) (.Tuple es kk tp) (.Call (.Name (Str.ofString "enumerate") p) [e] [] pos) := fun ρ σ Hf H Q R S w k => by
  refine mI.of (pi_en (c.gl hg) (c.blt _ (by decide +kernel)) (PA.m [e]) (star_cons hn)) ?_
  refine sa_cons ek hn hx sa_nil ρ σ Hf H _ _ S w fun ds ρ1 vs Hf1 H1 R1 s1 t1 rs rn w1 => ?_
  have g : ∃ d, ds = [d] ∧ ∃ l, strsD d = some l ∧ Q ρ1 (enD 0 l) := by
    cases ds with
    | nil => exact (show False from w1).elim
    | cons d ds =>
      cases ds with
      | nil => exact ⟨d, rfl, w1⟩
      | cons _ _ => exact (show False from w1).elim
  obtain ⟨d, rfl, l, hl, q⟩ := g
  cases rs with
  | cons r rs =>
    cases rs with
    | nil =>
      by_cases hb : nbA (.cons x .nil) = true
      · cases rn hb with
        | cons r' _ =>
          obtain ⟨k', a, xs, rfl, hq, rs⟩ := seq_sh r' hl
          exact ⟨k', a, xs, rfl, hq.same R1.sub, k ρ1 Hf1 H1 _ _ false R1 s1 t1 (itD_en ek (hq.same R1.sub) (fun _ => hq) rs) (fun _ => rfl) q⟩
      · obtain ⟨k', b, a, xs, rfl, hq, rs, _, h0⟩ := seq_inv r R1.sub hl
        exact ⟨k', a, xs, rfl, hq, k ρ1 Hf1 H1 _ _ b R1 s1 t1 (itD_en ek hq h0 rs) (fun z => absurd z hb) q⟩
theorem sts_nil : STs X EX Γ H0 E .nil [] := fun ρ σ Hf H Q QB R w k => mTs.of pts_nil (k true ρ Hf H R (Same.refl _) (Same.refl _) w)
theorem sts_one {x : Ex} {e : Expr} (h : ST X EX Γ H0 E x e) : STs X EX Γ H0 E (.cons x .nil) [e] := fun ρ σ Hf H Q QB R w k => mTs.of (pts_one (PT.m e)) (h ρ σ Hf H Q QB R w k)
theorem nset_fold {iter : Expr} {env : Env} (h : nset iter = true) : ∀ x, foldedSetIterable iter env x = pure x := fun x => by
  cases iter <;> first | rfl | (cases h; done)
/-- the block of a comprehension -/
theorem Cok.blk (c : Cok X xa Γ C sc) (s : Shared) (H : Hp) (scope : Scope) (cl : List (Str × Addr)) (L : Addr) (fp : List Addr) : Cok (X.blk s H scope (compEnvC scope cl L X.env) fp) xa Γ C (relS scope sc) where
  N := c.N
  nd := c.nd
  scp := by
    show (compEnvC scope cl L X.env).scope = relS scope sc
    rw [← c.scp]; rfl
  calm := c.calm
  room := c.room
  fns := c.fns
  blt := c.blt
theorem Gok.blk (c : Cok X xa Γ C sc) (s : Shared) (H : Hp) (scope : Scope) (cl : List (Str × Addr)) (L : Addr) (fp : List Addr) : Gok (X.blk s H scope (compEnvC scope cl L X.env) fp) C.N (some scope) (relS scope sc) where
  hN := c.N
  nd := c.nd
  scp := (c.blk s H scope cl L fp).scp
  calm := c.calm
  fn := fun x h => by
    have h' := of_decide_eq_true h
    show (scope.names.lookup x == some .cell) = true
    rw [h']; rfl
theorem takesF {K : PySem.W.Frag} : Takes X (lowW K EX H0 xa (fun _ _ => False)) → True := fun _ => trivial
theorem takes_blk {X' : Cx} {H0 : Ent} : Takes X' (lowW X.K EX H0 xa (fun _ _ => False)) := takes0.imp fun _ _ _ _ h => by
  obtain ⟨_, _, _, _, _, _, _, _, _, _, _, z⟩ := h
  exact z
theorem tLc_ok (ek : EXok EX) (c : Cok X xa Γ C sc) {g : Tg} {k : ItK} {l t : Exs} {x : Ex} {tg iter elt : Expr} {ifs : List Expr} {scope : Scope} (ho : (ownOf C.N g.slots).map (·.2) = g.slots) (nx : nb x = true) (hcg : ckG C.N (some scope) (relS scope sc) g tg = true)
    (hI : SI X EX Γ H0 E k l tg iter) (hT : ∀ (X' : Cx) (H0 : Ent), Like X X' → Cok X' xa Γ C (relS scope sc) → Takes X' (lowW X.K EX H0 xa (fun _ _ => False)) → STs X' EX Γ H0 (fun _ _ => False) t ifs)
    (hE : ∀ (X' : Cx) (H0 : Ent), Like X X' → Cok X' xa Γ C (relS scope sc) → Takes X' (lowW X.K EX H0 xa (fun _ _ => False)) → SE X' EX Γ H0 (fun _ _ => False) x elt)
    {ρ : DEnv} {σ : L2.St} {Hf H : Hp} {Q : D → DEnv → Prop} {QV : VK} (R : SR X.K EX H0 ρ σ Hf H) (w : wE Γ E (.lc g k l t x) ρ Q)
    (kk : ∀ d ρ' v Hf' H', SR X.K EX H0 ρ' σ Hf' H' → Same Hf Hf' → Same H H' → RepF X.K H0 ρ' σ Hf' H' d v → Q d ρ' → QV v H') :
    tLc (mI X tg iter) (fun v σ H' Q => ∀ s H C cl fp, mG (X.blk s H scope (compEnvC scope cl C X.env) fp) tg v σ H' Q) (fun σ H' Q => ∀ s H C cl fp, mTs (X.blk s H scope (compEnvC scope cl C X.env) fp) ifs σ H' Q)
      (fun σ H' Q => ∀ s H C cl fp, mE (X.blk s H scope (compEnvC scope cl C X.env) fp) elt σ H' Q) ((ownOf C.N g.slots).map (·.2)) σ H QV :=
  lc_core' ek ho nx hI (fun s H L cl fp H0 ρ σ Hf H' d v Q QS R r w kg => sg (Gok.blk c s H scope cl L fp) g tg hcg ρ σ Hf H' d v Q QS R r w kg)
    (fun s H L cl fp H0 => hT _ H0 ⟨rfl, rfl, rfl, rfl, rfl⟩ (c.blk s H scope cl L fp) takes_blk) (fun s H L cl fp H0 => hE _ H0 ⟨rfl, rfl, rfl, rfl, rfl⟩ (c.blk s H scope cl L fp) takes_blk) R w kk
/-- the parts of a block, at every block -/
def bG (X : Cx) (scope : Scope) (tg : Expr) : TG := fun v σ H' Q => ∀ s H C cl fp, mG (X.blk s H scope (compEnvC scope cl C X.env) fp) tg v σ H' Q
def bT (X : Cx) (scope : Scope) (ifs : List Expr) : TT := fun σ H' Q => ∀ s H C cl fp, mTs (X.blk s H scope (compEnvC scope cl C X.env) fp) ifs σ H' Q
def bE (X : Cx) (scope : Scope) (elt : Expr) : TE := fun σ H' Q => ∀ s H C cl fp, mE (X.blk s H scope (compEnvC scope cl C X.env) fp) elt σ H' Q
theorem bG_ok {scope : Scope} {tg : Expr} (s : Shared) (H : Hp) (L : Addr) (cl : List (Str × Addr)) (fp : List Addr) : PG (X.blk s H scope (compEnvC scope cl L X.env) fp) tg (bG X scope tg) := ⟨fun pins s' σ H' v u Q I r h => (PG.m tg).run pins s' σ H' v u Q I r (h s H L cl fp)⟩
theorem bT_ok {scope : Scope} {ifs : List Expr} (s : Shared) (H : Hp) (L : Addr) (cl : List (Str × Addr)) (fp : List Addr) : PTs (X.blk s H scope (compEnvC scope cl L X.env) fp) ifs (bT X scope ifs) := ⟨fun pins s' σ H' Q I h => h s H L cl fp pins s' I⟩
theorem bE_ok {scope : Scope} {elt : Expr} (s : Shared) (H : Hp) (L : Addr) (cl : List (Str × Addr)) (fp : List Addr) : PE (X.blk s H scope (compEnvC scope cl L X.env) fp) elt (bE X scope elt) := ⟨fun pins s' σ H' Q I h => h s H L cl fp pins s' I⟩
theorem se_lc (ek : EXok EX) (c : Cok X xa Γ C sc) {g : Tg} {k : ItK} {l t : Exs} {x : Ex} {tg iter elt : Expr} {ifs : List Expr} {scope : Scope} {pos : Pos} (ho : (ownOf C.N g.slots).map (·.2) = g.slots) (nx : nb x = true) (hcg : ckG C.N (some scope) (relS scope sc) g tg = true)
    (hs : nset iter = true) (hb : blkC C.N sc scope (ownOf C.N g.slots) = true)
    (hI : SI X EX Γ H0 E k l tg iter) (hT : ∀ (X' : Cx) (H0 : Ent), Like X X' → Cok X' xa Γ C (relS scope sc) → Takes X' (lowW X.K EX H0 xa (fun _ _ => False)) → STs X' EX Γ H0 (fun _ _ => False) t ifs)
    (hE : ∀ (X' : Cx) (H0 : Ent), Like X X' → Cok X' xa Γ C (relS scope sc) → Takes X' (lowW X.K EX H0 xa (fun _ _ => False)) → SE X' EX Γ H0 (fun _ _ => False) x elt) :
    SE X EX Γ H0 E (.lc g k l t x) (.ListComp elt [⟨tg, iter, ifs, 0⟩] scope pos) := fun ρ σ Hf H Q QV R w kk => by
  refine mE.of (pe_lc (own := ownOf C.N g.slots) c.calm (by rw [c.N]; exact c.nd) (PI.m tg iter) (blkOk_by (by rw [c.N, c.scp]; exact hb)) bG_ok bT_ok bE_ok (nset_fold hs)) ?_
  exact tLc_ok ek c ho nx hcg hI hT hE R w kk
end
end DL
/-! DM: calls with keywords or with borrowed arguments, displays of dicts -/
namespace DL
open PySem PySem.Spec PyProof.Rows L2
theorem flat_rep {K : PySem.W.Frag} {H H' : Hp} {d : D} {v : V} (f : flatD d = true) (r : Rep K H d v) : Rep K H' d v := by
  cases r with
  | non => exact .non
  | bl => exact .bl _
  | int => exact .int _
  | str => exact .str _
  | _ => cases f
theorem flat_repX {K : PySem.W.Frag} {H H' : Hp} : ∀ {l : List (Str × D)} {xs : List (Str × V)}, (∀ p ∈ l, flatD p.2 = true) → RepX K H l xs → RepX K H' l xs
  | _, _, _, .nil => .nil
  | _, _, f, .cons r t => .cons (flat_rep (f _ List.mem_cons_self) r) (flat_repX (fun p h => f p (List.mem_cons_of_mem _ h)) t)
theorem Reps.pick {K : PySem.W.Frag} {H : Hp} {ds : List D} {vs : List V} (r : Reps K H ds vs) : ∀ pm : List Nat, Reps K H (pm.filterMap fun j => ds[j]?) (pm.filterMap fun j => vs[j]?)
  | [] => .nil
  | j :: pm => by
    have ih := Reps.pick r pm
    rw [List.filterMap_cons, List.filterMap_cons]
    cases e : ds[j]? with
    | none =>
      have : vs[j]? = none := by rw [List.getElem?_eq_none_iff] at e ⊢; rw [← r.length]; exact e
      rw [this]; exact ih
    | some d =>
      obtain ⟨v, hv, rv⟩ := r.get e
      rw [hv]; exact .cons rv ih
theorem vals_pick {vs : List V} {us : List Value} (r : Vals vs us) : ∀ pm : List Nat, Vals (pm.filterMap fun j => vs[j]?) (pm.filterMap fun j => us[j]?)
  | [] => .nil
  | j :: pm => by
    have ih := vals_pick r pm
    rw [List.filterMap_cons, List.filterMap_cons]
    cases e : vs[j]? with
    | none =>
      have : us[j]? = none := by rw [List.getElem?_eq_none_iff] at e ⊢; rw [← r.length]; exact e
      rw [this]; exact ih
    | some d =>
      obtain ⟨v, hv, rv⟩ := r.get e
      rw [hv]; exact .cons rv ih
section
variable {X : Cx} {CX : CXT} {k : Nat} {f : Addr} {fd : FuncData} {ps ks : List Str} {pm : List Nat} {sp : Sp} {E : L2.St → XK} {x : Str} {p pos : Pos} {kws : List Keyword} {t : TA}
theorem pe_callS0 (F : FnOk X.prog X.w X.K X.mg X.base CX k f fd ps sp) (hr : Room k X.A) (hg : Gl X x) (hm : X.mg x = some (.ref f)) (hk : PySem.W.keepIn X.K (.ref f) = true) (hb : Binds X.K fd ps []) (hx : ∀ σ, PassesAt CX X σ (E σ))
    (hdb : (x == ("__debug__" : Str)) = false) : PE X (.Call (.Name x p) [] [] pos) (tCallS sp E tNil) := by
  refine ⟨fun pins s σ H Q I h => ?_⟩
  refine wpAny_Call_Name_kw (ld_glob I hg hm ?_ hdb)
  exact PySem.W.callWith_K0 I.kIn hk (run_fnS (us := []) F hr hb (hx σ) I .nil h)
/-- how a call with keywords alone binds -/
def KB (K : PySem.W.Frag) (fd : FuncData) (ps ks : List Str) (pm : List Nat) : Prop := ∀ (s : Shared) (ws : List Value), K.In s.heap → ws.length = ks.length → BindsTo s fd ⟨[], ks.zip ws⟩ (ps.zip (pm.filterMap fun j => ws[j]?))
def tCallKS (sp : Sp) (n : Nat) (pm : List Nat) (E : L2.St → XK) (t : TA) : TE := fun σ H Q => t σ H fun zs H2 => zs.length = n ∧ sp (pm.filterMap fun j => zs[j]?) H2 Q (E σ)
theorem pe_callKS (F : FnOk X.prog X.w X.K X.mg X.base CX k f fd ps sp) (hr : Room k X.A) (hg : Gl X x) (hm : X.mg x = some (.ref f)) (hk : PySem.W.keepIn X.K (.ref f) = true) (hb : KB X.K fd ps ks pm) (hx : ∀ σ, PassesAt CX X σ (E σ))
    (hkw : PK X kws t) (hall : (backToKw pos (keywordEach kws X.env)).all (·.1.isSome) = true) (hks : (backToKw pos (keywordEach kws X.env)).filterMap (·.1) = ks) (hno : (backToKw pos (keywordEach kws X.env)).any (·.1.isNone) = false)
    (hdb : (x == ("__debug__" : Str)) = false) : PE X (.Call (.Name x p) [] kws pos) (tCallKS sp ks.length pm E t) := by
  refine ⟨fun pins s σ H Q I h => ?_⟩
  refine wpAny_Call_Name_kw (ld_glob I hg hm ?_ hdb)
  refine PySem.W.callWith_KW0 (h₀ := X.base) I.ok.mod.kin hk hall (thn (hkw.run pos pins s σ H _ I h) fun ws s2 ⟨zs, H2, I2, rz, hz, q2⟩ => ⟨I2.kIn, ?_⟩) (by rw [hno]; rfl)
  rw [hks]
  have r2 := vals_pick rz pm
  refine wpAny_call (codeAny_mono (F.run X.A X.stack s2 H2 ⟨[], ks.zip ws⟩ (pm.filterMap fun j => ws[j]?) (pm.filterMap fun j => zs[j]?) Q (E σ) hr I2.env0 (hb s2 ws I2.kIn (by rw [← rz.length]; exact hz)) r2 q2) fun r s' hq => ?_)
  cases r with
  | error e => exact hx σ pins H2 s2 e s' I2 hq
  | ok fl =>
    cases fl with
    | ret u => exact I2.after hq
    | next => exact False.elim hq
    | brk => exact False.elim hq
    | cont => exact False.elim hq
end
section
variable {X : Cx} {EX : EXT} {Γ : Nat → FSp} {H0 : Ent} {E : DX → DEnv → Prop} {xa : Nat → Addr} {C : Cn} {sc : Scope}
/-- a def keeps its promise when called with keywords -/
def FDK (X : Cx) (xa : Nat → Addr) (Γ : Nat → FSp) (C : Cn) (f : Nat) (ks : List Str) (pm : List Nat) : Prop :=
  ∃ (fa : Addr) (fd : FuncData) (ps : List Str), X.mg (C.nm f) = some (.ref fa) ∧ PySem.W.keepIn X.K (.ref fa) = true ∧ KB X.K fd ps ks pm ∧ FnOk X.prog X.w X.K X.mg X.base (L2.CX X.prog X.w) (C.lv f) fa fd ps (low X.K xa (Γ f))
theorem RepBs.reps {K : PySem.W.Frag} {Hf H : Hp} (s : Same Hf H) : ∀ {ds : List D} {vs : List V}, RepBs K Hf H ds vs → Reps K H ds vs
  | _, _, .nil => .nil
  | _, _, .cons r t => .cons (r.rep s) (RepBs.reps s t)
theorem call_core (ek : EXok EX) {f : Nat} {ds : List D} {vs : List V} {ρ1 : DEnv} {σ : L2.St} {Hf1 H1 : Hp} {Q : D → DEnv → Prop} {QV : VK} (R1 : SR X.K EX H0 ρ1 σ Hf1 H1) (rs : Reps X.K Hf1 ds vs)
    (w : Γ f ds (fun d => Q d ρ1) fun dx => E dx ρ1) (k : ∀ d v Hf' H', SR X.K EX H0 ρ1 σ Hf' H' → Same Hf1 Hf' → Same H1 H' → Rep X.K Hf' d v → Q d ρ1 → QV v H') :
    low X.K xa (Γ f) vs H1 QV (WE (lowW X.K EX H0 xa E) σ) :=
  ⟨ds, _, _, Hf1, R1.sub, rs, w, fun d v Hf2 H2 a1 a2 a3 a4 r q => k d v Hf2 H2 (R1.grow ek a2 a1 a3 a4) a2 a1 r q, fun cl l' dd xs Hf2 H2 a1 a2 a3 a4 hx rx q => ⟨cl, l', dd, xs, ρ1, Hf2, rfl, rfl, R1.grow ek a2 a1 a3 a4, hx, rx, q⟩⟩
theorem callB_core (ek : EXok EX) {f : Nat} {ds : List D} {vs : List V} {ρ1 : DEnv} {σ : L2.St} {Hf1 H1 : Hp} {Q : D → DEnv → Prop} {QV : VK} (R1 : SR X.K EX H0 ρ1 σ Hf1 H1) (rs : RepBs X.K Hf1 H1 ds vs)
    (w : Γ f ds (fun d => flatD d = true ∧ Q d ρ1) fun dx => (∀ p ∈ dx.2, flatD p.2 = true) ∧ E dx ρ1) (k : ∀ d v H', SR X.K EX H0 ρ1 σ Hf1 H' → Same H1 H' → Rep X.K Hf1 d v → Q d ρ1 → QV v H') :
    low X.K xa (Γ f) vs H1 QV (WE (lowW X.K EX H0 xa E) σ) := by
  have rr : Reps X.K H1 ds vs := rs.reps R1.sub
  exact ⟨ds, _, _, H1, Same.refl _, rr, w, fun d v Hf2 H2 a1 a2 a3 a4 r q => k d v H2 (R1.grow ek (Same.refl _) a1 (R1.sub.trans a1) fun _ _ z => z) a1 (flat_rep q.1 r) q.2,
    fun cl l' dd xs Hf2 H2 a1 a2 a3 a4 hx rx q => ⟨cl, l', dd, xs, ρ1, Hf1, rfl, rfl, R1.grow ek (Same.refl _) a1 (R1.sub.trans a1) fun _ _ z => z, hx, flat_repX q.1 rx, q.2⟩⟩
theorem se_call0 (ek : EXok EX) (c : Cok X xa Γ C sc) (tk : Takes X (lowW X.K EX H0 xa E)) {f : Nat} {x : Str} {p pos : Pos} (hx : x = C.nm f) (hg : gloB sc x = true) (hd : (x == ("__debug__" : Str)) = false) (hl : C.lv f ≤ C.k) (hf : f ∈ C.dep) :
    SE X EX Γ H0 E (.call f .nil) (.Call (.Name x p) [] [] pos) := fun ρ σ Hf H Q QV R w k => by
  obtain ⟨fa, fd, ps, hm, hk, hb, F⟩ := c.fns f hf
  subst hx
  refine mE.of (pe_callS0 F (c.room.mono hl) (c.gl hg) hm hk hb (fun σ => passAt tk σ) hd) ?_
  exact call_core ek R .nil w fun d v Hf' H' R' s t r q => k d ρ v Hf' H' R' s t r q
theorem se_callB0 (ek : EXok EX) (c : Cok X xa Γ C sc) (tk : Takes X (lowW X.K EX H0 xa E)) {f : Nat} {x : Str} {p pos : Pos} (hx : x = C.nm f) (hg : gloB sc x = true) (hd : (x == ("__debug__" : Str)) = false) (hl : C.lv f ≤ C.k) (hf : f ∈ C.dep) :
    SE X EX Γ H0 E (.callB f .nil) (.Call (.Name x p) [] [] pos) := fun ρ σ Hf H Q QV R w k => by
  obtain ⟨fa, fd, ps, hm, hk, hb, F⟩ := c.fns f hf
  subst hx
  refine mE.of (pe_callS0 F (c.room.mono hl) (c.gl hg) hm hk hb (fun σ => passAt tk σ) hd) ?_
  exact callB_core ek R .nil w fun d v H' R' t r q => k d ρ v Hf H' R' (Same.refl _) t r q
theorem se_callB (ek : EXok EX) (c : Cok X xa Γ C sc) (tk : Takes X (lowW X.K EX H0 xa E)) {f : Nat} {l : Exs} {x : Str} {p pos : Pos} {e : Expr} {es : List Expr} (hx : x = C.nm f) (hg : gloB sc x = true) (hd : (x == ("__debug__" : Str)) = false) (hl : C.lv f ≤ C.k) (hf : f ∈ C.dep) (hck : ckA C sc l (e :: es) = true)
    (h : SA X EX Γ H0 E l (e :: es)) : SE X EX Γ H0 E (.callB f l) (.Call (.Name x p) (e :: es) [] pos) := fun ρ σ Hf H Q QV R w k => by
  obtain ⟨fa, fd, ps, hm, hk, hb, F⟩ := c.fns f hf
  subst hx
  obtain ⟨z1, z2⟩ := args_plain (env := X.env) (pos := pos) hck
  refine mE.of (pe_callS F (c.room.mono hl) (c.gl hg) hm hk hb (fun σ => passAt tk σ) (PA.m (e :: es)) hd z1 z2) ?_
  refine h ρ σ Hf H _ _ R w fun ds ρ1 vs Hf1 H1 R1 s1 t1 rs _ w1 => ?_
  exact callB_core ek R1 rs w1 fun d v H' R' t r q => k d ρ1 v Hf1 H' R' s1 (t1.trans t) r q
/-- keywords -/
def mK (X : Cx) (kws : List Keyword) : TA := fun σ H Q => ∀ (pos : Pos) (pins : List (Addr × Obj)) (s : Shared), Inv X pins σ H s → wpAny (model X.prog X.w) X.A (evalAll ((backToKw pos (keywordEach kws X.env)).map (·.2))) (AP X pins σ Q) X.xe s
theorem PK.m (kws : List Keyword) : PK X kws (mK X kws) := ⟨fun pos pins s σ H Q I h => h pos pins s I⟩
theorem mK.of {kws : List Keyword} {t : TA} (h : PK X kws t) {σ : L2.St} {H : Hp} {Q : List V → Hp → Prop} (q : t σ H Q) : mK X kws σ H Q := fun pos pins s I => h.run pos pins s σ H Q I q
def SK (X : Cx) (EX : EXT) (Γ : Nat → FSp) (H0 : Ent) (E : DX → DEnv → Prop) (l : Exs) (es : List Keyword) : Prop := ∀ (ρ : DEnv) (σ : L2.St) (Hf H : Hp) (Q : List D → DEnv → Prop) (QA : List V → Hp → Prop), SR X.K EX H0 ρ σ Hf H → wA Γ E l ρ Q →
  (∀ ds ρ' vs Hf' H', SR X.K EX H0 ρ' σ Hf' H' → Same Hf Hf' → Same H H' → Reps X.K Hf' ds vs → Q ds ρ' → QA vs H') → mK X es σ H QA
theorem sk_nil : SK X EX Γ H0 E .nil [] := fun ρ σ Hf H Q QA R w k => mK.of pk_nil (k [] ρ [] Hf H R (Same.refl _) (Same.refl _) .nil w)
theorem sk_cons (ek : EXok EX) {x : Ex} {l : Exs} {e : Keyword} {es : List Keyword} (n : nb x = true) (hx : SE X EX Γ H0 E x e.value) (hl : SK X EX Γ H0 E l es) : SK X EX Γ H0 E (.cons x l) (e :: es) := fun ρ σ Hf H Q QA R w k => by
  obtain ⟨nm, ex, kp⟩ := e
  refine mK.of (pk_cons (PE.m ex) (PK.m es)) ?_
  refine hx ρ σ Hf H _ _ R w fun d1 ρ1 v1 Hf1 H1 R1 s1 t1 r1 w1 => ?_
  obtain ⟨Hf1', R1', s1', r1'⟩ := r1.freeze (nb_md n) R1 ek
  refine hl ρ1 σ Hf1' H1 _ _ R1' w1 fun ds ρ2 vs Hf2 H2 R2 s2 t2 rs w2 => ?_
  exact k (d1 :: ds) ρ2 (v1 :: vs) Hf2 H2 R2 (s1.trans (s1'.trans s2)) (t1.trans t2) (.cons (r1'.same s2) rs) w2
theorem kw_facts {env : Env} {pos : Pos} : ∀ {kws : List Keyword} {ks : List Str}, kws.map (·.arg) = ks.map some → (backToKw pos (keywordEach kws env)).all (·.1.isSome) = true ∧ (backToKw pos (keywordEach kws env)).filterMap (·.1) = ks ∧ (backToKw pos (keywordEach kws env)).any (·.1.isNone) = false
  | [], [], _ => ⟨rfl, rfl, rfl⟩
  | [], _ :: _, h => by cases h
  | _ :: _, [], h => by cases h
  | ⟨a, e, p⟩ :: kws, k :: ks, h => by
    rw [List.map_cons, List.map_cons] at h
    injection h with h1 h2
    have h1 : a = some k := h1
    subst h1
    obtain ⟨a1, a2, a3⟩ := kw_facts (env := env) (pos := pos) h2
    have e1 : backToKw pos (keywordEach (⟨some k, e, p⟩ :: kws) env) = (some k, (do let v ← eval e env; standAt pos; pure v)) :: backToKw pos (keywordEach kws env) := rfl
    rw [e1]
    exact ⟨by rw [List.all_cons, a1]; rfl, by rw [List.filterMap_cons]; exact congrArg _ a2, by rw [List.any_cons, a3]; rfl⟩
theorem se_callK (ek : EXok EX) (c : Cok X xa Γ C sc) (tk : Takes X (lowW X.K EX H0 xa E)) {f : Nat} {ks : List Str} {pm : List Nat} {l : Exs} {x : Str} {p pos : Pos} {kws : List Keyword} (hf : FDK X xa Γ C f ks pm) (hx : x = C.nm f) (hg : gloB sc x = true) (hd : (x == ("__debug__" : Str)) = false) (hl : C.lv f ≤ C.k) (hks : kws.map (·.arg) = ks.map some)
    (h : SK X EX Γ H0 E l kws) : SE X EX Γ H0 E (.callK f ks pm l) (.Call (.Name x p) [] kws pos) := fun ρ σ Hf H Q QV R w k => by
  obtain ⟨fa, fd, ps, hm, hk, hb, F⟩ := hf
  subst hx
  obtain ⟨z1, z2, z3⟩ := kw_facts (env := X.env) (pos := pos) hks
  refine mE.of (pe_callKS F (c.room.mono hl) (c.gl hg) hm hk hb (fun σ => passAt tk σ) (PK.m kws) z1 z2 z3 hd) ?_
  refine h ρ σ Hf H _ _ R w fun ds ρ1 vs Hf1 H1 R1 s1 t1 rs w1 => ⟨by rw [← rs.length]; exact w1.1, ?_⟩
  exact call_core ek R1 (rs.pick pm) w1.2 fun d v Hf' H' R' s t r q => k d ρ1 v Hf' H' R' (s1.trans s) (t1.trans t) r q
/-- an own dict, new -/
theorem se_dnew (ek : EXok EX) {pos : Pos} : SE X EX Γ H0 E .dnew (.Dict [] [] pos) := fun ρ σ Hf H Q QV R w k => by
  refine mE.of pe_dnewK ?_
  intro p hp
  exact k _ ρ _ Hf _ (R.newO ek hp _) (Same.refl _) (same_new hp _) (RepF.ownK (R.ent.free hp) (R.fresh hp) upd_same .nil (R.notOwn hp)) w
end
end DL
/-! DN: every expression that is checked keeps to what is asked of it -/
namespace DL
open PySem PySem.Spec PyProof.Rows L2
theorem mergeK_new : ∀ {more acc : List (Key × V)}, ((acc ++ more).map (·.1)).Nodup → mergeK acc more = acc ++ more
  | [], acc, _ => by rw [List.append_nil]; rfl
  | p :: r, acc, h => by
    have hp : (acc.any fun kv => decide (kv.1 = p.1)) = false := by
      rw [Bool.eq_false_iff]
      intro z
      obtain ⟨q, hq, e⟩ := List.any_eq_true.mp z
      have e := of_decide_eq_true e
      rw [List.map_append, List.nodup_append] at h
      exact h.2.2 q.1 (List.mem_map_of_mem hq) p.1 (by simp) e
    have e1 : putK acc p.1 p.2 = acc ++ [p] := by unfold putK; rw [if_neg (by rw [hp]; exact Bool.false_ne_true)]
    show mergeK (putK acc p.1 p.2) r = _
    rw [e1, mergeK_new (by rw [List.append_assoc]; exact h), List.append_assoc]
    rfl
section
variable {X : Cx} {EX : EXT} {Γ : Nat → FSp} {H0 : Ent} {E : DX → DEnv → Prop} {xa : Nat → Addr} {C : Cn} {sc : Scope}
def SPr (X : Cx) (EX : EXT) (Γ : Nat → FSp) (H0 : Ent) (E : DX → DEnv → Prop) (l : Exs) (es : List Expr) : Prop := ∀ (ks : List Str) (ρ : DEnv) (σ : L2.St) (Hf H : Hp) (Q : List D → DEnv → Prop) (QP : List (V × V) → Hp → Prop), ks.length = es.length → SR X.K EX H0 ρ σ Hf H → wA Γ E l ρ Q →
  (∀ ds ρ' vs Hf' H', SR X.K EX H0 ρ' σ Hf' H' → Same Hf Hf' → Same H H' → Reps X.K Hf' ds vs → Q ds ρ' → ds.length = ks.length → QP (List.zipWith (fun k v => (V.str k, v)) ks vs) H') → tPairs (List.zipWith (fun k e => (tC (.str k), mE X e)) ks es) σ H QP
theorem spr_nil : SPr X EX Γ H0 E .nil [] := fun ks ρ σ Hf H Q QP hl R w k => by
  cases ks with
  | nil => exact k [] ρ [] Hf H R (Same.refl _) (Same.refl _) .nil w rfl
  | cons _ _ => cases hl
theorem spr_cons (ek : EXok EX) {x : Ex} {l : Exs} {e : Expr} {es : List Expr} (n : nb x = true) (hx : SE X EX Γ H0 E x e) (hl : SPr X EX Γ H0 E l es) : SPr X EX Γ H0 E (.cons x l) (e :: es) := fun ks ρ σ Hf H Q QP hk R w k => by
  cases ks with
  | nil => cases hk
  | cons k0 ks =>
    show mE X e σ H _
    refine hx ρ σ Hf H _ _ R w fun d1 ρ1 v1 Hf1 H1 R1 s1 t1 r1 w1 => ?_
    obtain ⟨Hf1', R1', s1', r1'⟩ := r1.freeze (nb_md n) R1 ek
    refine hl ks ρ1 σ Hf1' H1 _ _ (by simpa using hk) R1' w1 fun ds ρ2 vs Hf2 H2 R2 s2 t2 rs w2 hlen => ?_
    exact k (d1 :: ds) ρ2 (v1 :: vs) Hf2 H2 R2 (s1.trans (s1'.trans s2)) (t1.trans t2) (.cons (r1'.same s2) rs) w2 (congrArg (· + 1) hlen)
theorem pps_of {pos : Pos} : ∀ {keys : List (Option Expr)} {ks : List Str} {es : List Expr}, keys.length = es.length → ks.length = keys.length → ((keys.zip ks).all fun p => match p.1 with
      | some (.Constant (.str x) _ _) => decide (x = p.2)
      | _ => false) = true → PPs X pos keys es (List.zipWith (fun k e => (tC (.str k), mE X e)) ks es)
  | [], [], [], _, _, _ => pps_nil
  | some k :: keys, k0 :: ks, e :: es, h1, h2, h => by
    rw [List.zip_cons_cons, List.all_cons, Bool.and_eq_true] at h
    have ih := pps_of (pos := pos) (keys := keys) (ks := ks) (es := es) (by simpa using h1) (by simpa using h2) h.2
    obtain ⟨h, _⟩ := h
    split at h
    · rename_i x a b ee
      injection ee with ee
      subst ee
      have ex := of_decide_eq_true h
      have ex : x = k0 := ex
      subst ex
      exact pps_cons pe_str (PE.m e) ih
    · cases h
  | none :: keys, k0 :: ks, e :: es, h1, h2, h => by
    rw [List.zip_cons_cons, List.all_cons, Bool.and_eq_true] at h
    exact absurd h.1 Bool.false_ne_true
theorem zip_rep {K : PySem.W.Frag} {H : Hp} : ∀ {ks : List Str} {ds : List D} {vs : List V}, Reps K H ds vs → RepK K H (List.zipWith (fun k d => ((Sum.inr k : Key), d)) ks ds) (List.zipWith (fun k v => ((Sum.inr k : Key), v)) ks vs)
  | [], _, _, _ => .nil
  | _ :: _, _, _, .nil => .nil
  | k :: ks, _, _, .cons r t => .cons r (zip_rep t)
theorem zip_pairs : ∀ (ks : List Str) (vs : List V), List.zipWith (fun k v => (V.str k, v)) ks vs = (List.zipWith (fun k v => ((Sum.inr k : Key), v)) ks vs).map fun kv => (kV kv.1, kv.2)
  | [], _ => rfl
  | _ :: _, [] => rfl
  | k :: ks, v :: vs => by
    have ih := zip_pairs ks vs
    show (V.str k, v) :: _ = (kV (Sum.inr k), v) :: _
    rw [ih]; rfl
theorem zip_keys : ∀ (ks : List Str) (vs : List V), ((List.zipWith (fun k v => ((Sum.inr k : Key), v)) ks vs).map (·.1)).Sublist (ks.map Sum.inr)
  | [], _ => List.Sublist.refl _
  | _ :: _, [] => List.nil_sublist _
  | k :: ks, v :: vs => (zip_keys ks vs).cons_cons _
theorem se_dsp (ek : EXok EX) {ks : List Str} {l : Exs} {keys : List (Option Expr)} {es : List Expr} {pos : Pos} (h1 : keys.length = es.length) (h2 : ks.length = keys.length) (hd : ks.Nodup) (h15 : keys.length ≤ 15) (hne : keys ≠ [])
    (hk : ((keys.zip ks).all fun p => match p.1 with
      | some (.Constant (.str x) _ _) => decide (x = p.2)
      | _ => false) = true) (h : ∀ H0, SPr X EX Γ H0 (fun _ _ => False) l es) : SE X EX Γ H0 E (.dsp ks l) (.Dict keys es pos) := fun ρ σ Hf H Q QV R w k => by
  have hall : keys.all (·.isSome) = true := by
    rw [List.all_eq_true]
    intro o ho
    obtain ⟨i, hi, e⟩ := List.getElem_of_mem ho
    have z := List.all_eq_true.mp hk (o, ks[i]'(by omega)) (by
      rw [List.mem_iff_getElem]
      exact ⟨i, by simp; omega, by simp [e]⟩)
    cases o with
    | none => cases z
    | some _ => rfl
  refine mE.of (pe_disp (pps_of h1 h2 hk) hall h1 hne h15) ?_
  intro p hp
  have R0 := R.newO ek hp (.dK [])
  refine h _ ks ρ σ Hf _ _ _ (h2.trans h1) R0.enter w fun ds ρ1 vs Hf1 H1 R1 s1 t1 rs w1 hl => ?_
  obtain ⟨rfl, w1⟩ := w1
  have nof := SR.leave R1 fun i s e o => ⟨e, rfl⟩
  have R2 := R0.grow ek s1 t1 R1.sub nof
  have hp1 : H1 p = some (.dK []) := t1 _ _ upd_same
  have n0 : Hf1 p = none := nof p (by rw [upd_same]; exact nofun) (R.fresh hp)
  have hz : H0.h p = none := R.ent.free hp
  have no := R.notOwn hp
  refine ⟨hp1, _, zip_pairs ks vs, ?_, ?_⟩
  · rw [List.length_zipWith]; omega
  · have hnd : (ks.map (Sum.inr : Str → Key)).Nodup := by
      unfold List.Nodup at hd ⊢
      rw [List.pairwise_map]
      exact hd.imp fun n e => n (Sum.inr.inj e)
    rw [mergeK_new (by rw [List.nil_append]; exact hnd.sublist (zip_keys ks vs)), List.nil_append]
    exact k _ ρ1 _ Hf1 _ (R2.other n0 hz no) s1 (same_other hp ((same_new hp _).trans t1)) (RepF.ownK hz n0 upd_same (zip_rep rs) no) w1
end
end DL
/-! DO: every expression that is checked keeps to what is asked of it -/
namespace DL
open PySem PySem.Spec PyProof.Rows L2
theorem of_and {a b : Bool} (h : (a && b) = true) : a = true ∧ b = true := Bool.and_eq_true_iff.mp h
theorem of_not {a : Bool} (h : (!a) = true) : a = false := by simpa using h
section
variable {EX : EXT} {Γ : Nat → FSp} {xa : Nat → Addr} {C : Cn}
theorem se_wk {X : Cx} {H0 : Ent} {E : DX → DEnv → Prop} {x : Ex} {e : Expr} (m : md x = .sh) (h : SE X EX Γ H0 E x e) : SE X EX Γ H0 E (.wk x) e := fun ρ σ Hf H Q QV R w k => by
  refine h ρ σ Hf H _ _ R w fun d ρ1 v Hf1 H1 R1 s1 t1 r1 w1 => ?_
  rw [m] at r1
  obtain ⟨d', hd, q⟩ := w1
  exact k d' ρ1 v Hf1 H1 R1 s1 t1 (hd _ _ _ r1) q
/-- what stands at every place: the context, the keyword calls, what is taken of exceptions -/
structure Kx (X : Cx) (EX : EXT) (H0 : Ent) (xa : Nat → Addr) (Γ : Nat → FSp) (C : Cn) (sc : Scope) (E : DX → DEnv → Prop) : Prop where
  c : Cok X xa Γ C sc
  kw : ∀ p ∈ C.kw, FDK X xa Γ C p.1 p.2.1 p.2.2
  tk : Takes X (lowW X.K EX H0 xa E)
theorem takes_no {X : Cx} {H0 H0' : Ent} {E : DX → DEnv → Prop} (tk : Takes X (lowW X.K EX H0 xa E)) : Takes X (lowW X.K EX H0' xa fun _ _ => False) := takes_blk
theorem se_call' (ek : EXok EX) {X : Cx} {H0 : Ent} {sc : Scope} {E : DX → DEnv → Prop} (c : Cok X xa Γ C sc) (tk : Takes X (lowW X.K EX H0 xa E)) {f : Nat} {l : Exs} {x : Str} {p pos : Pos} {es : List Expr} (hx : x = C.nm f) (hg : gloB sc x = true) (hd : (x == ("__debug__" : Str)) = false) (hl : C.lv f ≤ C.k) (hf : f ∈ C.dep) (hck : ckA C sc l es = true)
    (n : nbA l = true) (h : SA X EX Γ H0 E l es) : SE X EX Γ H0 E (.call f l) (.Call (.Name x p) es [] pos) := by
  cases es with
  | nil => rw [ckA_nil hck]; exact se_call0 ek c tk hx hg hd hl hf
  | cons e es => exact se_call ek c tk hx hg hd hl hf hck n h
theorem se_callB' (ek : EXok EX) {X : Cx} {H0 : Ent} {sc : Scope} {E : DX → DEnv → Prop} (c : Cok X xa Γ C sc) (tk : Takes X (lowW X.K EX H0 xa E)) {f : Nat} {l : Exs} {x : Str} {p pos : Pos} {es : List Expr} (hx : x = C.nm f) (hg : gloB sc x = true) (hd : (x == ("__debug__" : Str)) = false) (hl : C.lv f ≤ C.k) (hf : f ∈ C.dep) (hck : ckA C sc l es = true)
    (h : SA X EX Γ H0 E l es) : SE X EX Γ H0 E (.callB f l) (.Call (.Name x p) es [] pos) := by
  cases es with
  | nil => rw [ckA_nil hck]; exact se_callB0 ek c tk hx hg hd hl hf
  | cons e es => exact se_callB ek c tk hx hg hd hl hf hck h
theorem Like.kx {X X' : Cx} (l : Like X X') {H0 H0' : Ent} {sc sc' : Scope} {E : DX → DEnv → Prop} (c : Kx X EX H0 xa Γ C sc E) (h2 : Cok X' xa Γ C sc') (h3 : Takes X' (lowW X.K EX H0' xa fun _ _ => False)) : Kx X' EX H0' xa Γ C sc' (fun _ _ => False) := by
  refine ⟨h2, fun p hp => ?_, by rw [l.K]; exact h3⟩
  obtain ⟨fa, fd, ps, a1, a2, a3, a4⟩ := c.kw p hp
  exact ⟨fa, fd, ps, by rw [l.mg]; exact a1, by rw [l.K]; exact a2, by rw [l.K]; exact a3, by rw [l.prog, l.w, l.K, l.mg, l.base]; exact a4⟩
mutual
theorem sE (ek : EXok EX) : ∀ (x : Ex) (X : Cx) (H0 : Ent) (E : DX → DEnv → Prop) (sc : Scope) (e : Expr), Kx X EX H0 xa Γ C sc E → ck C sc x e = true → SE X EX Γ H0 E x e
  | .v i, X, H0, E, sc, e, c, h => by
    unfold ck at h; split at h <;> first | (cases h; done) | skip
    exact se_v ek c.c h
  | .b i, X, H0, E, sc, e, c, h => by
    unfold ck at h; split at h <;> first | (cases h; done) | skip
    exact se_b c.c h
  | .fr i x, X, H0, E, sc, e, c, h => by
    unfold ck at h
    exact se_fr ek (sE ek x X H0 E sc e c h)
  | .tr x, X, H0, E, sc, e, c, h => by
    unfold ck at h
    exact sE ek x X H0 E sc e c (of_and h).1
  | .wk x, X, H0, E, sc, e, c, h => by
    unfold ck at h
    exact se_wk (of_decide_eq_true (of_and h).2) (sE ek x X H0 E sc e c (of_and h).1)
  | .int n, X, H0, E, sc, e, c, h => by
    unfold ck at h; split at h <;> first | (cases h; done) | skip
    cases of_decide_eq_true h
    exact se_int
  | .str n, X, H0, E, sc, e, c, h => by
    unfold ck at h; split at h <;> first | (cases h; done) | skip
    cases of_decide_eq_true h
    exact se_str
  | .bl n, X, H0, E, sc, e, c, h => by
    unfold ck at h; split at h <;> first | (cases h; done) | skip
    cases of_decide_eq_true h
    exact se_bl
  | .non, X, H0, E, sc, e, c, h => by
    unfold ck at h; split at h <;> first | (cases h; done) | skip
    exact se_non
  | .bin o a b, X, H0, E, sc, e, c, h => by
    unfold ck at h; split at h <;> first | (cases h; done) | skip
    obtain ⟨h, h3⟩ := of_and h
    obtain ⟨h1, h2⟩ := of_and h
    exact se_bin ek h1 (sE ek a X H0 E sc _ c h2) (sE ek b X H0 E sc _ c h3)
  | .neg a, X, H0, E, sc, e, c, h => by
    unfold ck at h; split at h <;> first | (cases h; done) | skip
    exact se_neg (sE ek a X H0 E sc _ c h)
  | .not a, X, H0, E, sc, e, c, h => by
    unfold ck at h; split at h <;> first | (cases h; done) | skip
    exact se_not (sE ek a X H0 E sc _ c h)
  | .cmp o a b, X, H0, E, sc, e, c, h => by
    unfold ck at h; split at h <;> first | (cases h; done) | skip
    obtain ⟨h, h4⟩ := of_and h
    obtain ⟨h, h3⟩ := of_and h
    obtain ⟨h1, h2⟩ := of_and h
    exact se_cmp c.c.hu h1 (of_not h4) (sE ek a X H0 E sc _ c h2) (sE ek b X H0 E sc _ c h3)
  | .cmp2 o q a b d, X, H0, E, sc, e, c, h => by
    unfold ck at h; split at h <;> first | (cases h; done) | skip
    obtain ⟨h, h6⟩ := of_and h
    obtain ⟨h, h5⟩ := of_and h
    obtain ⟨h, h4⟩ := of_and h
    obtain ⟨h, h3⟩ := of_and h
    obtain ⟨h1, h2⟩ := of_and h
    exact se_cmp2 c.c.hu h1 h2 (of_not h6) (sE ek a X H0 E sc _ c h3) (sE ek b X H0 E sc _ c h4) (sE ek d X H0 E sc _ c h5)
  | .and a l, X, H0, E, sc, e, c, h => by
    unfold ck at h; split at h <;> first | (cases h; done) | skip
    obtain ⟨h, h4⟩ := of_and h
    obtain ⟨h, h3⟩ := of_and h
    obtain ⟨h1, h2⟩ := of_and h
    exact se_and h3 (sE ek a X H0 E sc _ c h1) (sSV ek l X H0 E sc _ c h2 h4)
  | .or a l, X, H0, E, sc, e, c, h => by
    unfold ck at h; split at h <;> first | (cases h; done) | skip
    obtain ⟨h, h4⟩ := of_and h
    obtain ⟨h, h3⟩ := of_and h
    obtain ⟨h1, h2⟩ := of_and h
    exact se_or h3 (sE ek a X H0 E sc _ c h1) (sSV ek l X H0 E sc _ c h2 h4)
  | .ite t a b, X, H0, E, sc, e, c, h => by
    unfold ck at h; split at h <;> first | (cases h; done) | skip
    obtain ⟨h, h5⟩ := of_and h
    obtain ⟨h, h4⟩ := of_and h
    obtain ⟨h, h3⟩ := of_and h
    obtain ⟨h1, h2⟩ := of_and h
    exact se_ite ek h4 h5 (sT ek t X H0 E sc _ c h1) (sE ek a X H0 E sc _ c h2) (sE ek b X H0 E sc _ c h3)
  | .tup l, X, H0, E, sc, e, c, h => by
    unfold ck at h; split at h <;> first | (cases h; done) | skip
    obtain ⟨h1, h2⟩ := of_and h
    exact se_tup ek h2 (sA ek l X H0 E sc _ c h1)
  | .lst l, X, H0, E, sc, e, c, h => by
    unfold ck at h; split at h <;> first | (cases h; done) | skip
    obtain ⟨h1, h2⟩ := of_and h
    exact se_lst ek h2 (sA ek l X H0 E sc _ c h1)
  | .ix a b, X, H0, E, sc, e, c, h => by
    unfold ck at h; split at h <;> first | (cases h; done) | skip
    obtain ⟨h, h3⟩ := of_and h
    obtain ⟨h1, h2⟩ := of_and h
    exact se_ix h3 (sE ek a X H0 E sc _ c h1) (sE ek b X H0 E sc _ c h2)
  | .sl a lo hi, X, H0, E, sc, e, c, h => by
    unfold ck at h; split at h <;> first | (cases h; done) | skip
    obtain ⟨h, h3⟩ := of_and h
    obtain ⟨h1, h2⟩ := of_and h
    exact se_sl ek (sE ek a X H0 E sc _ c h1) (sO ek lo X H0 E sc _ c h2) (sO ek hi X H0 E sc _ c h3)
  | .call f l, X, H0, E, sc, e, c, h => by
    unfold ck at h; split at h <;> first | (cases h; done) | skip
    obtain ⟨h, h7⟩ := of_and h
    obtain ⟨h, h6⟩ := of_and h
    obtain ⟨h, h5⟩ := of_and h
    obtain ⟨h, h4⟩ := of_and h
    obtain ⟨h, h3⟩ := of_and h
    obtain ⟨h1, h2⟩ := of_and h
    exact se_call' ek c.c c.tk (of_decide_eq_true h1) h2 (of_not h3) (of_decide_eq_true h4) (List.contains_iff_mem.mp h5) h6 h7 (sA ek l X H0 E sc _ c h6)
  | .callB f l, X, H0, E, sc, e, c, h => by
    unfold ck at h; split at h <;> first | (cases h; done) | skip
    obtain ⟨h, h6⟩ := of_and h
    obtain ⟨h, h5⟩ := of_and h
    obtain ⟨h, h4⟩ := of_and h
    obtain ⟨h, h3⟩ := of_and h
    obtain ⟨h1, h2⟩ := of_and h
    exact se_callB' ek c.c c.tk (of_decide_eq_true h1) h2 (of_not h3) (of_decide_eq_true h4) (List.contains_iff_mem.mp h5) h6 (sA ek l X H0 E sc _ c h6)
  | .callK f ks pm l, X, H0, E, sc, e, c, h => by
    unfold ck at h; split at h <;> first | (cases h; done) | skip
    obtain ⟨h, h8⟩ := of_and h
    obtain ⟨h, h7⟩ := of_and h
    obtain ⟨h, h6⟩ := of_and h
    obtain ⟨h, h5⟩ := of_and h
    obtain ⟨h, h4⟩ := of_and h
    obtain ⟨h, h3⟩ := of_and h
    obtain ⟨h1, h2⟩ := of_and h
    exact se_callK ek c.c c.tk (c.kw _ (of_decide_eq_true h5)) (of_decide_eq_true h1) h2 (of_not h3) (of_decide_eq_true h4) (of_decide_eq_true h8) (sK ek l X H0 E sc _ c h6 h7)
  | .dnew, X, H0, E, sc, e, c, h => by
    unfold ck at h; split at h <;> first | (cases h; done) | skip
    exact se_dnew ek
  | .dsp ks l, X, H0, E, sc, e, c, h => by
    unfold ck at h; split at h <;> first | (cases h; done) | skip
    obtain ⟨h, h8⟩ := of_and h
    obtain ⟨h, h7⟩ := of_and h
    obtain ⟨h, h6⟩ := of_and h
    obtain ⟨h, h5⟩ := of_and h
    obtain ⟨h, h4⟩ := of_and h
    obtain ⟨h, h3⟩ := of_and h
    obtain ⟨h1, h2⟩ := of_and h
    exact se_dsp ek (of_decide_eq_true h1) (of_decide_eq_true h2) (of_decide_eq_true h5) (of_decide_eq_true h6) (by intro z; rw [z] at h7; cases h7) h8
      fun H0' => sPr ek l X H0' (fun _ _ => False) sc _ ⟨c.c, c.kw, takes_no c.tk⟩ h3 h4
  | .bi f l, X, H0, E, sc, e, c, h => by
    unfold ck at h; split at h <;> first | (cases h; done) | skip
    obtain ⟨h, h4⟩ := of_and h
    obtain ⟨h, h3⟩ := of_and h
    obtain ⟨h1, h2⟩ := of_and h
    exact se_bi ek c.c (of_decide_eq_true h2) h3 h1 (sA ek l X H0 E sc _ c h1)
  | .isT ts a, X, H0, E, sc, e, c, h => by
    unfold ck at h; split at h <;> first | (cases h; done) | skip
    obtain ⟨h, h8⟩ := of_and h
    obtain ⟨h, h7⟩ := of_and h
    obtain ⟨h, h6⟩ := of_and h
    obtain ⟨h, h5⟩ := of_and h
    obtain ⟨h, h4⟩ := of_and h
    obtain ⟨h, h3⟩ := of_and h
    obtain ⟨h1, h2⟩ := of_and h
    cases of_decide_eq_true h1
    exact se_isT ek c.c h2 h4 h5 h6 (fun t ht => List.contains_iff_mem.mp (List.all_eq_true.mp h7 t ht)) (Nat.le_trans (of_decide_eq_true h8) (by decide)) (sE ek a X H0 E sc _ c h3)
  | .me m o l, X, H0, E, sc, e, c, h => by
    unfold ck at h; split at h <;> first | (cases h; done) | skip
    obtain ⟨h, h6⟩ := of_and h
    obtain ⟨h, h5⟩ := of_and h
    obtain ⟨h, h4⟩ := of_and h
    obtain ⟨h, h3⟩ := of_and h
    obtain ⟨h1, h2⟩ := of_and h
    cases of_decide_eq_true h1
    exact se_me ek h3 h4 h5 (of_decide_eq_true h6) (sE ek o X H0 E sc _ c h2) (sA ek l X H0 E sc _ c h4)
  | .lc g k l t x, X, H0, E, sc, e, c, h => by
    unfold ck at h; split at h <;> first | (cases h; done) | skip
    obtain ⟨h, h8⟩ := of_and h
    obtain ⟨h, h7⟩ := of_and h
    obtain ⟨h, h6⟩ := of_and h
    obtain ⟨h, h5⟩ := of_and h
    obtain ⟨h, h4⟩ := of_and h
    obtain ⟨h, h3⟩ := of_and h
    obtain ⟨h1, h2⟩ := of_and h
    exact se_lc ek c.c (of_decide_eq_true h8) h7 h4 h2 h3 (sI ek l k X H0 E sc _ _ c h1)
      (fun X' H0' hK hX' => fun tk' => sTs ek t X' H0' _ _ _ (hK.kx c hX' tk') h5)
      (fun X' H0' hK hX' => fun tk' => sE ek x X' H0' _ _ _ (hK.kx c hX' tk') h6)
  | .dget d k, X, H0, E, sc, e, c, h => by
    unfold ck at h; split at h <;> first | (cases h; done) | skip
    obtain ⟨h, h3⟩ := of_and h
    obtain ⟨h1, h2⟩ := of_and h
    exact se_dget c.c.hu h3 (sE ek d X H0 E sc _ c h1) (sE ek k X H0 E sc _ c h2)
  | .din k d, X, H0, E, sc, e, c, h => by
    unfold ck at h; split at h <;> first | (cases h; done) | skip
    obtain ⟨h, h3⟩ := of_and h
    obtain ⟨h1, h2⟩ := of_and h
    exact se_din c.c.hu (of_not h3) (sE ek k X H0 E sc _ c h1) (sE ek d X H0 E sc _ c h2)
  | .dnin k d, X, H0, E, sc, e, c, h => by
    unfold ck at h; split at h <;> first | (cases h; done) | skip
    obtain ⟨h, h3⟩ := of_and h
    obtain ⟨h1, h2⟩ := of_and h
    exact se_dnin c.c.hu (of_not h3) (sE ek k X H0 E sc _ c h1) (sE ek d X H0 E sc _ c h2)
  | .dg2 d k x, X, H0, E, sc, e, c, h => by
    unfold ck at h; cases h
theorem sT (ek : EXok EX) : ∀ (x : Ex) (X : Cx) (H0 : Ent) (E : DX → DEnv → Prop) (sc : Scope) (e : Expr), Kx X EX H0 xa Γ C sc E → ck C sc x e = true → ST X EX Γ H0 E x e
  | .not a, X, H0, E, sc, e, c, h => by
    unfold ck at h; split at h <;> first | (cases h; done) | skip
    exact st_not (sT ek a X H0 E sc _ c h)
  | .and a l, X, H0, E, sc, e, c, h => by
    unfold ck at h; split at h <;> first | (cases h; done) | skip
    obtain ⟨h, h4⟩ := of_and h
    obtain ⟨h, h3⟩ := of_and h
    obtain ⟨h1, h2⟩ := of_and h
    exact st_and (sT ek a X H0 E sc _ c h1) (sSL ek l X H0 E sc _ c h2)
  | .or a l, X, H0, E, sc, e, c, h => by
    unfold ck at h; split at h <;> first | (cases h; done) | skip
    obtain ⟨h, h4⟩ := of_and h
    obtain ⟨h, h3⟩ := of_and h
    obtain ⟨h1, h2⟩ := of_and h
    exact st_or (sT ek a X H0 E sc _ c h1) (sSL ek l X H0 E sc _ c h2)
  | .cmp o a b, X, H0, E, sc, e, c, h => by
    unfold ck at h; split at h <;> first | (cases h; done) | skip
    obtain ⟨h, h4⟩ := of_and h
    obtain ⟨h, h3⟩ := of_and h
    obtain ⟨h1, h2⟩ := of_and h
    exact st_cmp c.c.hu h1 (of_not h4) (sE ek a X H0 E sc _ c h2) (sE ek b X H0 E sc _ c h3)
  | .cmp2 o q a b d, X, H0, E, sc, e, c, h => by
    unfold ck at h; split at h <;> first | (cases h; done) | skip
    obtain ⟨h, h6⟩ := of_and h
    obtain ⟨h, h5⟩ := of_and h
    obtain ⟨h, h4⟩ := of_and h
    obtain ⟨h, h3⟩ := of_and h
    obtain ⟨h1, h2⟩ := of_and h
    exact st_cmp2 c.c.hu h1 h2 (of_not h6) (sE ek a X H0 E sc _ c h3) (sE ek b X H0 E sc _ c h4) (sE ek d X H0 E sc _ c h5)
  | .din k d, X, H0, E, sc, e, c, h => by
    unfold ck at h; split at h <;> first | (cases h; done) | skip
    obtain ⟨h, h3⟩ := of_and h
    obtain ⟨h1, h2⟩ := of_and h
    exact st_din c.c.hu (of_not h3) (sE ek k X H0 E sc _ c h1) (sE ek d X H0 E sc _ c h2)
  | .dnin k d, X, H0, E, sc, e, c, h => by
    unfold ck at h; split at h <;> first | (cases h; done) | skip
    obtain ⟨h, h3⟩ := of_and h
    obtain ⟨h1, h2⟩ := of_and h
    exact st_dnin c.c.hu (of_not h3) (sE ek k X H0 E sc _ c h1) (sE ek d X H0 E sc _ c h2)
  | .tr x, X, H0, E, sc, e, c, h => by
    unfold ck at h
    exact st_tr (of_and h).2 (sE ek x X H0 E sc _ c (of_and h).1)
  | .v _, _, _, _, _, _, _, _ => fun _ _ _ _ _ _ _ w _ => (show False from w).elim
  | .b _, _, _, _, _, _, _, _ => fun _ _ _ _ _ _ _ w _ => (show False from w).elim
  | .wk _, _, _, _, _, _, _, _ => fun _ _ _ _ _ _ _ w _ => (show False from w).elim
  | .fr _ _, _, _, _, _, _, _, _ => fun _ _ _ _ _ _ _ w _ => (show False from w).elim
  | .int _, _, _, _, _, _, _, _ => fun _ _ _ _ _ _ _ w _ => (show False from w).elim
  | .str _, _, _, _, _, _, _, _ => fun _ _ _ _ _ _ _ w _ => (show False from w).elim
  | .bl _, _, _, _, _, _, _, _ => fun _ _ _ _ _ _ _ w _ => (show False from w).elim
  | .non, _, _, _, _, _, _, _ => fun _ _ _ _ _ _ _ w _ => (show False from w).elim
  | .bin _ _ _, _, _, _, _, _, _, _ => fun _ _ _ _ _ _ _ w _ => (show False from w).elim
  | .neg _, _, _, _, _, _, _, _ => fun _ _ _ _ _ _ _ w _ => (show False from w).elim
  | .ite _ _ _, _, _, _, _, _, _, _ => fun _ _ _ _ _ _ _ w _ => (show False from w).elim
  | .tup _, _, _, _, _, _, _, _ => fun _ _ _ _ _ _ _ w _ => (show False from w).elim
  | .lst _, _, _, _, _, _, _, _ => fun _ _ _ _ _ _ _ w _ => (show False from w).elim
  | .ix _ _, _, _, _, _, _, _, _ => fun _ _ _ _ _ _ _ w _ => (show False from w).elim
  | .sl _ _ _, _, _, _, _, _, _, _ => fun _ _ _ _ _ _ _ w _ => (show False from w).elim
  | .call _ _, _, _, _, _, _, _, _ => fun _ _ _ _ _ _ _ w _ => (show False from w).elim
  | .callB _ _, _, _, _, _, _, _, _ => fun _ _ _ _ _ _ _ w _ => (show False from w).elim
  | .callK _ _ _ _, _, _, _, _, _, _, _ => fun _ _ _ _ _ _ _ w _ => (show False from w).elim
  | .dnew, _, _, _, _, _, _, _ => fun _ _ _ _ _ _ _ w _ => (show False from w).elim
  | .dsp _ _, _, _, _, _, _, _, _ => fun _ _ _ _ _ _ _ w _ => (show False from w).elim
  | .bi _ _, _, _, _, _, _, _, _ => fun _ _ _ _ _ _ _ w _ => (show False from w).elim
  | .isT _ _, _, _, _, _, _, _, _ => fun _ _ _ _ _ _ _ w _ => (show False from w).elim
  | .me _ _ _, _, _, _, _, _, _, _ => fun _ _ _ _ _ _ _ w _ => (show False from w).elim
  | .lc _ _ _ _ _, _, _, _, _, _, _, _ => fun _ _ _ _ _ _ _ w _ => (show False from w).elim
  | .dget _ _, _, _, _, _, _, _, _ => fun _ _ _ _ _ _ _ w _ => (show False from w).elim
  | .dg2 _ _ _, _, _, _, _, _, _, _ => fun _ _ _ _ _ _ _ w _ => (show False from w).elim
theorem sA (ek : EXok EX) : ∀ (l : Exs) (X : Cx) (H0 : Ent) (E : DX → DEnv → Prop) (sc : Scope) (es : List Expr), Kx X EX H0 xa Γ C sc E → ckA C sc l es = true → SA X EX Γ H0 E l es
  | .nil, X, H0, E, sc, es, c, h => by
    unfold ckA at h; split at h <;> first | (cases h; done) | skip
    exact sa_nil
  | .cons x l, X, H0, E, sc, es, c, h => by
    unfold ckA at h; split at h <;> first | (cases h; done) | skip
    obtain ⟨h, h3⟩ := of_and h
    obtain ⟨h1, h2⟩ := of_and h
    exact sa_cons ek h2 (sE ek x X H0 E sc _ c h1) (sA ek l X H0 E sc _ c h3)
theorem sPr (ek : EXok EX) : ∀ (l : Exs) (X : Cx) (H0 : Ent) (E : DX → DEnv → Prop) (sc : Scope) (es : List Expr), Kx X EX H0 xa Γ C sc E → ckA C sc l es = true → nbA l = true → SPr X EX Γ H0 E l es
  | .nil, X, H0, E, sc, es, c, h, n => by
    unfold ckA at h; split at h <;> first | (cases h; done) | skip
    exact spr_nil
  | .cons x l, X, H0, E, sc, es, c, h, n => by
    unfold ckA at h; split at h <;> first | (cases h; done) | skip
    obtain ⟨h, h3⟩ := of_and h
    obtain ⟨h1, h2⟩ := of_and h
    unfold nbA at n
    obtain ⟨n1, n2⟩ := of_and n
    exact spr_cons ek n1 (sE ek x X H0 E sc _ c h1) (sPr ek l X H0 E sc _ c h3 n2)
theorem sK (ek : EXok EX) : ∀ (l : Exs) (X : Cx) (H0 : Ent) (E : DX → DEnv → Prop) (sc : Scope) (es : List Keyword), Kx X EX H0 xa Γ C sc E → ckK C sc l es = true → nbA l = true → SK X EX Γ H0 E l es
  | .nil, X, H0, E, sc, es, c, h, n => by
    unfold ckK at h; split at h <;> first | (cases h; done) | skip
    exact sk_nil
  | .cons x l, X, H0, E, sc, es, c, h, n => by
    unfold ckK at h; split at h <;> first | (cases h; done) | skip
    obtain ⟨h1, h3⟩ := of_and h
    unfold nbA at n
    obtain ⟨n1, n2⟩ := of_and n
    exact sk_cons ek n1 (sE ek x X H0 E sc _ c h1) (sK ek l X H0 E sc _ c h3 n2)
theorem sSV (ek : EXok EX) : ∀ (l : Exs) (X : Cx) (H0 : Ent) (E : DX → DEnv → Prop) (sc : Scope) (es : List Expr), Kx X EX H0 xa Γ C sc E → ckA C sc l es = true → nbA l = true → ∀ {op : BoolOp}, SV X EX Γ H0 E op l es
  | .nil, X, H0, E, sc, es, c, h, n => by
    unfold ckA at h; split at h <;> first | (cases h; done) | skip
    exact sv_nil ek
  | .cons x l, X, H0, E, sc, es, c, h, n => by
    unfold ckA at h; split at h <;> first | (cases h; done) | skip
    obtain ⟨h, h3⟩ := of_and h
    obtain ⟨h1, h2⟩ := of_and h
    unfold nbA at n
    obtain ⟨n1, n2⟩ := of_and n
    exact sv_cons n1 (sE ek x X H0 E sc _ c h1) (sSV ek l X H0 E sc _ c h3 n2)
theorem sSL (ek : EXok EX) : ∀ (l : Exs) (X : Cx) (H0 : Ent) (E : DX → DEnv → Prop) (sc : Scope) (es : List Expr), Kx X EX H0 xa Γ C sc E → ckA C sc l es = true → ∀ {op : BoolOp}, SL X EX Γ H0 E op l es
  | .nil, X, H0, E, sc, es, c, h => by
    unfold ckA at h; split at h <;> first | (cases h; done) | skip
    exact sl_nil
  | .cons x l, X, H0, E, sc, es, c, h => by
    unfold ckA at h; split at h <;> first | (cases h; done) | skip
    obtain ⟨h, h3⟩ := of_and h
    obtain ⟨h1, h2⟩ := of_and h
    exact sl_cons (sT ek x X H0 E sc _ c h1) (sSL ek l X H0 E sc _ c h3)
theorem sO (ek : EXok EX) : ∀ (l : Exs) (X : Cx) (H0 : Ent) (E : DX → DEnv → Prop) (sc : Scope) (o : Option Expr), Kx X EX H0 xa Γ C sc E → ckO C sc l o = true → SO X EX Γ H0 E l o
  | .nil, X, H0, E, sc, o, c, h => by
    unfold ckO at h; split at h <;> first | (cases h; done) | skip
    exact so_none
  | .cons x .nil, X, H0, E, sc, o, c, h => by
    unfold ckO at h; split at h <;> first | (cases h; done) | skip
    exact so_some (sE ek x X H0 E sc _ c h)
  | .cons _ (.cons _ _), X, H0, E, sc, o, c, h => by
    unfold ckO at h; cases h
theorem sTs (ek : EXok EX) : ∀ (l : Exs) (X : Cx) (H0 : Ent) (E : DX → DEnv → Prop) (sc : Scope) (o : List Expr), Kx X EX H0 xa Γ C sc E → ckT C sc l o = true → STs X EX Γ H0 E l o
  | .nil, X, H0, E, sc, o, c, h => by
    unfold ckT at h; split at h <;> first | (cases h; done) | skip
    exact sts_nil
  | .cons x .nil, X, H0, E, sc, o, c, h => by
    unfold ckT at h; split at h <;> first | (cases h; done) | skip
    exact sts_one (sT ek x X H0 E sc _ c h)
  | .cons _ (.cons _ _), X, H0, E, sc, o, c, h => by
    unfold ckT at h; cases h
theorem sI (ek : EXok EX) : ∀ (l : Exs) (k : ItK) (X : Cx) (H0 : Ent) (E : DX → DEnv → Prop) (sc : Scope) (tg e : Expr), Kx X EX H0 xa Γ C sc E → ckI C sc k l tg e = true → SI X EX Γ H0 E k l tg e
  | .cons x .nil, .seq, X, H0, E, sc, tg, e, c, h => by
    unfold ckI at h
    exact si_seq ek (sE ek x X H0 E sc _ c h)
  | .cons x .nil, .str, X, H0, E, sc, tg, e, c, h => by
    unfold ckI at h
    exact si_str (sE ek x X H0 E sc _ c h)
  | .cons x .nil, .rng1, X, H0, E, sc, tg, e, c, h => by
    unfold ckI at h; split at h <;> first | (cases h; done) | skip
    obtain ⟨h, h4⟩ := of_and h
    obtain ⟨h, h3⟩ := of_and h
    obtain ⟨h1, h2⟩ := of_and h
    cases of_decide_eq_true h1
    exact si_rng1 ek c.c h2 h4 (sE ek x X H0 E sc _ c h3)
  | .cons x (.cons y .nil), .rng2, X, H0, E, sc, tg, e, c, h => by
    unfold ckI at h; split at h <;> first | (cases h; done) | skip
    obtain ⟨h, h6⟩ := of_and h
    obtain ⟨h, h5⟩ := of_and h
    obtain ⟨h, h4⟩ := of_and h
    obtain ⟨h, h3⟩ := of_and h
    obtain ⟨h1, h2⟩ := of_and h
    cases of_decide_eq_true h1
    exact si_rng2 ek c.c h2 h4 h6 (sE ek x X H0 E sc _ c h3) (sE ek y X H0 E sc _ c h5)
  | .cons x .nil, .en, X, H0, E, sc, tg, e, c, h => by
    unfold ckI at h; split at h <;> first | (cases h; done) | skip
    obtain ⟨h, h4⟩ := of_and h
    obtain ⟨h, h3⟩ := of_and h
    obtain ⟨h1, h2⟩ := of_and h
    cases of_decide_eq_true h1
    exact si_en ek c.c h2 h4 (sE ek x X H0 E sc _ c h3)
  | .nil, k, X, H0, E, sc, tg, e, c, h => by cases k <;> (unfold ckI at h; cases h)
  | .cons x .nil, .rng2, X, H0, E, sc, tg, e, c, h => by unfold ckI at h; cases h
  | .cons x .nil, .zip, X, H0, E, sc, tg, e, c, h => by unfold ckI at h; cases h
  | .cons x (.cons y .nil), .seq, X, H0, E, sc, tg, e, c, h => by unfold ckI at h; cases h
  | .cons x (.cons y .nil), .str, X, H0, E, sc, tg, e, c, h => by unfold ckI at h; cases h
  | .cons x (.cons y .nil), .rng1, X, H0, E, sc, tg, e, c, h => by unfold ckI at h; cases h
  | .cons x (.cons y .nil), .en, X, H0, E, sc, tg, e, c, h => by unfold ckI at h; cases h
  | .cons x (.cons y .nil), .zip, X, H0, E, sc, tg, e, c, h => by unfold ckI at h; cases h
  | .cons x (.cons y (.cons _ _)), k, X, H0, E, sc, tg, e, c, h => by cases k <;> (unfold ckI at h; cases h)
end
end
end DL
/-! DP: statements -/
namespace DL
open PySem PySem.Spec PyProof.Rows L2
/-! ### against the text -/
/-- the store does not come ahead of the end of a comprehension -/
def swF (sc : Scope) (tg e : Expr) : Bool := match e with
  | .ListComp _ _ s pos => match tg with
    | .Name x px => !(decide (sc.names.lookup x = some .local) && (px.line == pos.line) && !(s.names.any fun (n, k) => n == x && (k == .local || k == .cell)))
    | _ => true
  | .SetComp .. => false
  | .DictComp .. => false
  | _ => true
def swT (sc : Scope) (tg e : Expr) : Bool := match e with
  | .ListComp _ _ s pos => match tg with
    | .Name x px => decide (sc.names.lookup x = some .local) && (px.line == pos.line) && !(s.names.any fun (n, k) => n == x && (k == .local || k == .cell))
    | _ => false
  | _ => false
/-- no tuple or list against a written tuple -/
def ntup (tg e : Expr) : Bool := match tg with
  | .Name .. => true
  | _ => match e with
    | .Tuple .. => false
    | _ => true
def isNm (N : List Str) (sc : Scope) (i : Nat) (tg : Expr) : Bool := match tg with
  | .Name x _ => decide (N[i]? = some x) && locB sc x
  | _ => false
def BOp.isAS : BOp → Bool
  | .add => true
  | .sub => true
  | _ => false
mutual
def ckS (C : Cn) (sc : Scope) : Sx → Stmt → Bool
  | .asg g e, st => match st with
    | .Assign [tg] v _ => ckG C.N none sc g tg && ck C sc e v && nb e && swF sc tg v && ntup tg v
    | _ => false
  | .own i e, st => match st with
    | .Assign [tg] v _ => isNm C.N sc i tg && ck C sc e v && decide (md e = .fr) && swF sc tg v && ntup tg v
    | _ => false
  | .lcs _ i g k l t e, st => match st with
    | .Assign [tg] v _ => isNm C.N sc i tg && ck C sc (.lc g k l t e) v && swT sc tg v
    | _ => false
  | .aug i o e, st => match st with
    | .AugAssign tg p v _ => isNm C.N sc i tg && o.like p && ck C sc e v && o.isAS
    | _ => false
  | .ret e, st => match st with
    | .Return (some v) _ => ck C sc e v && nb e
    | _ => false
  | .retN, st => match st with
    | .Return none _ => true
    | _ => false
  | .expr e, st => match st with
    | .Expr v _ => ck C sc e v && ncomp v
    | _ => false
  | .app i e, st => match st with
    | .Expr (.Call (.Attribute (.Name x px) a ap) [v] [] p) _ => decide (a = Str.ofString "append") && nmB C.N sc i x && ck C sc e v && nst v && nb e && (ap.endLine == p.line)
    | _ => false
  | .ext i e, st => match st with
    | .Expr (.Call (.Attribute (.Name x px) a ap) [v] [] p) _ => decide (a = Str.ofString "extend") && nmB C.N sc i x && ck C sc e v && nst v && decide (md e = .fr) && (ap.endLine == p.line)
    | _ => false
  | .put i k e, st => match st with
    | .Assign [.Subscript (.Name x px) ky _] v _ => nmB C.N sc i x && ck C sc k ky && ck C sc e v && nb e
    | _ => false
  | .seti i k e, st => match st with
    | .Assign [.Subscript (.Name x px) ky _] v _ => nmB C.N sc i x && ck C sc k ky && ck C sc e v && nb e && nslice ky
    | _ => false
  | .ife c a b, st => match st with
    | .If t x y _ => ck C sc c t && ckSs C sc a x && ckSs C sc b y
    | _ => false
  | .whl c b, st => match st with
    | .While t x [] _ => ck C sc c t && ckSs C sc b x
    | _ => false
  | .for_ g k l b, st => match st with
    | .For tg it x [] _ => ckI C sc k l tg it && nbA l && nset it && ckG C.N none sc g tg && ckSs C sc b x
    | _ => false
  | .brk, st => match st with
    | .Break _ => true
    | _ => false
  | .cont, st => match st with
    | .Continue _ => true
    | _ => false
  | .pass, st => match st with
    | .Pass _ => true
    | _ => false
def ckSs (C : Cn) (sc : Scope) : Sxs → List Stmt → Bool
  | .nil, l => match l with
    | [] => true
    | _ => false
  | .cons s r, l => match l with
    | x :: l => ckS C sc s x && ckSs C sc r l
    | _ => false
end
/-! ### slots written -/
section
variable {K : PySem.W.Frag} {EX : EXT} {H0 : Ent} {ρ : DEnv} {σ : L2.St} {Hf H : Hp}
theorem SR.write (R : SR K EX H0 ρ σ Hf H) {i : Nat} {a : Addr} {s s' : Sl} {o : HO} (e : ρ[i]? = some s) (ho : s.isOwn = true) (ho' : s'.isOwn = true) (hs : σ[i]? = some (some (V.ref a))) (n : Hf a = none) (n0 : H0.h a = none)
    (h1 : ∀ p l, s' = .own p l → ∃ xs, o = .lst xs ∧ Reps K Hf l xs ∧ ∀ b, p = some b → b = a)
    (h2 : ∀ p l, s' = .ownK p l → ∃ xs, o = .dK xs ∧ RepK K Hf l xs ∧ ∀ b, p = some b → b = a) : SR K EX H0 (ρ.set i s') σ Hf (upd H a o) := by
  have st : ∀ {G : Hp}, G a = none → Same G H → Same G (upd H a o) := fun {G} z q b u w => by
    rw [upd_ne (fun e => by rw [e, z] at w; cases w)]; exact q b u w
  refine ⟨R.base, st n0 R.ent, R.nof, st n R.sub, by rw [List.length_set]; exact R.len, fun j d' e' => ?_, fun j p l e' => ?_, fun j p l e' => ?_, fun j c l e' => ?_, fun j k s1 t b nn e1 e2 o1 o2 z1 z2 => ?_⟩
  · rcases get_set e' with ⟨rfl, z, _⟩ | ⟨_, e'⟩
    · rw [← z] at ho'; cases ho'
    · exact R.sh j d' e'
  · rcases get_set e' with ⟨rfl, z, _⟩ | ⟨nn, e'⟩
    · obtain ⟨xs, rfl, r, hp⟩ := h1 p l z.symm
      exact ⟨a, xs, hs, n, upd_same, r, n0, hp⟩
    · obtain ⟨b, xs, q1, q2, q3, r⟩ := R.own j p l e'
      exact ⟨b, xs, q1, q2, by rw [upd_ne (fun z => R.apart j i _ _ a nn e' e rfl ho (by rw [q1, z]) hs)]; exact q3, r⟩
  · rcases get_set e' with ⟨rfl, z, _⟩ | ⟨nn, e'⟩
    · obtain ⟨xs, rfl, r, hp⟩ := h2 p l z.symm
      exact ⟨a, xs, hs, n, upd_same, r, n0, hp⟩
    · obtain ⟨b, xs, q1, q2, q3, r⟩ := R.ownK j p l e'
      exact ⟨b, xs, q1, q2, by rw [upd_ne (fun z => R.apart j i _ _ a nn e' e rfl ho (by rw [q1, z]) hs)]; exact q3, r⟩
  · rcases get_set e' with ⟨rfl, z, _⟩ | ⟨_, e'⟩
    · rw [← z] at ho'; cases ho'
    · exact R.exc j c l e'
  · have old : ∀ {j : Nat} {s1 : Sl}, (ρ.set i s')[j]? = some s1 → s1.isOwn = true → ∃ s2, ρ[j]? = some s2 ∧ s2.isOwn = true := fun {j s1} e1 o1 => by
      rcases get_set e1 with ⟨rfl, _, _⟩ | ⟨_, q⟩
      · exact ⟨s, e, ho⟩
      · exact ⟨s1, q, o1⟩
    obtain ⟨s2, q2, w2⟩ := old e1 o1
    obtain ⟨s3, q3, w3⟩ := old e2 o2
    exact R.apart j k s2 s3 b nn q2 q3 w2 w3 z1 z2
end
section
variable (X : Cx)
def mS (st : Stmt) : TS := fun D σ H => ∀ (pins : List (Addr × Obj)) (s : Shared), Inv X pins σ H s → wpAny (model X.prog X.w) X.A (exec st X.env) (SP X pins D) X.xe s
def mSs (st : List Stmt) : TS := fun D σ H => ∀ (pins : List (Addr × Obj)) (s : Shared), Inv X pins σ H s → wpAny (model X.prog X.w) X.A (execs st X.env) (SP X pins D) X.xe s
end
theorem PS.m {X : Cx} (st : Stmt) : PS X st (mS X st) := ⟨fun pins s σ H D I h => h pins s I⟩
theorem PSs.m {X : Cx} (st : List Stmt) : PSs X st (mSs X st) := ⟨fun pins s σ H D I h => h pins s I⟩
theorem mS.of {X : Cx} {st : Stmt} {t : TS} (h : PS X st t) {D : Ends} {σ : L2.St} {H : Hp} (q : t D σ H) : mS X st D σ H := fun pins s I => h.run pins s σ H D I q
theorem mSs.of {X : Cx} {st : List Stmt} {t : TS} (h : PSs X st t) {D : Ends} {σ : L2.St} {H : Hp} (q : t D σ H) : mSs X st D σ H := fun pins s I => h.run pins s σ H D I q
/-- what is wanted behind, by data and by slots -/
structure KZ (K : PySem.W.Frag) (EX : EXT) (H0 : Ent) (Z : EndD) (D : Ends) (Hf : Hp) : Prop where
  nx : ∀ ρ' σ' Hf' H', SR K EX H0 ρ' σ' Hf' H' → Same Hf Hf' → Z.nx ρ' → D.nx σ' H'
  rt : ∀ d ρ' v σ' Hf' H' m, SR K EX H0 ρ' σ' Hf' H' → Same Hf Hf' → m ≠ .bo → (Z.rtF = true → m = .fr) → Res K H0 m ρ' σ' Hf' H' d v → Z.rt d ρ' → D.rt v H'
  bk : ∀ ρ' σ' Hf' H', SR K EX H0 ρ' σ' Hf' H' → Same Hf Hf' → Z.bk ρ' → D.bk σ' H'
  ct : ∀ ρ' σ' Hf' H', SR K EX H0 ρ' σ' Hf' H' → Same Hf Hf' → Z.ct ρ' → D.ct σ' H'
theorem KZ.mono {K : PySem.W.Frag} {EX : EXT} {H0 : Ent} {Z : EndD} {D : Ends} {Hf Hf1 : Hp} (k : KZ K EX H0 Z D Hf) (s : Same Hf Hf1) : KZ K EX H0 Z D Hf1 :=
  ⟨fun ρ' σ' Hf' H' R t q => k.nx ρ' σ' Hf' H' R (s.trans t) q, fun d ρ' v σ' Hf' H' m R t a b r q => k.rt d ρ' v σ' Hf' H' m R (s.trans t) a b r q, fun ρ' σ' Hf' H' R t q => k.bk ρ' σ' Hf' H' R (s.trans t) q, fun ρ' σ' Hf' H' R t q => k.ct ρ' σ' Hf' H' R (s.trans t) q⟩
section
variable (X : Cx) (EX : EXT) (Γ : Nat → FSp) (H0 : Ent) (E : DX → DEnv → Prop)
def SS (x : Sx) (st : Stmt) : Prop := ∀ (ρ : DEnv) (σ : L2.St) (Hf H : Hp) (Z : EndD) (D : Ends), SR X.K EX H0 ρ σ Hf H → wS Γ E x Z ρ → KZ X.K EX H0 Z D Hf → mS X st D σ H
def SSs (x : Sxs) (st : List Stmt) : Prop := ∀ (ρ : DEnv) (σ : L2.St) (Hf H : Hp) (Z : EndD) (D : Ends), SR X.K EX H0 ρ σ Hf H → wSs Γ E x Z ρ → KZ X.K EX H0 Z D Hf → mSs X st D σ H
end
section
variable {X : Cx} {EX : EXT} {Γ : Nat → FSp} {H0 : Ent} {E : DX → DEnv → Prop} {xa : Nat → Addr} {C : Cn} {sc : Scope}
/-- the context of a def's own block -/
structure Kst (X : Cx) (EX : EXT) (H0 : Ent) (xa : Nat → Addr) (Γ : Nat → FSp) (C : Cn) (sc : Scope) (E : DX → DEnv → Prop) : Prop extends Kx X EX H0 xa Γ C sc E where
  own : PassesOwn (model X.prog X.w) X.A X.env X.xe
  fn : ∀ x, X.fn x = true
  kind : X.env.scope.kind = .function
theorem Kst.g (c : Kst X EX H0 xa Γ C sc E) : Gok X C.N none sc := ⟨c.c.N, c.c.nd, c.c.scp, c.c.calm, fun x _ => c.fn x⟩
theorem sw_false (c : Kst X EX H0 xa Γ C sc E) {tg v : Expr} {l : Nat} (h : swF sc tg v = true) : swapsWithSole [tg] v l X.env = pure false := by
  show swapsWith v (some tg) l X.env = pure false
  have sc' : X.env.scope = sc := c.c.scp
  cases v <;> first | rfl | (cases h; done) | skip
  cases tg <;> first | rfl | skip
  rename_i elt gs s pos x px
  have kx : X.env.kindOf x = sc.names.lookup x := by show X.env.scope.names.lookup x = _; rw [sc']
  have h' : (decide (sc.names.lookup x = some .local) && (px.line == pos.line) && !(s.names.any fun (n, k) => n == x && (k == .local || k == .cell))) = false := by
    exact of_not h
  have hb : X.env.blockKind = .function := by unfold Env.blockKind; rw [c.kind]; rfl
  have e1 : (X.env.kindOf x == some .local) = decide (sc.names.lookup x = some .local) := by
    rw [kx]; cases sc.names.lookup x with
    | none => rfl
    | some k => cases k <;> rfl
  unfold swapsWith
  simp only [hb, e1, Expr.pos]
  exact congrArg pure h'
end
end DL
/-! DQ: statements, one rule a form -/
namespace DL
open PySem PySem.Spec PyProof.Rows L2
section
variable {X : Cx} {EX : EXT} {Γ : Nat → FSp} {H0 : Ent} {E : DX → DEnv → Prop} {xa : Nat → Addr} {C : Cn} {sc : Scope}
theorem isNm_inv {N : List Str} {i : Nat} {tg : Expr} (h : isNm N sc i tg = true) : ∃ x p, tg = .Name x p ∧ N[i]? = some x ∧ locB sc x = true := by
  cases tg <;> first | (cases h; done) | skip
  have h' : (decide (N[i]? = some _) && locB sc _) = true := h
  exact ⟨_, _, rfl, of_decide_eq_true (of_and h').1, (of_and h').2⟩
theorem isNm_ckG {N : List Str} {i : Nat} {tg : Expr} (h : isNm N sc i tg = true) : ckG N none sc (.nm i) tg = true := by
  obtain ⟨x, p, rfl, h1, h2⟩ := isNm_inv h
  show (decide (N[i]? = some x) && locB sc x && true) = true
  rw [decide_eq_true h1, h2]; rfl
theorem sole {g : Tg} {tg : Expr} {env : Env} (h : ckG C.N none sc g tg = true) : (assignEach [tg] env).map (·.2) = [assign tg env] := by rw [each_cons h]; rfl
theorem nost {tg v : Expr} {env : Env} (h : ntup tg v = true) : swappedStores [tg] v env = pure none := by
  cases v <;> first | (cases tg <;> rfl) | skip
  cases tg <;> first | rfl | (cases h; done)
theorem ss_asg (ek : EXok EX) (c : Kst X EX H0 xa Γ C sc E) {g : Tg} {e : Ex} {tg v : Expr} {pos : Pos} (h1 : ckG C.N none sc g tg = true) (n : nb e = true) (h2 : swF sc tg v = true) (h3 : ntup tg v = true) (he : SE X EX Γ H0 E e v) : SS X EX Γ H0 E (.asg g e) (.Assign [tg] v pos) := fun ρ σ Hf H Z D R w k => by
  refine mS.of (ps_asg (PE.m v) (PG.m tg) (sw_false c h2) (nost h3) (sole h1)) ?_
  refine he ρ σ Hf H _ _ R w fun d1 ρ1 v1 Hf1 H1 R1 s1 t1 r1 w1 => ?_
  obtain ⟨Hf2, R2, s2, r2⟩ := r1.freeze (nb_md n) R1 ek
  exact sg c.g g tg h1 ρ1 σ Hf2 H1 d1 v1 Z.nx D.nx R2 r2 w1 fun ρ2 σ2 R3 _ _ q => k.nx ρ2 σ2 Hf2 H1 R3 (s1.trans s2) q
def ownZ (Z : EndD) (ρ : DEnv) (i : Nat) : D → Prop
  | .lst l => Z.nx (ρ.set i (.own none l))
  | .dct l => Z.nx (ρ.set i (.ownK none l))
  | _ => False
def lcZ (fz : Bool) (Z : EndD) (ρ : DEnv) (i : Nat) : D → Prop
  | .lst l => Z.nx (ρ.set i (if fz = true then .sh (.lst l) else .own none l))
  | _ => False
/-- a fresh list or dict goes to a slot of its own -/
theorem own_set {ρ : DEnv} {σ : L2.St} {Hf H : Hp} {i : Nat} {d : D} {v : V} {Z : EndD} (R : SR X.K EX H0 ρ σ Hf H) (r : RepF X.K H0 ρ σ Hf H d v) (w : ownZ Z ρ i d) : ∃ ρ', SR X.K EX H0 ρ' (σ.set i (some v)) Hf H ∧ Z.nx ρ' := by
  cases r with
  | sh n r =>
    cases d <;> first | exact w.elim | (cases n; done)
  | own n0 n h r f =>
    exact ⟨_, R.setO (s := .own none _) rfl (fun p l e => by cases e; exact ⟨_, n, h, r, n0, nofun⟩) (fun p l e => by cases e) i fun j t _ e o => f j t e o, w⟩
  | ownK n0 n h r f =>
    exact ⟨_, R.setO (s := .ownK none _) rfl (fun p l e => by cases e) (fun p l e => by cases e; exact ⟨_, n, h, r, n0, nofun⟩) i fun j t _ e o => f j t e o, w⟩
theorem ss_own (c : Kst X EX H0 xa Γ C sc E) {i : Nat} {e : Ex} {tg v : Expr} {pos : Pos} (h1 : isNm C.N sc i tg = true) (m : md e = .fr) (h2 : swF sc tg v = true) (h3 : ntup tg v = true) (he : SE X EX Γ H0 E e v) : SS X EX Γ H0 E (.own i e) (.Assign [tg] v pos) := fun ρ σ Hf H Z D R w k => by
  have hg := isNm_ckG h1
  obtain ⟨x, p, rfl, hN, hl⟩ := isNm_inv h1
  refine mS.of (ps_asg (PE.m v) (pg_name (i := i) (by rw [c.c.N]; exact c.c.nd) (by rw [c.c.N]; exact hN) (by rw [c.c.scp]; exact loc_of hl) (.inl (c.fn x))) (sw_false c h2) (nost h3) (sole hg)) ?_
  refine he ρ σ Hf H _ _ R w fun d1 ρ1 v1 Hf1 H1 R1 s1 t1 r1 w1 => ?_
  rw [m] at r1
  have w2 : ownZ Z ρ1 i d1 := by cases d1 <;> exact w1
  obtain ⟨ρ2, R2, q⟩ := own_set (i := i) R1 r1 w2
  exact k.nx _ _ _ _ R2 s1 q
theorem ss_lcs (ek : EXok EX) (c : Kst X EX H0 xa Γ C sc E) {fz : Bool} {i : Nat} {g : Tg} {kk : ItK} {l t : Exs} {x : Ex} {tg0 v : Expr} {pos : Pos} (h1 : isNm C.N sc i tg0 = true) (h2 : swT sc tg0 v = true) (hck : ck C sc (.lc g kk l t x) v = true) : SS X EX Γ H0 E (.lcs fz i g kk l t x) (.Assign [tg0] v pos) := fun ρ σ Hf H Z D R w k => by
  obtain ⟨y, py, rfl, hN, hl⟩ := isNm_inv h1
  unfold ck at hck; split at hck <;> first | (cases hck; done) | skip
  rename_i elt tg iter ifs scope lpos
  obtain ⟨h, h8⟩ := of_and hck
  obtain ⟨h, h7⟩ := of_and h
  obtain ⟨h, h6⟩ := of_and h
  obtain ⟨h, h5⟩ := of_and h
  obtain ⟨h, h4⟩ := of_and h
  obtain ⟨h, h3⟩ := of_and h
  obtain ⟨ha, hb⟩ := of_and h
  have h2' : (decide (sc.names.lookup y = some .local) && (py.line == lpos.line) && !(scope.names.any fun (n, k) => n == y && (k == .local || k == .cell))) = true := h2
  obtain ⟨h2', z3⟩ := of_and h2'
  obtain ⟨z1, z2⟩ := of_and h2'
  have hyl : X.env.scope.names.lookup y = some .local := by rw [c.c.scp]; exact of_decide_eq_true z1
  refine mS.of (ps_setLc (i := i) (own := ownOf C.N g.slots) c.c.calm (by rw [c.c.N]; exact c.c.nd) (by rw [c.c.N]; exact hN) hyl (sw_true c.kind hyl z2 (of_not z3)) (PI.m tg iter) (blkOk_by (by rw [c.c.N, c.c.scp]; exact h3)) bG_ok bT_ok bE_ok (nset_fold hb)) ?_
  have K0 := c.toKx
  have wl : wE Γ E (.lc g kk l t x) ρ fun d ρ1 => lcZ fz Z ρ1 i d := w
  refine tLc_ok ek c.c (of_decide_eq_true h8) h7 h4 (sI ek l kk X H0 E sc _ _ K0 ha) (fun X' H0' hK hX' => fun tk' => sTs ek t X' H0' _ _ _ (hK.kx K0 hX' tk') h5) (fun X' H0' hK hX' => fun tk' => sE ek x X' H0' _ _ _ (hK.kx K0 hX' tk') h6) R
    wl fun d1 ρ1 v1 Hf1 H1 R1 s1 t1 r1 w1 => ?_
  cases fz with
  | false =>
    have w2 : ownZ Z ρ1 i d1 := by
      cases d1 <;> first | exact w1 | exact (show False from w1).elim
    obtain ⟨ρ2, R2, q⟩ := own_set (i := i) R1 r1 w2
    exact k.nx _ _ _ _ R2 s1 q
  | true =>
    cases d1 <;> first | exact (show False from w1).elim | skip
    obtain ⟨Hf2, R2, s2, r2⟩ := r1.freeze R1 ek
    exact k.nx _ _ _ _ (R2.setSh r2 i) (s1.trans s2) w1
theorem ss_aug (c : Kst X EX H0 xa Γ C sc E) {i : Nat} {o : BOp} {e : Ex} {tg v : Expr} {p : Operator} {pos : Pos} (h1 : isNm C.N sc i tg = true) (h2 : o.like p = true) (h3 : o.isAS = true) (he : SE X EX Γ H0 E e v) : SS X EX Γ H0 E (.aug i o e) (.AugAssign tg p v pos) := fun ρ σ Hf H Z D R w k => by
  obtain ⟨y, py, rfl, hN, hl⟩ := isNm_inv h1
  cases like_b h2
  have w' : (match ρ[i]? with
    | some (.sh x) => wE Γ E e ρ fun y ρ1 => augW o x y fun d => Z.nx (ρ1.set i (.sh d))
    | _ => False) := w
  split at w' <;> first | exact w'.elim | skip
  rename_i x hx
  obtain ⟨v0, hv0, r0⟩ := R.sh i x hx
  have nN : X.N.Nodup := by rw [c.c.N]; exact c.c.nd
  have hN' : X.N[i]? = some y := by rw [c.c.N]; exact hN
  have hL : Loc X.env.scope y := by rw [c.c.scp]; exact loc_of hl
  have fin : ∀ {ρ1 : DEnv} {Hf1 H1 : Hp} {d : DL.D} {z : V}, SR X.K EX H0 ρ1 σ Hf1 H1 → Same Hf Hf1 → Rep X.K Hf1 d z → Z.nx (ρ1.set i (.sh d)) → D.nx (σ.set i (some z)) H1 := fun R1 s1 r q => k.nx _ _ _ _ (R1.setSh r i) s1 q
  cases o with
  | add =>
    cases x with
    | int a =>
      refine mS.of (ps_aug nN hN' hL (PE.m v) ip_add (.inl (c.fn y))) ⟨v0, hv0, ?_⟩
      refine he ρ σ Hf H _ _ R w' fun d1 ρ1 v1 Hf1 H1 R1 s1 t1 r1 w1 => ?_
      cases d1 with
      | int b =>
        cases r0
        exact ⟨_, _, rfl, r1.toB.int_inv, fin R1 s1 (.int _) w1⟩
      | _ => exact (show False from w1).elim
    | str a =>
      refine mS.of (ps_aug nN hN' hL (PE.m v) iop_add_str (.inl (c.fn y))) ⟨v0, hv0, ?_⟩
      refine he ρ σ Hf H _ _ R w' fun d1 ρ1 v1 Hf1 H1 R1 s1 t1 r1 w1 => ?_
      cases d1 with
      | str b =>
        cases r0
        exact ⟨_, _, rfl, r1.toB.str_inv, w1.1, fin R1 s1 (.str _) w1.2⟩
      | _ => exact (show False from w1).elim
    | _ =>
      refine mS.of (ps_aug nN hN' hL (PE.m v) ip_add (.inl (c.fn y))) ⟨v0, hv0, ?_⟩
      refine he ρ σ Hf H _ _ R w' fun d1 ρ1 v1 Hf1 H1 R1 s1 t1 r1 w1 => ?_
      cases d1 <;> exact (show False from w1).elim
  | sub =>
    refine mS.of (ps_aug nN hN' hL (PE.m v) ip_sub (.inl (c.fn y))) ⟨v0, hv0, ?_⟩
    refine he ρ σ Hf H _ _ R w' fun d1 ρ1 v1 Hf1 H1 R1 s1 t1 r1 w1 => ?_
    cases x with
    | int a =>
      cases d1 with
      | int b =>
        cases r0
        exact ⟨_, _, rfl, r1.toB.int_inv, fin R1 s1 (.int _) w1⟩
      | _ => exact (show False from w1).elim
    | _ => cases d1 <;> exact (show False from w1).elim
  | _ => cases h3
end
end DL
/-! DR: the rest of the statements -/
namespace DL
open PySem PySem.Spec PyProof.Rows L2
section
variable {X : Cx} {EX : EXT} {Γ : Nat → FSp} {H0 : Ent} {E : DX → DEnv → Prop} {xa : Nat → Addr} {C : Cn} {sc : Scope}
theorem ss_ret (ek : EXok EX) {e : Ex} {v : Expr} {pos : Pos} (n : nb e = true) (he : SE X EX Γ H0 E e v) : SS X EX Γ H0 E (.ret e) (.Return (some v) pos) := fun ρ σ Hf H Z Y R w k => by
  refine mS.of (ps_ret (PE.m v)) ?_
  refine he ρ σ Hf H _ _ R w fun d1 ρ1 v1 Hf1 H1 R1 s1 t1 r1 w1 => ?_
  exact k.rt d1 ρ1 v1 σ Hf1 H1 (md e) R1 s1 (nb_md n) w1.1 r1 w1.2
theorem ss_retN {pos : Pos} : SS X EX Γ H0 E .retN (.Return none pos) := fun ρ σ Hf H Z Y R w k =>
  mS.of ps_retN (k.rt .non ρ _ σ Hf H .sh R (Same.refl _) nofun (fun z => by rw [w.1] at z; cases z) Rep.non w.2)
theorem ncomp_sw {v : Expr} {l : Nat} {env : Env} (h : ncomp v = true) : swapsWith v none l env = pure false := by
  cases v <;> first | rfl | (cases h; done)
theorem ss_expr {e : Ex} {v : Expr} {pos : Pos} (n : ncomp v = true) (he : SE X EX Γ H0 E e v) : SS X EX Γ H0 E (.expr e) (.Expr v pos) := fun ρ σ Hf H Z Y R w k => by
  refine mS.of (ps_expr (PE.m v) (ncomp_sw n)) ?_
  exact he ρ σ Hf H _ _ R w fun d1 ρ1 v1 Hf1 H1 R1 s1 t1 r1 w1 => k.nx _ _ _ _ R1 s1 w1
theorem few1 {v : Expr} {env : Env} {pos : Pos} (h : nst v = true) : ((backTo pos (starEach [v] env)).all (fun x => !x.1) && (backToKw pos (keywordEach [] env)).all (fun x => x.1.isSome)
      && decide (([v] : List Expr).length + ([] : List Keyword).length + (if ([] : List Keyword).isEmpty then 0 else 1) < 30)) = true := by
  rw [star_cons h]; rfl
theorem ss_app (ek : EXok EX) (c : Kst X EX H0 xa Γ C sc E) {i : Nat} {e : Ex} {x : Str} {v : Expr} {px ap p pos : Pos} (h1 : nmB C.N sc i x = true) (hn : nst v = true) (n : nb e = true) (hl : (ap.endLine == p.line) = true) (he : SE X EX Γ H0 E e v) :
    SS X EX Γ H0 E (.app i e) (.Expr (.Call (.Attribute (.Name x px) (Str.ofString "append") ap) [v] [] p) pos) := fun ρ σ Hf H Z Y R w k => by
  refine mS.of (ps_expr (pe_bm PySem.F.plainAttrs_list PySem.F.slot_list_append PySem.F.type_list_append mt_append (c.c.pv h1) (PA.m [v]) rfl (few1 hn) hl (star_cons hn) rfl) rfl) ?_
  have w' : (match ρ[i]? with
    | some (.own p l) => wE Γ E e ρ fun d ρ1 => ρ1[i]? = some (.own p l) ∧ l.length < sizeLine ∧ Z.nx (ρ1.set i (.own p (l ++ [d])))
    | _ => False) := w
  split at w' <;> first | exact w'.elim | skip
  rename_i pa l hx
  obtain ⟨a, xs, q1, q2, q3, q4, q5, q6⟩ := R.own i pa l hx
  refine ⟨.ref a, q1, .inl ⟨rfl, xs, .of q3⟩, ?_⟩
  refine mA.of (pa_cons (PE.m v) pa_nil (star_cons hn)) ?_
  refine he ρ σ Hf H _ _ R w' fun d1 ρ1 v1 Hf1 H1 R1 s1 t1 r1 w1 => ?_
  obtain ⟨z1, z2, z3⟩ := w1
  obtain ⟨Hf2, R2, s2, r2⟩ := r1.freeze (nb_md n) R1 ek
  obtain ⟨b, ys, p1, p2, p3, p4, p5, p6⟩ := R2.own i pa l z1
  rw [q1] at p1
  cases p1
  refine ⟨a, ys, v1, rfl, rfl, p3, by rw [← p4.length]; exact z2, ?_⟩
  exact k.nx _ _ _ _ (R2.write z1 rfl rfl q1 p2 p5 (fun p' l' e => by cases e; exact ⟨_, rfl, p4.append (.one r2), p6⟩) (fun p' l' e => by cases e)) (s1.trans s2) z3
theorem ss_ext (c : Kst X EX H0 xa Γ C sc E) {i : Nat} {e : Ex} {x : Str} {v : Expr} {px ap p pos : Pos} (h1 : nmB C.N sc i x = true) (hn : nst v = true) (m : md e = .fr) (hl : (ap.endLine == p.line) = true) (he : SE X EX Γ H0 E e v) :
    SS X EX Γ H0 E (.ext i e) (.Expr (.Call (.Attribute (.Name x px) (Str.ofString "extend") ap) [v] [] p) pos) := fun ρ σ Hf H Z Y R w k => by
  refine mS.of (ps_expr (pe_bm PySem.F.plainAttrs_list PySem.F.slot_list_extend PySem.F.type_list_extend mt_extend (c.c.pv h1) (PA.m [v]) rfl (few1 hn) hl (star_cons hn) rfl) rfl) ?_
  have w' : (match ρ[i]? with
    | some (.own p l) => wE Γ E e ρ fun d ρ1 => ρ1[i]? = some (.own p l) ∧ match d with
      | .lst m => l.length + m.length ≤ sizeLine ∧ Z.nx (ρ1.set i (.own p (l ++ m)))
      | _ => False
    | _ => False) := w
  split at w' <;> first | exact w'.elim | skip
  rename_i pa l hx
  obtain ⟨a, xs, q1, q2, q3, q4, q5, q6⟩ := R.own i pa l hx
  refine ⟨.ref a, q1, .inl ⟨rfl, xs, .of q3⟩, ?_⟩
  refine mA.of (pa_cons (PE.m v) pa_nil (star_cons hn)) ?_
  refine he ρ σ Hf H _ _ R w' fun d1 ρ1 v1 Hf1 H1 R1 s1 t1 r1 w1 => ?_
  obtain ⟨z1, w1⟩ := w1
  rw [m] at r1
  obtain ⟨b, ys, p1, p2, p3, p4, p5, p6⟩ := R1.own i pa l z1
  rw [q1] at p1
  cases p1
  cases r1 with
  | sh nn _ =>
    cases d1 <;> first | (cases nn; done) | exact (show False from w1).elim
  | ownK => exact (show False from w1).elim
  | own n0 n h r f =>
    refine ⟨a, _, ys, _, rfl, rfl, p3, h, by rw [← p4.length, ← r.length]; exact w1.1, ?_⟩
    exact k.nx _ _ _ _ (R1.write z1 rfl rfl q1 p2 p5 (fun p' l' e => by cases e; exact ⟨_, rfl, p4.append r, p6⟩) (fun p' l' e => by cases e)) s1 w1.2
theorem putK_rep {K : PySem.W.Frag} {H : Hp} {j : Key} {d : DL.D} {v : V} (r : Rep K H d v) : ∀ {l : List (Key × DL.D)} {xs : List (Key × V)}, RepK K H l xs →
    (l.any fun kv => decide (kv.1 = j)) = (xs.any fun kv => decide (kv.1 = j)) ∧ RepK K H (l.map fun kv => if kv.1 = j then (kv.1, d) else kv) (xs.map fun kv => if kv.1 = j then (kv.1, v) else kv) ∧ RepK K H (l ++ [(j, d)]) (xs ++ [(j, v)])
  | _, _, .nil => ⟨rfl, .nil, .cons r .nil⟩
  | (k, d0) :: l, (_, v0) :: xs, .cons r0 t => by
    obtain ⟨i1, i2, i3⟩ := putK_rep r t
    refine ⟨by rw [List.any_cons, List.any_cons, i1], ?_, .cons r0 i3⟩
    rw [List.map_cons, List.map_cons]
    by_cases e : k = j
    · rw [if_pos e, if_pos e]; exact .cons r i2
    · rw [if_neg e, if_neg e]; exact .cons r0 i2
theorem RepK.put {K : PySem.W.Frag} {H : Hp} {j : Key} {d : DL.D} {v : V} (r : Rep K H d v) {l : List (Key × DL.D)} {xs : List (Key × V)} (h : RepK K H l xs) : RepK K H (putD l j d) (putK xs j v) := by
  obtain ⟨i1, i2, i3⟩ := putK_rep (j := j) r h
  unfold putD putK
  rw [i1]
  by_cases e : (xs.any fun kv => decide (kv.1 = j)) = true
  · rw [if_pos e, if_pos e]; exact i2
  · rw [if_neg e, if_neg e]; exact i3
theorem sub_sw {v o i : Expr} {p : Pos} {l : Nat} {env : Env} : swapsWith v (some (.Subscript o i p)) l env = pure false := by
  cases v <;> rfl
theorem ss_put (ek : EXok EX) (c : Kst X EX H0 xa Γ C sc E) {i : Nat} {kx e : Ex} {x : Str} {ky v : Expr} {px p pos : Pos} (h1 : nmB C.N sc i x = true) (n : nb e = true) (hk : SE X EX Γ H0 E kx ky) (he : SE X EX Γ H0 E e v) :
    SS X EX Γ H0 E (.put i kx e) (.Assign [.Subscript (.Name x px) ky p] v pos) := fun ρ σ Hf H Z Y R w k => by
  refine mS.of (ps_dput (by have := c.c.hu; omega) (c.c.pv h1) (PE.m ky) (PE.m v) sub_sw) ?_
  have w' : (match ρ[i]? with
    | some (.ownK p l) => wE Γ E e ρ fun d ρ1 => wE Γ E kx ρ1 fun y ρ2 => ρ1[i]? = some (.ownK p l) ∧ ρ2[i]? = some (.ownK p l) ∧ ∃ j, keyD y = some j ∧ l.length < sizeLine ∧ Z.nx (ρ2.set i (.ownK p (putD l j d)))
    | _ => False) := w
  split at w' <;> first | exact w'.elim | skip
  rename_i pa l hx
  obtain ⟨a, xs, q1, q2, q3, q4, q5, q6⟩ := R.ownK i pa l hx
  refine he ρ σ Hf H _ _ R w' fun d1 ρ1 v1 Hf1 H1 R1 s1 t1 r1 w1 => ?_
  obtain ⟨Hf1', R1', s1', r1'⟩ := r1.freeze (nb_md n) R1 ek
  refine ⟨.ref a, q1, ?_⟩
  refine hk ρ1 σ Hf1' H1 _ _ R1' w1 fun d2 ρ2 v2 Hf2 H2 R2 s2 t2 r2 w2 => ?_
  obtain ⟨z0, z1, j, hj, hz, z3⟩ := w2
  obtain ⟨b, ys, p1, p2, p3, p4, p5, p6⟩ := R2.ownK i pa l z1
  rw [q1] at p1
  cases p1
  rw [keyD_inv r2.toB hj]
  refine ⟨a, _, rfl, .k p3 (by rw [← p4.length]; exact hz), ?_⟩
  exact k.nx _ _ _ _ (R2.write z1 rfl rfl q1 p2 p5 (fun p' l' e => by cases e) (fun p' l' e => by cases e; exact ⟨_, rfl, p4.put (r1'.same s2), p6⟩)) (s1.trans (s1'.trans s2)) z3
theorem ss_seti (ek : EXok EX) (c : Kst X EX H0 xa Γ C sc E) {i : Nat} {kx e : Ex} {x : Str} {ky v : Expr} {px p pos : Pos} (h1 : nmB C.N sc i x = true) (n : nb e = true) (hns : nslice ky = true) (hk : SE X EX Γ H0 E kx ky) (he : SE X EX Γ H0 E e v) :
    SS X EX Γ H0 E (.seti i kx e) (.Assign [.Subscript (.Name x px) ky p] v pos) := fun ρ σ Hf H Z Y R w k => by
  refine mS.of (ps_asg (PE.m v) (pg_sub (c.c.pv h1) (PE.m ky) set_list (fun u => by cases ky <;> first | rfl | (cases hns; done))) (show swapsWith v (some (.Subscript (.Name x px) ky p)) pos.line X.env = pure false from sub_sw) (by cases v <;> rfl) rfl) ?_
  have w' : (match ρ[i]? with
    | some (.own p l) => wE Γ E e ρ fun d ρ1 => wE Γ E kx ρ1 fun y ρ2 => ρ1[i]? = some (.own p l) ∧ ρ2[i]? = some (.own p l) ∧ match y with
      | .int n => ∃ j, ixN l.length n = some j ∧ Z.nx (ρ2.set i (.own p (l.set j d)))
      | _ => False
    | _ => False) := w
  split at w' <;> first | exact w'.elim | skip
  rename_i pa l hx
  obtain ⟨a, xs, q1, q2, q3, q4, q5, q6⟩ := R.own i pa l hx
  refine he ρ σ Hf H _ _ R w' fun d1 ρ1 v1 Hf1 H1 R1 s1 t1 r1 w1 => ?_
  obtain ⟨Hf1', R1', s1', r1'⟩ := r1.freeze (nb_md n) R1 ek
  refine ⟨.ref a, q1, ?_⟩
  refine hk ρ1 σ Hf1' H1 _ _ R1' w1 fun d2 ρ2 v2 Hf2 H2 R2 s2 t2 r2 w2 => ?_
  obtain ⟨z0, z1, w3⟩ := w2
  obtain ⟨b, ys, p1, p2, p3, p4, p5, p6⟩ := R2.own i pa l z1
  rw [q1] at p1
  cases p1
  cases d2 with
  | int nn =>
    obtain ⟨j, hj, z3⟩ := w3
    refine ⟨a, ys, nn, j, rfl, r2.toB.int_inv, p3, by rw [← p4.length]; exact hj, ?_⟩
    exact k.nx _ _ _ _ (R2.write z1 rfl rfl q1 p2 p5 (fun p' l' e => by cases e; exact ⟨_, rfl, p4.set (r1'.same s2) j, p6⟩) (fun p' l' e => by cases e)) (s1.trans (s1'.trans s2)) z3
  | _ => exact (show False from w3).elim
theorem ss_ife {t : Ex} {a b : Sxs} {ce : Expr} {x y : List Stmt} {pos : Pos} (ht : ST X EX Γ H0 E t ce) (ha : SSs X EX Γ H0 E a x) (hb : SSs X EX Γ H0 E b y) : SS X EX Γ H0 E (.ife t a b) (.If ce x y pos) := fun ρ σ Hf H Z Y R w k => by
  refine mS.of (ps_if (PT.m ce) (PSs.m x) (PSs.m y)) ?_
  refine ht ρ σ Hf H _ _ R w fun c ρ1 Hf1 H1 R1 s1 t1 w1 => ?_
  cases c with
  | true =>
    rw [if_pos rfl] at w1 ⊢
    exact ha ρ1 σ Hf1 H1 Z Y R1 w1 (k.mono s1)
  | false =>
    rw [if_neg Bool.false_ne_true] at w1 ⊢
    exact hb ρ1 σ Hf1 H1 Z Y R1 w1 (k.mono s1)
theorem ss_whl (c : Kst X EX H0 xa Γ C sc E) {t : Ex} {b : Sxs} {ce : Expr} {x : List Stmt} {pos : Pos} (ht : ST X EX Γ H0 E t ce) (hb : SSs X EX Γ H0 E b x) : SS X EX Γ H0 E (.whl t b) (.While ce x [] pos) := fun ρ σ Hf H Z Y R w k => by
  refine mS.of (ps_while c.own (PT.m ce) (PSs.m x)) ?_
  obtain ⟨W, ⟨m0, w0⟩, turn⟩ := w
  refine ⟨fun m σ H => ∃ ρ Hf1, SR X.K EX H0 ρ σ Hf1 H ∧ Same Hf Hf1 ∧ W m ρ, ⟨m0, ρ, Hf, R, Same.refl _, w0⟩, ?_⟩
  rintro m σ1 H1 ⟨ρ1, Hf1, R1, s1, w1⟩
  refine ht ρ1 σ1 Hf1 H1 _ _ R1 (turn m ρ1 w1) fun cc ρ2 Hf2 H2 R2 s2 t2 w2 => ?_
  cases cc with
  | true =>
    rw [if_pos rfl] at w2 ⊢
    refine ⟨fun σ' H' => ∃ ρ' Hf', SR X.K EX H0 ρ' σ' Hf' H' ∧ Same Hf Hf' ∧ ∃ m', m' < m ∧ W m' ρ', fun σ' H' ⟨ρ', Hf', R', s', m', l, q⟩ => ⟨m', l, ρ', Hf', R', s', q⟩, ?_⟩
    refine hb ρ2 σ1 Hf2 H2 _ _ R2 w2 ⟨fun ρ' σ' Hf' H' R' s' q => ⟨ρ', Hf', R', s1.trans (s2.trans s'), q⟩, fun d ρ' v σ' Hf' H' m R' s' a b r q => k.rt d ρ' v σ' Hf' H' m R' (s1.trans (s2.trans s')) a b r q, fun ρ' σ' Hf' H' R' s' q => k.nx ρ' σ' Hf' H' R' (s1.trans (s2.trans s')) q, fun ρ' σ' Hf' H' R' s' q => ⟨ρ', Hf', R', s1.trans (s2.trans s'), q⟩⟩
  | false =>
    rw [if_neg Bool.false_ne_true] at w2 ⊢
    exact k.nx ρ2 σ1 Hf2 H2 R2 (s1.trans s2) w2
theorem ss_for (c : Kst X EX H0 xa Γ C sc E) {g : Tg} {kk : ItK} {l : Exs} {b : Sxs} {tg it : Expr} {x : List Stmt} {pos : Pos} (hn : nbA l = true) (hs : nset it = true) (hg : ckG C.N none sc g tg = true) (hi : SI X EX Γ H0 E kk l tg it) (hb : SSs X EX Γ H0 E b x) : SS X EX Γ H0 E (.for_ g kk l b) (.For tg it x [] pos) := fun ρ σ Hf H Z Y R w k => by
  refine mS.of (ps_for c.own c.c.calm (PI.m tg it) (PG.m tg) (PSs.m x) (nset_fold hs)) ?_
  refine hi ρ σ Hf H _ _ R w fun ρ1 Hf1 H1 J items bb R1 s1 t1 itd hbb w1 => ?_
  cases hbb hn
  refine ⟨fun i m σ H => m = items.length - i ∧ i ≤ items.length ∧ ∃ ρ' Hf', SR X.K EX H0 ρ' σ Hf' H ∧ Same Hf1 Hf' ∧ forL (wG g) (wSs Γ E b) Z (items.drop i) ρ', ⟨items.length, by simp, Nat.zero_le _, ρ1, Hf1, R1, Same.refl _, w1⟩, ?_⟩
  rintro i m σ2 H2 ⟨rfl, hi, ρ2, Hf2, R2, s2, w2⟩
  by_cases hlt : i < items.length
  · refine .inr ⟨itd.go i Hf2 H2 s2 R2.sub nofun hlt, fun σ' H' => ∃ ρ' Hf', SR X.K EX H0 ρ' σ' Hf' H' ∧ Same Hf1 Hf' ∧ forL (wG g) (wSs Γ E b) Z (items.drop (i + 1)) ρ', fun σ' H' ⟨ρ', Hf', R', s', q⟩ => ⟨items.length - (i + 1), by omega, rfl, hlt, ρ', Hf', R', s', q⟩, fun v H3 y => ?_⟩
    have hget : items[i]? = some items[i] := by simp [hlt]
    rw [List.drop_eq_getElem_cons hlt] at w2
    obtain ⟨Hf3, R3, s3, t3, r3⟩ := itd.yld _ i items[i] H2 v H3 Hf2 ρ2 σ2 R2 s2 nofun hget y
    have w3 : wG g items[i] ρ2 fun ρ3 => wSs Γ E b { nx := forL (wG g) (wSs Γ E b) Z (items.drop (i + 1)), rt := Z.rt, rtF := Z.rtF, bk := Z.nx, ct := forL (wG g) (wSs Γ E b) Z (items.drop (i + 1)) } ρ3 := w2
    refine sg c.g g tg hg ρ2 σ2 Hf3 H3 _ v _ _ R3 r3 w3 fun ρ4 σ4 R4 _ _ w4 => ?_
    have sA : Same Hf1 Hf3 := s2.trans s3
    refine hb ρ4 σ4 Hf3 H3 _ _ R4 w4 ⟨fun ρ' σ' Hf' H' R' s' q => ⟨ρ', Hf', R', sA.trans s', q⟩, fun d ρ' v σ' Hf' H' m R' s' a b r q => k.rt d ρ' v σ' Hf' H' m R' (s1.trans (sA.trans s')) a b r q, fun ρ' σ' Hf' H' R' s' q => k.nx ρ' σ' Hf' H' R' (s1.trans (sA.trans s')) q, fun ρ' σ' Hf' H' R' s' q => ⟨ρ', Hf', R', sA.trans s', q⟩⟩
  · have e : i = items.length := by omega
    subst e
    rw [List.drop_length] at w2
    exact .inl ⟨itd.stop Hf2 H2 s2 R2.sub nofun, k.nx ρ2 σ2 Hf2 H2 R2 (s1.trans s2) w2⟩
theorem ss_brk {pos : Pos} : SS X EX Γ H0 E .brk (.Break pos) := fun ρ σ Hf H Z Y R w k => mS.of ps_break (k.bk ρ σ Hf H R (Same.refl _) w)
theorem ss_cont {pos : Pos} : SS X EX Γ H0 E .cont (.Continue pos) := fun ρ σ Hf H Z Y R w k => mS.of ps_continue (k.ct ρ σ Hf H R (Same.refl _) w)
theorem ss_pass {pos : Pos} : SS X EX Γ H0 E .pass (.Pass pos) := fun ρ σ Hf H Z Y R w k => mS.of ps_pass (k.nx ρ σ Hf H R (Same.refl _) w)
theorem sss_nil : SSs X EX Γ H0 E .nil [] := fun ρ σ Hf H Z Y R w k => mSs.of pss_nil (k.nx ρ σ Hf H R (Same.refl _) w)
theorem sss_cons {s : Sx} {l : Sxs} {st : Stmt} {r : List Stmt} (hs : SS X EX Γ H0 E s st) (hl : SSs X EX Γ H0 E l r) : SSs X EX Γ H0 E (.cons s l) (st :: r) := fun ρ σ Hf H Z Y R w k => by
  refine mSs.of (pss_cons (PS.m st) (PSs.m r)) ?_
  refine hs ρ σ Hf H _ _ R w ⟨fun ρ' σ' Hf' H' R' s' q => hl ρ' σ' Hf' H' Z Y R' q (k.mono s'), k.rt, k.bk, k.ct⟩
end
end DL
/-! DS: bodies, defs -/
namespace DL
open PySem PySem.Spec PyProof.Rows L2
section
variable {EX : EXT} {Γ : Nat → FSp} {xa : Nat → Addr} {C : Cn} {X : Cx} {H0 : Ent} {E : DX → DEnv → Prop} {sc : Scope}
mutual
theorem sS (ek : EXok EX) (c : Kst X EX H0 xa Γ C sc E) : ∀ (x : Sx) (st : Stmt), ckS C sc x st = true → SS X EX Γ H0 E x st
  | .asg g e, st, h => by
    unfold ckS at h; split at h <;> first | (cases h; done) | skip
    obtain ⟨h, h5⟩ := of_and h
    obtain ⟨h, h4⟩ := of_and h
    obtain ⟨h, h3⟩ := of_and h
    obtain ⟨h1, h2⟩ := of_and h
    exact ss_asg ek c h1 h3 h4 h5 (sE ek e X H0 E sc _ c.toKx h2)
  | .own i e, st, h => by
    unfold ckS at h; split at h <;> first | (cases h; done) | skip
    obtain ⟨h, h5⟩ := of_and h
    obtain ⟨h, h4⟩ := of_and h
    obtain ⟨h, h3⟩ := of_and h
    obtain ⟨h1, h2⟩ := of_and h
    exact ss_own c h1 (of_decide_eq_true h3) h4 h5 (sE ek e X H0 E sc _ c.toKx h2)
  | .lcs _ i g k l t e, st, h => by
    unfold ckS at h; split at h <;> first | (cases h; done) | skip
    obtain ⟨h, h3⟩ := of_and h
    obtain ⟨h1, h2⟩ := of_and h
    exact ss_lcs ek c h1 h3 h2
  | .aug i o e, st, h => by
    unfold ckS at h; split at h <;> first | (cases h; done) | skip
    obtain ⟨h, h4⟩ := of_and h
    obtain ⟨h, h3⟩ := of_and h
    obtain ⟨h1, h2⟩ := of_and h
    exact ss_aug c h1 h2 h4 (sE ek e X H0 E sc _ c.toKx h3)
  | .ret e, st, h => by
    unfold ckS at h; split at h <;> first | (cases h; done) | skip
    obtain ⟨h1, h2⟩ := of_and h
    exact ss_ret ek h2 (sE ek e X H0 E sc _ c.toKx h1)
  | .retN, st, h => by
    unfold ckS at h; split at h <;> first | (cases h; done) | skip
    exact ss_retN
  | .expr e, st, h => by
    unfold ckS at h; split at h <;> first | (cases h; done) | skip
    obtain ⟨h1, h2⟩ := of_and h
    exact ss_expr h2 (sE ek e X H0 E sc _ c.toKx h1)
  | .app i e, st, h => by
    unfold ckS at h; split at h <;> first | (cases h; done) | skip
    obtain ⟨h, h6⟩ := of_and h
    obtain ⟨h, h5⟩ := of_and h
    obtain ⟨h, h4⟩ := of_and h
    obtain ⟨h, h3⟩ := of_and h
    obtain ⟨h1, h2⟩ := of_and h
    cases of_decide_eq_true h1
    exact ss_app ek c h2 h4 h5 h6 (sE ek e X H0 E sc _ c.toKx h3)
  | .ext i e, st, h => by
    unfold ckS at h; split at h <;> first | (cases h; done) | skip
    obtain ⟨h, h6⟩ := of_and h
    obtain ⟨h, h5⟩ := of_and h
    obtain ⟨h, h4⟩ := of_and h
    obtain ⟨h, h3⟩ := of_and h
    obtain ⟨h1, h2⟩ := of_and h
    cases of_decide_eq_true h1
    exact ss_ext c h2 h4 (of_decide_eq_true h5) h6 (sE ek e X H0 E sc _ c.toKx h3)
  | .put i k e, st, h => by
    unfold ckS at h; split at h <;> first | (cases h; done) | skip
    obtain ⟨h, h4⟩ := of_and h
    obtain ⟨h, h3⟩ := of_and h
    obtain ⟨h1, h2⟩ := of_and h
    exact ss_put ek c h1 h4 (sE ek k X H0 E sc _ c.toKx h2) (sE ek e X H0 E sc _ c.toKx h3)
  | .seti i k e, st, h => by
    unfold ckS at h; split at h <;> first | (cases h; done) | skip
    obtain ⟨h, h5⟩ := of_and h
    obtain ⟨h, h4⟩ := of_and h
    obtain ⟨h, h3⟩ := of_and h
    obtain ⟨h1, h2⟩ := of_and h
    exact ss_seti ek c h1 h4 h5 (sE ek k X H0 E sc _ c.toKx h2) (sE ek e X H0 E sc _ c.toKx h3)
  | .ife t a b, st, h => by
    unfold ckS at h; split at h <;> first | (cases h; done) | skip
    obtain ⟨h, h3⟩ := of_and h
    obtain ⟨h1, h2⟩ := of_and h
    exact ss_ife (sT ek t X H0 E sc _ c.toKx h1) (sSs ek c a _ h2) (sSs ek c b _ h3)
  | .whl t b, st, h => by
    unfold ckS at h; split at h <;> first | (cases h; done) | skip
    obtain ⟨h1, h2⟩ := of_and h
    exact ss_whl c (sT ek t X H0 E sc _ c.toKx h1) (sSs ek c b _ h2)
  | .for_ g k l b, st, h => by
    unfold ckS at h; split at h <;> first | (cases h; done) | skip
    obtain ⟨h, h5⟩ := of_and h
    obtain ⟨h, h4⟩ := of_and h
    obtain ⟨h, h3⟩ := of_and h
    obtain ⟨h1, h2⟩ := of_and h
    exact ss_for c h2 h3 h4 (sI ek l k X H0 E sc _ _ c.toKx h1) (sSs ek c b _ h5)
  | .brk, st, h => by
    unfold ckS at h; split at h <;> first | (cases h; done) | skip
    exact ss_brk
  | .cont, st, h => by
    unfold ckS at h; split at h <;> first | (cases h; done) | skip
    exact ss_cont
  | .pass, st, h => by
    unfold ckS at h; split at h <;> first | (cases h; done) | skip
    exact ss_pass
theorem sSs (ek : EXok EX) (c : Kst X EX H0 xa Γ C sc E) : ∀ (x : Sxs) (st : List Stmt), ckSs C sc x st = true → SSs X EX Γ H0 E x st
  | .nil, st, h => by
    unfold ckSs at h; split at h <;> first | (cases h; done) | skip
    exact sss_nil
  | .cons s r, st, h => by
    unfold ckSs at h; split at h <;> first | (cases h; done) | skip
    obtain ⟨h1, h2⟩ := of_and h
    exact sss_cons (sS ek c s _ h1) (sSs ek c r _ h2)
end
end
/-! ### defs -/
/-- a def's slots at its entry -/
def ent0 (N : List Str) (ds : List D) : DEnv := ds.map Sl.sh ++ List.replicate (N.length - ds.length) .un
section
variable {P : Program} {w : World} {K : PySem.W.Frag} {mg : Str → Option Value} {base : Heap} {EX : EXT} {Γ : Nat → FSp} {xa : Nat → Addr}
theorem entry_sr {N : List Str} {ds : List D} {vs : List V} {Hf H : Hp} (s : Same Hf H) (r : Reps K Hf ds vs) : SR K EX ⟨Hf, H⟩ (ent0 N ds) (L2.start N vs) Hf H := by
  have hl := r.length
  have get : ∀ {i : Nat} {x : Sl}, (ent0 N ds)[i]? = some x → (∃ d, ds[i]? = some d ∧ x = .sh d) ∨ x = .un := fun {i x} e => by
    unfold ent0 at e
    by_cases hi : i < ds.length
    · rw [List.getElem?_append_left (by simpa using hi), List.getElem?_map] at e
      cases q : ds[i]? with
      | none => rw [q] at e; cases e
      | some d => rw [q] at e; cases e; exact .inl ⟨d, rfl, rfl⟩
    · rw [List.getElem?_append_right (by simpa using hi), List.getElem?_replicate] at e
      split at e
      · cases e; exact .inr rfl
      · cases e
  have no : ∀ {i : Nat} {x : Sl}, (ent0 N ds)[i]? = some x → x.isOwn = true → False := fun e o => by
    rcases get e with ⟨d, _, rfl⟩ | rfl <;> cases o
  refine ⟨Same.refl _, Same.refl _, fun a _ h => h, s, ?_, fun i d e => ?_, fun i p l e => (no e rfl).elim, fun i p l e => (no e rfl).elim, fun i c l e => ?_, fun i j s t a _ e1 _ o1 _ _ _ => (no e1 o1).elim⟩
  · unfold ent0 L2.start
    rw [List.length_append, List.length_append, List.length_map, List.length_map, List.length_replicate, List.length_replicate, hl]
  · rcases get e with ⟨d', h, z⟩ | z
    · cases z
      obtain ⟨v, hv, rv⟩ := r.get h
      refine ⟨v, ?_, rv⟩
      have hi : i < vs.length := (List.getElem?_eq_some_iff.mp hv).1
      unfold L2.start
      rw [List.getElem?_append_left (by simpa using hi), List.getElem?_map, hv]; rfl
    · cases z
  · rcases get e with ⟨d', h, z⟩ | z <;> cases z
/-- a def of the program keeps its promise -/
def FG (P : Program) (w : World) (K : PySem.W.Frag) (mg : Str → Option Value) (base : Heap) (xa : Nat → Addr) (Γ : Nat → FSp) (C : Cn) (f : Nat) : Prop :=
  ∃ (fa : Addr) (fd : FuncData) (ps : List Str), mg (C.nm f) = some (.ref fa) ∧ PySem.W.keepIn K (.ref fa) = true ∧ Binds K fd ps [] ∧ FnOk P w K mg base (L2.CX P w) (C.lv f) fa fd ps (low K xa (Γ f))
def FGK (P : Program) (w : World) (K : PySem.W.Frag) (mg : Str → Option Value) (base : Heap) (xa : Nat → Addr) (Γ : Nat → FSp) (C : Cn) (f : Nat) (ks : List Str) (pm : List Nat) : Prop :=
  ∃ (fa : Addr) (fd : FuncData) (ps : List Str), mg (C.nm f) = some (.ref fa) ∧ PySem.W.keepIn K (.ref fa) = true ∧ KB K fd ps ks pm ∧ FnOk P w K mg base (L2.CX P w) (C.lv f) fa fd ps (low K xa (Γ f))
/-- the world about the defs -/
structure Wd (P : Program) (w : World) (K : PySem.W.Frag) (mg : Str → Option Value) (base : Heap) (EX : EXT) (xa : Nat → Addr) (Γ : Nat → FSp) (C : Cn) : Prop where
  fns : ∀ g ∈ C.dep, FG P w K mg base xa Γ C g
  kws : ∀ p ∈ C.kw, FGK P w K mg base xa Γ C p.1 p.2.1 p.2.2
  blt : ∀ x ∈ bltNames, mg x = none
theorem kst_of {C : Cn} {qual : Str} {st : Stmt} {f : Addr} {ps : List Str} (W : Wd P w K mg base EX xa Γ C) (S : FnScope C.N ps (defScope st)) {cdv : Value} {A : Around} {outer : List Env} {s : Shared} {H : Hp} {Ex : XK} {H0 : Ent} {ED : DX → DEnv → Prop}
    (hr : Room C.k (A.deeper (envOfC qual (defScope st) s.heap.objs.size f cdv))) (tk : ∀ c d σ H', lowW K EX H0 xa ED c d σ H' → Ex c d H') : Kst (cxOf (L2.CX P w) P w K mg base C.N qual (defScope st) f cdv A outer s H Ex) EX H0 xa Γ C (defScope st) ED where
  c := { N := rfl, nd := S.nd, scp := rfl, calm := rfl, room := hr, fns := W.fns, blt := W.blt }
  kw := W.kws
  tk := (takes_of rfl rfl rfl rfl).imp fun c d σ H' h => tk c d σ H' h
  own := passes_of rfl
  fn := fun _ => rfl
  kind := S.kind
theorem def_ok {C : Cn} {x qual : Str} {st : Stmt} {f : Addr} {fd : FuncData} {ps : List Str} {sp : FSp} {body : Sxs} (F : Fun K x qual st f fd) (S : FnScope C.N ps (defScope st)) (ek : EXok EX) (W : Wd P w K mg base EX xa Γ C)
    (hck : ckSs C (defScope st) body (defBody st) = true) (hlen : ∀ ds Q E, sp ds Q E → ds.length = ps.length)
    (hw : ∀ ds (QD : D → Prop) (QE : DX → Prop), sp ds QD QE → wSs Γ (fun dx _ => QE dx) body { nx := fun _ => QD .non, rt := fun d _ => QD d } (ent0 C.N ds)) : FnOk P w K mg base (L2.CX P w) (C.k + 1) f fd ps (low K xa sp) := by
  refine F.okX S (fun vs H Q E ⟨ds, QD, QE, Hf, _, r, h, _⟩ => by rw [← r.length]; exact hlen _ _ _ h) fun cdv A outer s H vs Q E hr hsp => ?_
  obtain ⟨ds, QD, QE, Hf, s0, r, h, hQ, hE⟩ := hsp
  have R := entry_sr (EX := EX) (N := C.N) s0 r
  have c : Kst (cxOf (L2.CX P w) P w K mg base C.N qual (defScope st) f cdv A outer s H E) EX ⟨Hf, H⟩ xa Γ C (defScope st) (fun dx _ => QE dx) := kst_of W S hr fun cls d σ H' ⟨ci, l, dd, xs, ρ, Hf', e1, e2, R', hx, rx, q⟩ => by
    subst e1 e2
    exact hE ci l dd xs Hf' H' R'.ent R'.base R'.sub R'.nof hx rx q
  refine ⟨_, PSs.m _, ?_⟩
  refine sSs ek c body _ hck (ent0 C.N ds) (L2.start C.N vs) Hf H _ _ R (hw ds QD QE h) ⟨fun ρ' σ' Hf' H' R' s' q => ?_, fun d ρ' v σ' Hf' H' m R' s' mb _ rv q => ?_, fun _ _ _ _ _ _ q => q.elim, fun _ _ _ _ _ _ q => q.elim⟩
  · exact hQ _ _ Hf' H' R'.ent s' R'.sub R'.nof .non q
  · obtain ⟨Hf2, R2, s2, r2⟩ := rv.freeze mb R' ek
    exact hQ d v Hf2 H' R2.ent (s'.trans s2) R2.sub R2.nof r2 q
end
end DL
/-! DT: a thing that is handed about and changed, with its lid on -/
namespace DL
open PySem PySem.Spec PyProof.Rows L2
def OpenO : HO → Prop
  | .lst _ => True
  | .dK _ => True
  | _ => False
def Phi (P : Program) (w : World) (a : Addr) (I : HO → Prop) : Heap → Prop := fun h => ∃ o, I o ∧ OpenO o ∧ ObjOk P w (fun _ => none) h a o
section
variable {P : Program} {w : World} {H H' : Hp} {h h' : Heap} {a : Addr} {o : HO} {I : HO → Prop}
theorem openO_stay (q : OpenO o) (x : ObjOk P w H h a o) (e : ∀ u, h.get? a = some u → h'.get? a = some u) : ObjOk P w H' h' a o := by
  cases o <;> first | exact q.elim | skip
  · obtain ⟨z, its, n, r, e0⟩ := x; exact ⟨z, its, n, r, e _ e0⟩
  · obtain ⟨z, y, vs, r, ob, es, ep, e0, c⟩ := x; exact ⟨z, y, vs, r, ob, es, ep, e _ e0, c⟩
theorem openO_there (q : OpenO o) (x : ObjOk P w H h a o) : ∃ u, h.get? a = some u := by
  cases o <;> first | exact q.elim | skip
  · obtain ⟨z, its, n, r, e0⟩ := x; exact ⟨_, e0⟩
  · obtain ⟨z, y, vs, r, ob, es, ep, e0, c⟩ := x; exact ⟨_, e0⟩
theorem phi_make (i : I o) (q : OpenO o) (x : ObjOk P w H h a o) : ObjOk P w H' h a (.ext (Phi P w a I)) :=
  ⟨⟨o, i, q, openO_stay q x fun _ e => e⟩, openO_there q x, fun _ _ ⟨o, i, q, x⟩ k => ⟨o, i, q, openO_stay q x k⟩⟩
theorem openO_mut (q : OpenO o) : Mut (some o) := by
  cases o <;> first | exact q.elim | trivial
theorem opens (x : HOk P w H h) (e : H a = some (.ext (Phi P w a I))) : ∃ o, I o ∧ OpenO o ∧ HOk P w (upd H a o) h := by
  obtain ⟨⟨o, i, q, y⟩, there, _⟩ := x a _ e
  refine ⟨o, i, q, x.write (by rw [e]; trivial) (.inl rfl) (fun _ _ _ z => z) there (openO_stay q y fun _ z => z)⟩
theorem closes (x : HOk P w H h) (e : H a = some o) (i : I o) (q : OpenO o) : HOk P w (upd H a (.ext (Phi P w a I))) h :=
  x.write (by rw [e]; exact openO_mut q) (.inl rfl) (fun _ _ _ z => z) (openO_there q (x a _ e)) (phi_make i q (x a _ e))
end
/-- H without a -/
def less (H : Hp) (a : Addr) : Hp := fun b => if b = a then none else H b
theorem less_same {H : Hp} {a : Addr} : less H a a = none := if_pos rfl
theorem less_ne {H : Hp} {a b : Addr} (h : b ≠ a) : less H a b = H b := if_neg h
theorem less_sub {H : Hp} {a : Addr} : Same (less H a) H := fun b u q => by
  by_cases h : b = a
  · subst h; rw [less_same] at q; cases q
  · rw [less_ne h] at q; exact q
section
variable {P : Program} {w : World} {K : PySem.W.Frag} {mg : Str → Option Value} {base : Heap} {CX : CXT} {k : Nat} {f : Addr} {fd : FuncData} {ps : List Str} {sp sp' : Sp}
/-- the object at a under its lid: taken off for the call, put on again behind it -/
theorem open_ok (F : FnOk P w K mg base (L2.CX P w) k f fd ps sp) (h : ∀ vs H Q E, sp' vs H Q E → ∃ a I, H a = some (.ext (Phi P w a I)) ∧ ∀ o, I o → OpenO o → sp vs (upd H a o) (fun v H' => ∃ o', I o' ∧ OpenO o' ∧ H' a = some o' ∧ Q v (upd H' a (.ext (Phi P w a I)))) (fun _ _ _ => False))
    (hl : ∀ vs H Q E, sp' vs H Q E → vs.length = ps.length) : FnOk P w K mg base (L2.CX P w) k f fd ps sp' := by
  refine ⟨hl, fun A outer s H args us vs Q E hr e0 hb hv hs => ?_⟩
  obtain ⟨a, I, ha, hsp⟩ := h vs H Q E hs
  obtain ⟨o, i, q, hok⟩ := opens e0.hok ha
  have none_of : ∀ {b : Addr}, H b = none → upd H a o b = none := fun {b} z => by
    rw [upd_ne (fun e => by rw [e, ha] at z; cases z)]; exact z
  have e1 : Env0 P w K mg base A outer s (upd H a o) := ⟨e0.frames, e0.mod, fun b ob z => ⟨(e0.bs b ob z).1, none_of (e0.bs b ob z).2⟩, e0.bsz, e0.funs, fun b z => none_of (e0.frf b z), hok, e0.bare⟩
  refine codeAny_mono (F.run A outer s (upd H a o) args us vs _ _ hr e1 hb hv (hsp o i q)) fun r s' hq => ?_
  cases r with
  | error e =>
    obtain ⟨_, _, _, _, _, _, _, _, _, _, _, _, z⟩ := hq
    exact z.elim
  | ok fl =>
    cases fl with
    | next => exact False.elim hq
    | brk => exact False.elim hq
    | cont => exact False.elim hq
    | ret u =>
      obtain ⟨v, H', os, bare, un, hok', rv, o', i', q', ha', hQ⟩ := hq
      have ne : ∀ {b : Addr} {u : HO}, H b = some u → (∀ φ, u ≠ .ext φ) → upd H a o b = some u := fun {b u} z n => by
        rw [upd_ne (fun e => by rw [e, ha] at z; cases z; exact n _ rfl)]; exact z
      have back : ∀ {b : Addr} {u : HO}, H' b = some u → (¬ OpenO u) → upd H' a (.ext (Phi P w a I)) b = some u := fun {b u} z n => by
        rw [upd_ne (fun e => by rw [e, ha'] at z; cases z; exact n q')]; exact z
      refine ⟨v, _, os, bare, ⟨fun b ob e z m1 m2 => un.keep b ob e (none_of z) m1 m2, fun b ob e z m1 m2 => un.slot b ob e (none_of z) m1 m2, fun b ob e z m2 => ?_, un.there, fun b xs e => ?_, fun b ob u e => ?_, fun b pp e => ?_⟩, closes hok' ha' i' q', rv, hQ⟩
      · rw [upd_ne (fun e => by rw [e, ha] at z; cases z)]
        exact un.free b ob e (none_of z) m2
      · exact back (un.tups b xs (ne e nofun)) (fun z => z)
      · exact back (un.frzs b ob u (ne e nofun)) (fun z => z)
      · obtain ⟨more, z⟩ := un.tbls b pp (ne e nofun)
        exact ⟨more, back z (fun z => z)⟩
end
/-- a list or dict of D against the object -/
inductive RepO (K : PySem.W.Frag) (H : Hp) : D → HO → Prop
  | lst {l : List D} {xs : List V} : Reps K H l xs → RepO K H (.lst l) (.lst xs)
  | dct {l : List (Key × D)} {xs : List (Key × V)} : RepK K H l xs → RepO K H (.dct l) (.dK xs)
theorem RepO.same {K : PySem.W.Frag} {H H' : Hp} (e : Same H H') {d : D} {o : HO} (r : RepO K H d o) : RepO K H' d o := by
  cases r with
  | lst r => exact .lst (r.same e)
  | dct r => exact .dct (r.same e)
theorem RepO.op {K : PySem.W.Frag} {H : Hp} {d : D} {o : HO} (r : RepO K H d o) : OpenO o := by
  cases r <;> trivial
/-- the slot of such a one -/
def slO (p : Option Addr) : D → Sl
  | .lst l => .own p l
  | .dct l => .ownK p l
  | _ => .un
theorem slO_own {K : PySem.W.Frag} {H : Hp} {d : D} {o : HO} {p : Option Addr} (r : RepO K H d o) : (slO p d).isOwn = true := by
  cases r <;> rfl
abbrev OSp := D → List D → (D → D → Prop) → Prop
/-- the promise of a def whose first argument is such a one, and may be changed -/
def lowO (K : PySem.W.Frag) (sp : OSp) : Sp := fun vs H Q E => ∃ (a : Addr) (o : HO) (d0 : D) (ds : List D) (vs' : List V) (QD : D → D → Prop) (Hf : Hp), vs = .ref a :: vs' ∧ Same Hf H ∧ Hf a = none ∧ H a = some o ∧ RepO K Hf d0 o ∧ Reps K Hf ds vs' ∧ sp d0 ds QD ∧
  ∀ d v d' o' Hf' H', Same (less H a) H' → Same Hf Hf' → Same Hf' H' → H' a = some o' → RepO K Hf' d' o' → Rep K Hf' d v → QD d d' → Q v H'
/-- a def's slots at its entry, the first one open -/
def entO (N : List Str) (a : Addr) (d0 : D) (ds : List D) : DEnv := slO (some a) d0 :: (ds.map Sl.sh ++ List.replicate (N.length - (ds.length + 1)) .un)
section
variable {P : Program} {w : World} {K : PySem.W.Frag} {mg : Str → Option Value} {base : Heap} {EX : EXT} {Γ : Nat → FSp} {xa : Nat → Addr}
theorem entO_sr {N : List Str} {a : Addr} {o : HO} {d0 : D} {ds : List D} {vs : List V} {Hf H : Hp} (s : Same Hf H) (n : Hf a = none) (ha : H a = some o) (r0 : RepO K Hf d0 o) (r : Reps K Hf ds vs) : SR K EX ⟨Hf, less H a⟩ (entO N a d0 ds) (L2.start N (V.ref a :: vs)) Hf H := by
  have hl := r.length
  have get : ∀ {i : Nat} {x : Sl}, (entO N a d0 ds)[i]? = some x → (i = 0 ∧ x = slO (some a) d0) ∨ (∃ d j, i = j + 1 ∧ ds[j]? = some d ∧ x = .sh d) ∨ x = .un := fun {i x} e => by
    cases i with
    | zero => cases e; exact .inl ⟨rfl, rfl⟩
    | succ i =>
      have e : (ds.map Sl.sh ++ List.replicate (N.length - (ds.length + 1)) .un)[i]? = some x := e
      by_cases hi : i < ds.length
      · rw [List.getElem?_append_left (by simpa using hi), List.getElem?_map] at e
        cases q : ds[i]? with
        | none => rw [q] at e; cases e
        | some d => rw [q] at e; cases e; exact .inr (.inl ⟨d, i, rfl, q, rfl⟩)
      · rw [List.getElem?_append_right (by simpa using hi), List.getElem?_replicate] at e
        split at e
        · cases e; exact .inr (.inr rfl)
        · cases e
  have z0 : (L2.start N (V.ref a :: vs))[0]? = some (some (V.ref a)) := rfl
  have so : (slO (some a) d0).isOwn = true := slO_own r0
  have own0 : ∀ {i : Nat} {x : Sl}, (entO N a d0 ds)[i]? = some x → x.isOwn = true → i = 0 ∧ x = slO (some a) d0 := fun e o => by
    rcases get e with h | ⟨d, j, _, _, rfl⟩ | rfl
    · exact h
    · cases o
    · cases o
  refine ⟨Same.refl _, less_sub, fun b h1 h2 => h2, s, ?_, fun i d e => ?_, fun i p l e => ?_, fun i p l e => ?_, fun i c l e => ?_, fun i j s t b nn e1 e2 o1 o2 _ _ => ?_⟩
  · unfold entO L2.start
    simp [hl]
  · rcases get e with ⟨rfl, z⟩ | ⟨d', j, rfl, h, z⟩ | z
    · rw [← z] at so; cases so
    · cases z
      obtain ⟨v, hv, rv⟩ := r.get h
      refine ⟨v, ?_, rv⟩
      have hi : j < vs.length := (List.getElem?_eq_some_iff.mp hv).1
      show (List.map some vs ++ _)[j]? = _
      rw [List.getElem?_append_left (by simpa using hi), List.getElem?_map, hv]; rfl
    · cases z
  · obtain ⟨rfl, z⟩ := own0 e rfl
    cases r0 with
    | lst r0 => cases z; exact ⟨a, _, z0, n, ha, r0, less_same, fun b e => by cases e; rfl⟩
    | dct r0 => cases z
  · obtain ⟨rfl, z⟩ := own0 e rfl
    cases r0 with
    | lst r0 => cases z
    | dct r0 => cases z; exact ⟨a, _, z0, n, ha, r0, less_same, fun b e => by cases e; rfl⟩
  · rcases get e with ⟨rfl, z⟩ | ⟨d', j, rfl, h, z⟩ | z
    · rw [← z] at so; cases so
    · cases z
    · cases z
  · exact nn ((own0 e1 o1).1.trans (own0 e2 o2).1.symm)
theorem slO_exit {ρ : DEnv} {σ : L2.St} {H0 : Ent} {Hf H : Hp} {a : Addr} {d' : D} (R : SR K EX H0 ρ σ Hf H) (e : ρ[0]? = some (slO (some a) d')) (o : (slO (some a) d').isOwn = true) : ∃ o', H a = some o' ∧ RepO K Hf d' o' := by
  cases d' <;> first | (cases o; done) | skip
  · obtain ⟨b, xs, _, _, h3, r, _, hp⟩ := R.own 0 _ _ e
    cases hp a rfl
    exact ⟨_, h3, .lst r⟩
  · obtain ⟨b, xs, _, _, h3, r, _, hp⟩ := R.ownK 0 _ _ e
    cases hp a rfl
    exact ⟨_, h3, .dct r⟩
theorem def_okO {C : Cn} {x qual : Str} {st : Stmt} {f : Addr} {fd : FuncData} {ps : List Str} {sp : OSp} {body : Sxs} (F : Fun K x qual st f fd) (S : FnScope C.N ps (defScope st)) (ek : EXok EX) (W : Wd P w K mg base EX xa Γ C)
    (hck : ckSs C (defScope st) body (defBody st) = true) (hlen : ∀ d0 ds Q, sp d0 ds Q → ds.length + 1 = ps.length)
    (hw : ∀ a d0 ds (QD : D → D → Prop), sp d0 ds QD → wSs Γ (fun _ _ => False) body { nx := fun ρ => ∃ d', ρ[0]? = some (slO (some a) d') ∧ (slO (some a) d').isOwn = true ∧ QD .non d', rt := fun d ρ => ∃ d', ρ[0]? = some (slO (some a) d') ∧ (slO (some a) d').isOwn = true ∧ QD d d' } (entO C.N a d0 ds)) :
    FnOk P w K mg base (L2.CX P w) (C.k + 1) f fd ps (lowO K sp) := by
  refine F.okX S (fun vs H Q E ⟨a, o, d0, ds, vs', QD, Hf, e, _, _, _, _, r, h, _⟩ => by rw [e, List.length_cons, ← r.length]; exact hlen _ _ _ h) fun cdv A outer s H vs Q E hr hsp => ?_
  obtain ⟨a, o, d0, ds, vs', QD, Hf, rfl, s0, n, ha, r0, r, h, hQ⟩ := hsp
  have R := entO_sr (EX := EX) (N := C.N) s0 n ha r0 r
  have c : Kst (cxOf (L2.CX P w) P w K mg base C.N qual (defScope st) f cdv A outer s H E) EX ⟨Hf, less H a⟩ xa Γ C (defScope st) (fun _ _ => False) := kst_of W S hr fun cls d σ H' ⟨_, _, _, _, _, _, _, _, _, _, _, q⟩ => q.elim
  refine ⟨_, PSs.m _, ?_⟩
  refine sSs ek c body _ hck (entO C.N a d0 ds) (L2.start C.N (V.ref a :: vs')) Hf H _ _ R (hw a d0 ds QD h) ⟨fun ρ' σ' Hf' H' R' s' q => ?_, fun d ρ' v σ' Hf' H' m R' s' mb _ rv q => ?_, fun _ _ _ _ _ _ q => q.elim, fun _ _ _ _ _ _ q => q.elim⟩
  · obtain ⟨d', e, o, q⟩ := q
    obtain ⟨o', h1, h2⟩ := slO_exit R' e o
    exact hQ _ _ d' o' Hf' H' R'.ent s' R'.sub h1 h2 .non q
  · obtain ⟨Hf2, R2, s2, r2⟩ := rv.freeze mb R' ek
    obtain ⟨d', e, o, q⟩ := q
    obtain ⟨o', h1, h2⟩ := slO_exit R2 e o
    exact hQ _ _ d' o' Hf2 H' R2.ent (s'.trans s2) R2.sub h1 h2 r2 q
/-- the promise of a def that gives a new list or dict of its own -/
def lowN (K : PySem.W.Frag) (sp : List D → (D → Prop) → Prop) : Sp := fun vs H Q E => ∃ (ds : List D) (QD : D → Prop) (Hf : Hp), Same Hf H ∧ Reps K Hf ds vs ∧ sp ds QD ∧
  ∀ d a o Hf' H', Same H H' → Same Hf Hf' → Same Hf' H' → (∀ b : Addr, H b ≠ none → Hf b = none → Hf' b = none) → H a = none → Hf' a = none → H' a = some o → RepO K Hf' d o → QD d → Q (.ref a) H'
theorem def_okN {C : Cn} {x qual : Str} {st : Stmt} {f : Addr} {fd : FuncData} {ps : List Str} {sp : List D → (D → Prop) → Prop} {body : Sxs} (F : Fun K x qual st f fd) (S : FnScope C.N ps (defScope st)) (ek : EXok EX) (W : Wd P w K mg base EX xa Γ C)
    (hck : ckSs C (defScope st) body (defBody st) = true) (hlen : ∀ ds Q, sp ds Q → ds.length = ps.length)
    (hw : ∀ ds (QD : D → Prop), sp ds QD → wSs Γ (fun _ _ => False) body { nx := fun _ => False, rt := fun d _ => notSeq d = false ∧ QD d, rtF := true } (ent0 C.N ds)) :
    FnOk P w K mg base (L2.CX P w) (C.k + 1) f fd ps (lowN K sp) := by
  refine F.okX S (fun vs H Q E ⟨ds, QD, Hf, _, r, h, _⟩ => by rw [← r.length]; exact hlen _ _ h) fun cdv A outer s H vs Q E hr hsp => ?_
  obtain ⟨ds, QD, Hf, s0, r, h, hQ⟩ := hsp
  have R := entry_sr (EX := EX) (N := C.N) s0 r
  have c : Kst (cxOf (L2.CX P w) P w K mg base C.N qual (defScope st) f cdv A outer s H E) EX ⟨Hf, H⟩ xa Γ C (defScope st) (fun _ _ => False) := kst_of W S hr fun cls d σ H' ⟨_, _, _, _, _, _, _, _, _, _, _, q⟩ => q.elim
  refine ⟨_, PSs.m _, ?_⟩
  refine sSs ek c body _ hck (ent0 C.N ds) (L2.start C.N vs) Hf H _ _ R (hw ds QD h) ⟨fun ρ' σ' Hf' H' R' s' q => q.elim, fun d ρ' v σ' Hf' H' m R' s' mb mf rv q => ?_, fun _ _ _ _ _ _ q => q.elim, fun _ _ _ _ _ _ q => q.elim⟩
  obtain ⟨nq, q⟩ := q
  cases mf rfl
  have rv : RepF K ⟨Hf, H⟩ ρ' σ' Hf' H' d v := rv
  cases rv with
  | sh nn _ => rw [nq] at nn; cases nn
  | own n0 n1 h1 r1 _ => exact hQ _ _ _ Hf' H' R'.ent s' R'.sub R'.nof n0 n1 h1 (.lst r1) q
  | ownK n0 n1 h1 r1 _ => exact hQ _ _ _ Hf' H' R'.ent s' R'.sub R'.nof n0 n1 h1 (.dct r1) q
/-! ### lids -/
/-- θ: what stays; I: the object's content by θ; B: what stands about it; S: its data by θ -/
structure Lid where
  T : Type
  I : T → HO → Prop
  B : T → PySem.W.Frag → Hp → Prop
  S : T → D → Prop
  mono : ∀ θ K H H', B θ K H → Same H H' → B θ K H'
  into : ∀ θ K H o, I θ o → B θ K H → ∃ d, S θ d ∧ RepO K H d o
  back : ∀ θ K H d o, S θ d → RepO K H d o → I θ o
/-- the thing under its lid -/
def Lid.d (L : Lid) (P : Program) (w : World) : D := .opq fun K v H => ∃ (θ : L.T) (a : Addr), v = .ref a ∧ H a = some (.ext (Phi P w a (L.I θ))) ∧ L.B θ K (less H a)
theorem less_less {H H' : Hp} {a : Addr} (s : Same H H') : Same (less H a) (less H' a) := fun b u q => by
  by_cases h : b = a
  · subst h; rw [less_same] at q; cases q
  · rw [less_ne h] at q ⊢; exact s b u q
theorem Lid.inv (L : Lid) {H : Hp} {v : V} (r : Rep K H (L.d P w) v) : ∃ (θ : L.T) (a : Addr), v = .ref a ∧ H a = some (.ext (Phi P w a (L.I θ))) ∧ L.B θ K (less H a) := by
  cases r with
  | opq s p =>
    obtain ⟨θ, a, e, h, b⟩ := p
    exact ⟨θ, a, e, s _ _ h, L.mono θ K _ _ b (less_less s)⟩
theorem flat_reps {H H' : Hp} : ∀ {ds : List D} {vs : List V}, (∀ d ∈ ds, flatD d = true) → Reps K H ds vs → Reps K H' ds vs
  | _, _, _, .nil => .nil
  | _, _, f, .cons r t => .cons (flat_rep (f _ List.mem_cons_self) r) (flat_reps (fun d h => f d (List.mem_cons_of_mem _ h)) t)
/-- a draw: the thing under its lid, then plain data -/
theorem take_ok (L : Lid) {k : Nat} {f : Addr} {fd : FuncData} {ps : List Str} {sp : OSp} {spc : FSp} (F : FnOk P w K mg base (L2.CX P w) k f fd ps (lowO K sp)) (hlen : ∀ ds QD QE, spc ds QD QE → ds.length = ps.length)
    (h : ∀ ds (QD : D → Prop) (QE : DX → Prop), spc ds QD QE → ∃ ds', ds = L.d P w :: ds' ∧ (∀ d ∈ ds', flatD d = true) ∧ ∀ θ d0, L.S θ d0 → sp d0 ds' fun d d' => flatD d = true ∧ L.S θ d' ∧ QD d) : FnOk P w K mg base (L2.CX P w) k f fd ps (low K xa spc) := by
  refine open_ok F (fun vs H Q E hs => ?_) fun vs H Q E ⟨ds, QD, QE, Hf, _, r, hh, _⟩ => by rw [← r.length]; exact hlen _ _ _ hh
  obtain ⟨ds, QD, QE, Hf, s0, r, hh, hQ, _⟩ := hs
  obtain ⟨ds', rfl, fl, hsp⟩ := h ds QD QE hh
  cases r with
  | cons r0 r =>
    obtain ⟨θ, a, rfl, ha, hB⟩ := L.inv r0
    have haH := s0 _ _ ha
    have into : ∀ o, L.I θ o → ∃ d0, L.S θ d0 ∧ RepO K (less Hf a) d0 o := fun o i => L.into θ K _ o i hB
    refine ⟨a, L.I θ, haH, fun o i q => ?_⟩
    obtain ⟨d0, hs0, ro⟩ := into o i
    have sl : Same (less Hf a) (upd H a o) := fun b u z => by
      by_cases e : b = a
      · subst e; rw [less_same] at z; cases z
      · rw [less_ne e] at z; rw [upd_ne e]; exact s0 _ _ z
    refine ⟨a, o, d0, ds', _, _, less Hf a, rfl, sl, less_same, upd_same, ro, flat_reps fl r, hsp θ d0 hs0, fun d v d' o' Hf' H' a1 a2 a3 h1 h2 rv q' => ?_⟩
    refine ⟨o', L.back θ K Hf' d' o' q'.2.1 h2, h2.op, h1, ?_⟩
    have sH : Same H (upd H' a (.ext (Phi P w a (L.I θ)))) := fun b u z => by
      by_cases e : b = a
      · subst e; rw [haH] at z; cases z; exact upd_same
      · rw [upd_ne e]
        refine a1 b u ?_
        rw [less_ne e, upd_ne e]; exact z
    exact hQ d v Hf _ sH (Same.refl _) (s0.trans sH) (fun _ _ z => z) (flat_rep q'.1 rv) q'.2.2
/-- a new thing gets its lid -/
theorem close_ok {k : Nat} {f : Addr} {fd : FuncData} {ps : List Str} {sp sp' : Sp} (F : FnOk P w K mg base (L2.CX P w) k f fd ps sp)
    (h : ∀ vs H Q E, sp' vs H Q E → sp vs H (fun v H' => ∃ a o I, v = .ref a ∧ H' a = some o ∧ I o ∧ OpenO o ∧ Q v (upd H' a (.ext (Phi P w a I)))) (fun _ _ _ => False)) : FnOk P w K mg base (L2.CX P w) k f fd ps sp' := by
  refine ⟨fun vs H Q E hs => F.len _ _ _ _ (h vs H Q E hs), fun A outer s H args us vs Q E hr e0 hb hv hs => ?_⟩
  refine codeAny_mono (F.run A outer s H args us vs _ _ hr e0 hb hv (h vs H Q E hs)) fun r s' hq => ?_
  cases r with
  | error e =>
    obtain ⟨_, _, _, _, _, _, _, _, _, _, _, _, z⟩ := hq
    exact z.elim
  | ok fl =>
    cases fl with
    | next => exact False.elim hq
    | brk => exact False.elim hq
    | cont => exact False.elim hq
    | ret u =>
      obtain ⟨v, H', os, bare, un, hok', rv, a, o', I, rfl, ha', i', q', hQ⟩ := hq
      have back : ∀ {b : Addr} {u : HO}, H' b = some u → (¬ OpenO u) → upd H' a (.ext (Phi P w a I)) b = some u := fun {b u} z n => by
        rw [upd_ne (fun e => by rw [e, ha'] at z; cases z; exact n q')]; exact z
      refine ⟨_, _, os, bare, ⟨un.keep, un.slot, fun b ob e z m2 => ?_, un.there, fun b xs e => ?_, fun b ob u e => ?_, fun b pp e => ?_⟩, closes hok' ha' i' q', rv, hQ⟩
      · have z' := un.free b ob e z m2
        rw [upd_ne (fun e => by rw [e, ha'] at z'; cases z')]
        exact z'
      · exact back (un.tups b xs e) (fun z => z)
      · exact back (un.frzs b ob u e) (fun z => z)
      · obtain ⟨more, z⟩ := un.tbls b pp e
        exact ⟨more, back z (fun z => z)⟩
theorem make_ok (L : Lid) {k : Nat} {f : Addr} {fd : FuncData} {ps : List Str} {sp : List D → (D → Prop) → Prop} {spc : FSp} {N : D → Prop} (F : FnOk P w K mg base (L2.CX P w) k f fd ps (lowN K sp)) (ini : ∀ H d o, N d → RepO K H d o → ∃ θ, L.I θ o ∧ L.B θ K H)
    (h : ∀ ds (QD : D → Prop) (QE : DX → Prop), spc ds QD QE → sp ds N ∧ QD (L.d P w)) : FnOk P w K mg base (L2.CX P w) k f fd ps (low K xa spc) := by
  refine close_ok F fun vs H Q E hs => ?_
  obtain ⟨ds, QD, QE, Hf, s0, r, hh, hQ, _⟩ := hs
  obtain ⟨h1, h2⟩ := h ds QD QE hh
  refine ⟨ds, N, Hf, s0, r, h1, fun d a o Hf' H' a1 a2 a3 a4 n0 n1 ha ro hN => ?_⟩
  obtain ⟨θ, i, b⟩ := ini Hf' d o hN ro
  refine ⟨a, o, L.I θ, rfl, ha, i, ro.op, ?_⟩
  have e1 : less Hf' a = Hf' := by
    funext c
    by_cases e : c = a
    · subst e; rw [less_same, n1]
    · rw [less_ne e]
  have e2 : less (upd Hf' a (.ext (Phi P w a (L.I θ)))) a = Hf' := by
    funext c
    by_cases e : c = a
    · subst e; rw [less_same, n1]
    · rw [less_ne e, upd_ne e]
  exact hQ _ _ (upd Hf' a (.ext (Phi P w a (L.I θ)))) _ (same_updR a1 n0) (same_updR a2 (by
      cases z : Hf a with
      | none => rfl
      | some u => rw [a2 _ _ z] at n1; cases n1)) (fun b u q => by
        by_cases e : b = a
        · subst e; rw [upd_same] at q ⊢; exact q
        · rw [upd_ne e] at q ⊢; exact a3 b u q) (fun c z1 z2 => by
        by_cases e : c = a
        · subst e; exact absurd n0 z1
        · rw [upd_ne e]; exact a4 c z1 z2) (.opq (Same.refl _) ⟨θ, a, rfl, upd_same, by rw [e2]; exact b⟩) h2
end
end DL
/-! DU: walking what is asked -/
namespace DL
open PySem PySem.Spec PyProof.Rows L2
theorem lcL_ind {G : D → DEnv → (DEnv → Prop) → Prop} {T : DEnv → (Bool → DEnv → Prop) → Prop} {E : DEnv → (D → DEnv → Prop) → Prop} {ρ : DEnv} {Q : List D → Prop} (I : List D → List D → Prop) (last : ∀ acc, I [] acc → Q acc)
    (step : ∀ d ds acc, I (d :: ds) acc → ∀ R : List D → Prop, (∀ acc', I ds acc' → R acc') → G d ρ fun ρ2 => T ρ2 fun b ρ3 => ρ3 = ρ2 ∧ if b = true then E ρ3 fun y ρ4 => ρ4 = ρ3 ∧ acc.length < sizeLine ∧ R (acc ++ [y]) else R acc) : ∀ items acc, I items acc → lcL G T E ρ Q items acc
  | [], acc, h => last acc h
  | d :: ds, acc, h => step d ds acc h _ fun acc' h' => lcL_ind I last step ds acc' h'
theorem forL_ind {G : D → DEnv → (DEnv → Prop) → Prop} {B : EndD → DEnv → Prop} {Z : EndD} (I : List D → DEnv → Prop) (last : ∀ ρ, I [] ρ → Z.nx ρ)
    (step : ∀ d ds ρ, I (d :: ds) ρ → ∀ N : DEnv → Prop, (∀ ρ', I ds ρ' → N ρ') → G d ρ fun ρ1 => B { nx := N, rt := Z.rt, rtF := Z.rtF, bk := Z.nx, ct := N } ρ1) : ∀ items ρ, I items ρ → forL G B Z items ρ
  | [], ρ, h => last ρ h
  | d :: ds, ρ, h => step d ds ρ h _ fun ρ' h' => forL_ind I last step ds ρ' h'
/-- all of them new -/
theorem lcL_map {G : D → DEnv → (DEnv → Prop) → Prop} {T : DEnv → (Bool → DEnv → Prop) → Prop} {E : DEnv → (D → DEnv → Prop) → Prop} {ρ : DEnv} {Q : List D → Prop} (P : D → Prop) {items : List D} (hn : items.length ≤ sizeLine)
    (step : ∀ d acc, d ∈ items → (∀ x ∈ acc, P x) → acc.length < sizeLine → ∀ R : List D → Prop, (∀ y, P y → R (acc ++ [y])) → G d ρ fun ρ2 => T ρ2 fun b ρ3 => ρ3 = ρ2 ∧ if b = true then E ρ3 fun y ρ4 => ρ4 = ρ3 ∧ acc.length < sizeLine ∧ R (acc ++ [y]) else R acc)
    (last : ∀ l, l.length = items.length → (∀ x ∈ l, P x) → Q l) : lcL G T E ρ Q items [] := by
  refine lcL_ind (fun ds acc => acc.length + ds.length = items.length ∧ (∀ x ∈ acc, P x) ∧ ∀ d ∈ ds, d ∈ items) (fun acc h => last acc (by simpa using h.1) h.2.1) (fun d ds acc h R hR => ?_) items [] ⟨by simp, by simp, fun _ h => h⟩
  have h1 := h.1
  rw [List.length_cons] at h1
  refine step d acc (h.2.2 d List.mem_cons_self) h.2.1 (by omega) R fun y hy => hR _ ⟨by rw [List.length_append, List.length_singleton]; omega, fun x hx => ?_, fun x hx => h.2.2 x (List.mem_cons_of_mem _ hx)⟩
  rcases List.mem_append.mp hx with z | z
  · exact h.2.1 x z
  · rw [List.mem_singleton.mp z]; exact hy
/-! ### the pool -/
def cellsP (c : Addr) (cs : List Int) : PySem.W.Frag → V → Hp → Prop := fun K v H => v = .ref c ∧ Rep K H (.lst (cs.map D.int)) v
theorem wkCells {c : Addr} {cs : List Int} : ∀ K H v, Rep K H (.opq (cellsP c cs)) v → Rep K H (.lst (cs.map D.int)) v := fun K H v r => by
  cases r with
  | opq s p => exact p.2.same s
def pl (c a r l s d t : D) : List (Key × D) := [(Sum.inr "cells", c), (Sum.inr "at", a), (Sum.inr "rest", r), (Sum.inr "left", l), (Sum.inr "small", s), (Sum.inr "seed", d), (Sum.inr "turn", t)]
section
variable {c a r l s d t x : D}
theorem pl_len : (pl c a r l s d t).length = 7 := rfl
theorem pl_cells : getK (pl c a r l s d t) (Sum.inr "cells") = some c := rfl
theorem pl_at : getK (pl c a r l s d t) (Sum.inr "at") = some a := rfl
theorem pl_rest : getK (pl c a r l s d t) (Sum.inr "rest") = some r := rfl
theorem pl_left : getK (pl c a r l s d t) (Sum.inr "left") = some l := rfl
theorem pl_small : getK (pl c a r l s d t) (Sum.inr "small") = some s := rfl
theorem pl_seed : getK (pl c a r l s d t) (Sum.inr "seed") = some d := rfl
theorem pl_turn : getK (pl c a r l s d t) (Sum.inr "turn") = some t := rfl
theorem pu_at : putD (pl c a r l s d t) (Sum.inr "at") x = pl c x r l s d t := rfl
theorem pu_rest : putD (pl c a r l s d t) (Sum.inr "rest") x = pl c a x l s d t := rfl
theorem pu_left : putD (pl c a r l s d t) (Sum.inr "left") x = pl c a r x s d t := rfl
theorem pu_small : putD (pl c a r l s d t) (Sum.inr "small") x = pl c a r l x d t := rfl
theorem pu_turn : putD (pl c a r l s d t) (Sum.inr "turn") x = pl c a r l s d x := rfl
end
def poolS (c : D) (at_ : Nat) (rest left : Int) (small : Bool) (seed turn : Int) : D := .dct (pl c (.int at_) (.int rest) (.int left) (.bl small) (.int seed) (.int turn))
abbrev vk (x : Str) (v : V) : Key × V := (Sum.inr x, v)
def poolO (c : V) (at_ : Nat) (rest left : Int) (small : Bool) (seed turn : Int) : HO :=
  .dK [vk "cells" c, vk "at" (.int at_), vk "rest" (.int rest), vk "left" (.int left), vk "small" (.bl small), vk "seed" (.int seed), vk "turn" (.int turn)]
def poolL : Lid where
  T := Addr × List Int
  I := fun θ o => ∃ at_ rest left small seed turn, o = poolO (.ref θ.1) at_ rest left small seed turn
  B := fun θ K H => Rep K H (.lst (θ.2.map D.int)) (.ref θ.1)
  S := fun θ d => ∃ at_ rest left small seed turn, d = poolS (.opq (cellsP θ.1 θ.2)) at_ rest left small seed turn
  mono := fun θ K H H' b s => b.same s
  into := fun θ K H o ⟨at_, rest, left, small, seed, turn, e⟩ b => ⟨_, ⟨at_, rest, left, small, seed, turn, rfl⟩, by
    rw [e]
    exact .dct (.cons (.opq (Same.refl _) ⟨rfl, b⟩) (.cons (.int _) (.cons (.int _) (.cons (.int _) (.cons (.bl _) (.cons (.int _) (.cons (.int _) .nil)))))))⟩
  back := fun θ K H d o ⟨at_, rest, left, small, seed, turn, e⟩ r => ⟨at_, rest, left, small, seed, turn, by
    subst e
    cases r with
    | dct r =>
      cases r with
      | cons r0 r =>
        cases r0 with
        | opq s0 p0 =>
          obtain ⟨rfl, _⟩ := p0
          cases r with
          | cons r1 r => cases r1; cases r with
            | cons r2 r => cases r2; cases r with
              | cons r3 r => cases r3; cases r with
                | cons r4 r => cases r4; cases r with
                  | cons r5 r => cases r5; cases r with
                    | cons r6 r => cases r6; cases r; rfl⟩
theorem pool_ini {K : PySem.W.Frag} : ∀ (H : Hp) (d : D) (o : HO), (∃ (cs : List Int) (seed : Int), d = poolS (.lst (cs.map D.int)) 0 0 0 true seed 0) → RepO K H d o → ∃ θ, poolL.I θ o ∧ poolL.B θ K H := fun H d o ⟨cs, seed, e⟩ r => by
  subst e
  cases r with
  | dct r =>
    cases r with
    | cons r0 r =>
      cases r0 with
      | lst s0 p0 =>
        cases r with
        | cons r1 r => cases r1; cases r with
          | cons r2 r => cases r2; cases r with
            | cons r3 r => cases r3; cases r with
              | cons r4 r => cases r4; cases r with
                | cons r5 r => cases r5; cases r with
                  | cons r6 r => cases r6; cases r; exact ⟨⟨_, cs⟩, ⟨_, _, _, _, _, _, rfl⟩, .lst s0 p0⟩
end DL
namespace DL
open PySem PySem.Spec PyProof.Rows L2
theorem wSs_cons {Γ : Nat → FSp} {E : DX → DEnv → Prop} {s : Sx} {l : Sxs} {Z : EndD} {ρ : DEnv} : wSs Γ E (.cons s l) Z ρ = wS Γ E s { nx := wSs Γ E l Z, rt := Z.rt, rtF := Z.rtF, bk := Z.bk, ct := Z.ct } ρ := rfl
theorem wSs_nil {Γ : Nat → FSp} {E : DX → DEnv → Prop} {Z : EndD} {ρ : DEnv} : wSs Γ E .nil Z ρ = Z.nx ρ := rfl
/-- a statement, then the rest, with what holds between -/
theorem seq_i {Γ : Nat → FSp} {E : DX → DEnv → Prop} {s : Sx} {l : Sxs} {Z : EndD} {ρ : DEnv} (N : DEnv → Prop) (hN : ∀ ρ', N ρ' → wSs Γ E l Z ρ') (h : ∀ N' : DEnv → Prop, (∀ ρ', N ρ' → N' ρ') → wS Γ E s { nx := N', rt := Z.rt, rtF := Z.rtF, bk := Z.bk, ct := Z.ct } ρ) : wSs Γ E (.cons s l) Z ρ := h _ hN
theorem whl_i {Γ : Nat → FSp} {E : DX → DEnv → Prop} {c : Ex} {b : Sxs} {Z : EndD} {ρ : DEnv} (W : Nat → DEnv → Prop) (m : Nat) (h0 : W m ρ) (h : ∀ m ρ, W m ρ → wT Γ E c ρ fun k ρ1 => if k = true then
      wSs Γ E b { nx := fun ρ' => ∃ m', m' < m ∧ W m' ρ', rt := Z.rt, rtF := Z.rtF, bk := Z.nx, ct := fun ρ' => ∃ m', m' < m ∧ W m' ρ' } ρ1 else Z.nx ρ1) : wS Γ E (.whl c b) Z ρ := ⟨W, ⟨m, h0⟩, h⟩
theorem sz {n : Nat} (h : n ≤ 100000) : n ≤ sizeLine := by rw [sizeLine_eq]; omega
theorem sz' {n : Nat} (h : n ≤ 100000) : n < sizeLine := by rw [sizeLine_eq]; omega
theorem atI_0 {α : Type} {x : α} {l : List α} : atI (x :: l) (0 : Int) = some x := by
  have := atI_nat (xs := x :: l) (j := 0) rfl
  exact this
theorem atI_1 {α : Type} {x y : α} {l : List α} : atI (x :: y :: l) (1 : Int) = some y := by
  have := atI_nat (xs := x :: y :: l) (j := 1) rfl
  exact this
theorem atI_2 {α : Type} {x y z : α} {l : List α} : atI (x :: y :: z :: l) (2 : Int) = some z := by
  have := atI_nat (xs := x :: y :: z :: l) (j := 2) rfl
  exact this
theorem atI_3 {α : Type} {x y z u : α} {l : List α} : atI (x :: y :: z :: u :: l) (3 : Int) = some u := by
  have := atI_nat (xs := x :: y :: z :: u :: l) (j := 3) rfl
  exact this
end DL
namespace DL.K09
open PySem PySem.Spec PyProof.Rows L2 DL
/-! ### the plain law -/
def brace (p : Str) : Str := Str.ofString "{" ++ p ++ Str.ofString "}"
theorem len_app (a b : Str) : (a ++ b).length = a.length + b.length := by
  show (a.cps ++ b.cps).size = a.cps.size + b.cps.size
  exact Array.size_append
theorem len_lb : (Str.ofString "{").length = 1 := by decide
theorem len_rb : (Str.ofString "}").length = 1 := by decide
theorem brace_len (p : Str) : (brace p).length = p.length + 2 := by
  unfold brace
  rw [len_app, len_app, len_lb, len_rb]; omega
/-- y stands in x at i -/
def hasAt (x y : Str) (i : Nat) : Bool := decide (i + y.length ≤ x.length) && ((x.cps.toList.drop i).take y.length == y.cps.toList)
theorem sw3 (x y : Str) (i : Nat) : Txt.startswith3 x y (i : Int) = hasAt x y i := by
  have e : fromIndex x.length (i : Int) = i := by
    unfold fromIndex
    rw [if_neg (by omega)]
    omega
  unfold Txt.startswith3 hasAt
  rw [e, StrLaws.subAt_eq]
theorem str_ext {a b : Str} (h : a.cps.toList = b.cps.toList) : a = b := by
  cases a; cases b
  congr
  exact Array.toList_inj.mp h
theorem cut_has (x y : Str) (i : Nat) (hi : i ≤ x.length) : decide (cutS x (some (i : Int)) (some ((i : Int) + (y.length : Int))) = y) = hasAt x y i := by
  have e1 : HT.sIx x.length 0 (some (i : Int)) = i := by rw [HT.sIx_nat]; exact Nat.min_eq_left hi
  have e2 : HT.sIx x.length x.length (some ((i : Int) + (y.length : Int))) = min (i + y.length) x.length := by
    rw [← Int.natCast_add, HT.sIx_nat]
  have xl : x.cps.toList.length = x.length := Array.length_toList
  have yl : y.cps.toList.length = y.length := Array.length_toList
  unfold cutS hasAt
  rw [e1, e2]
  by_cases h : i + y.length ≤ x.length
  · rw [Nat.min_eq_left h, decide_eq_true h, Bool.true_and, Nat.add_sub_cancel_left, Bool.eq_iff_iff, decide_eq_true_eq, beq_iff_eq]
    constructor
    · intro q
      have := congrArg (fun z : Str => z.cps.toList) q
      simpa using this
    · intro q
      exact str_ext (by simpa using q)
  · rw [decide_eq_false h, Bool.false_and, decide_eq_false_iff_not]
    intro q
    have := congrArg (fun z : Str => z.cps.toList.length) q
    simp only [List.length_take, List.length_drop, xl, yl, List.toList_toArray] at this
    omega
/-- the first parameter that stands in braces at a -/
def slotF (line : Str) (a : Nat) : Nat → List Str → Option (Nat × Nat)
  | _, [] => none
  | k, p :: ps => if hasAt line (brace p) a = true then some (a + p.length + 2, k) else slotF line a (k + 1) ps
theorem slotF_some {line : Str} {a : Nat} : ∀ {ps : List Str} {k e j : Nat}, slotF line a k ps = some (e, j) → ∃ p, ps[j - k]? = some p ∧ k ≤ j ∧ hasAt line (brace p) a = true ∧ e = a + p.length + 2
  | [], _, _, _, h => by cases h
  | p :: ps, k, e, j, h => by
    unfold slotF at h
    by_cases c : hasAt line (brace p) a = true
    · rw [if_pos c] at h
      cases h
      exact ⟨p, by simp, Nat.le_refl _, c, rfl⟩
    · rw [if_neg c] at h
      obtain ⟨q, h1, h2, h3, h4⟩ := slotF_some h
      refine ⟨q, ?_, by omega, h3, h4⟩
      have : j - k = (j - (k + 1)) + 1 := by omega
      rw [this]; exact h1
theorem has_le {x y : Str} {i : Nat} (h : hasAt x y i = true) : i + y.length ≤ x.length := of_decide_eq_true (of_and h).1
theorem slotF_end {line : Str} {a e j : Nat} {ps : List Str} (h : slotF line a 0 ps = some (e, j)) : a + 2 ≤ e ∧ e ≤ line.length ∧ j < ps.length := by
  obtain ⟨p, h1, _, h3, rfl⟩ := slotF_some h
  have := has_le h3
  rw [brace_len] at this
  refine ⟨by omega, by omega, ?_⟩
  exact (List.getElem?_eq_some_iff.mp h1).1
inductive Pt where
  | text (b a : Nat) | slot (a e k : Nat)
def Pt.d : Pt → D
  | .text b a => .tup [.str (Str.ofString "text"), .int b, .int a]
  | .slot a e k => .tup [.str (Str.ofString "slot"), .int a, .int e, .int k]
def textP (b a : Nat) : List Pt := if b < a then [.text b a] else []
def partsF (line : Str) (ps : List Str) : Nat → Nat → Nat → List Pt
  | 0, b, _ => textP b line.length
  | f + 1, b, a => if a < line.length then match slotF line a 0 ps with
      | none => partsF line ps f b (a + 1)
      | some (e, k) => textP b a ++ Pt.slot a e k :: partsF line ps f e e
    else textP b line.length
theorem partsF_fuel {line : Str} {ps : List Str} : ∀ (f f' b a : Nat), line.length - a ≤ f → line.length - a ≤ f' → partsF line ps f b a = partsF line ps f' b a
  | 0, 0, _, _, _, _ => rfl
  | 0, f' + 1, b, a, h, _ => by
    show textP b line.length = if a < line.length then _ else _
    rw [if_neg (by omega)]
  | f + 1, 0, b, a, _, h => by
    show (if a < line.length then _ else _) = textP b line.length
    rw [if_neg (by omega)]
  | f + 1, f' + 1, b, a, h, h' => by
    unfold partsF
    by_cases c : a < line.length
    · rw [if_pos c, if_pos c]
      cases e : slotF line a 0 ps with
      | none => exact partsF_fuel f f' b (a + 1) (by omega) (by omega)
      | some q =>
        obtain ⟨e1, k⟩ := q
        have := slotF_end e
        show _ ++ Pt.slot a e1 k :: _ = _ ++ Pt.slot a e1 k :: _
        rw [partsF_fuel f f' e1 e1 (by omega) (by omega)]
    · rw [if_neg c, if_neg c]
theorem textP_len (b a : Nat) : (textP b a).length ≤ 1 := by
  unfold textP
  split
  · exact Nat.le_refl _
  · exact Nat.zero_le _
theorem partsF_len {line : Str} {ps : List Str} : ∀ (f b a : Nat), (partsF line ps f b a).length ≤ 2 * f + 1
  | 0, b, _ => by have := textP_len b line.length; unfold partsF; omega
  | f + 1, b, a => by
    unfold partsF
    split
    · split
      · have := partsF_len (line := line) (ps := ps) f b (a + 1); omega
      · rename_i e k _
        have h1 := partsF_len (line := line) (ps := ps) f e e
        have h2 := textP_len b a
        rw [List.length_append, List.length_cons]
        omega
    · have := textP_len b line.length; omega
/-- every slot's parameter is there, every text a piece of the line -/
def Pt.ok (n m : Nat) : Pt → Prop
  | .text b a => b ≤ a ∧ a ≤ n
  | .slot _ _ k => k < m
theorem textP_ok {n m b a : Nat} (h : a ≤ n) : ∀ p ∈ textP b a, p.ok n m := by
  unfold textP
  split
  · intro p hp
    rw [List.mem_singleton.mp hp]
    exact ⟨by omega, h⟩
  · intro p hp; cases hp
theorem partsF_ok {line : Str} {ps : List Str} : ∀ (f b a : Nat), ∀ p ∈ partsF line ps f b a, p.ok line.length ps.length
  | 0, b, _ => by unfold partsF; exact textP_ok (Nat.le_refl _)
  | f + 1, b, a => by
    unfold partsF
    split
    · rename_i c
      split
      · exact partsF_ok f b (a + 1)
      · rename_i e k he
        intro p hp
        rcases List.mem_append.mp hp with z | z
        · exact textP_ok (by omega) p z
        · rcases List.mem_cons.mp z with z | z
          · rw [z]; exact (slotF_end he).2.2
          · exact partsF_ok f e e p z
    · exact textP_ok (Nat.le_refl _)
/-! ### filled in -/
def pieceF (line : Str) (args : List Str) : Pt → Str
  | .text b a => cutS line (some (b : Int)) (some (a : Int))
  | .slot _ _ k => args.getD k Str.empty
def catF (l : List Str) : Str := l.foldl (· ++ ·) Str.empty
theorem join_cat : ∀ l : List Str, Txt.join (Str.ofString "") l = catF l := fun l => by
  have e0 : Str.ofString "" = Str.empty := by decide
  have gen : ∀ (l : List Str) (a : Str), l.foldl (· ++ ·) a = a ++ Str.join Str.empty l := by
    intro l
    induction l with
    | nil => intro a; exact (Str.append_empty a).symm
    | cons x r ih =>
      intro a
      show r.foldl (· ++ ·) (a ++ x) = _
      rw [ih]
      cases r with
      | nil => exact Str.append_empty _
      | cons y s =>
        show a ++ x ++ _ = a ++ (x ++ Str.empty ++ Str.join Str.empty (y :: s))
        rw [Str.append_empty, Str.append_assoc]
  have j : Txt.join (Str.ofString "") l = Str.join (Str.ofString "") l := by first | exact Str.glued_eq_join _ l | exact StrLaws.glued_eq_join _ l | exact Builtin.Str.glued_eq_join _ l
  rw [j, e0]
  unfold catF
  rw [gen, Str.empty_append]
theorem cat_list : ∀ (l : List Str) (a : Str), (l.foldl (· ++ ·) a).cps.toList = a.cps.toList ++ (l.map (·.cps.toList)).flatten
  | [], a => by simp
  | x :: r, a => by
    rw [List.foldl_cons, cat_list r, List.map_cons, List.flatten_cons, ← List.append_assoc]
    congr 1
    show (a.cps ++ x.cps).toList = _
    exact Array.toList_append
theorem cut_list (line : Str) (b a : Nat) (h : b ≤ a) (ha : a ≤ line.length) : (cutS line (some (b : Int)) (some (a : Int))).cps.toList = (line.cps.toList.drop b).take (a - b) := by
  unfold cutS
  rw [HT.sIx_nat, HT.sIx_nat, Nat.min_eq_left ha, Nat.min_eq_left (show b ≤ line.length by omega)]
theorem cut_len (line : Str) (b a : Nat) (h : b ≤ a) (ha : a ≤ line.length) : (cutS line (some (b : Int)) (some (a : Int))).length = a - b := by
  have e : (cutS line (some (b : Int)) (some (a : Int))).length = (cutS line (some (b : Int)) (some (a : Int))).cps.toList.length := Array.length_toList.symm
  have xl : line.cps.toList.length = line.length := Array.length_toList
  rw [e, cut_list line b a h ha, List.length_take, List.length_drop, xl]
  omega
def rest (line : Str) (l : List Pt) (ps : List Str) : List Nat := (l.map fun p => (pieceF line (ps.map brace) p).cps.toList).flatten
theorem rest_text {line : Str} {ps : List Str} {b a : Nat} (h : b ≤ a) (ha : a ≤ line.length) : rest line (textP b a) ps = (line.cps.toList.drop b).take (a - b) := by
  unfold textP rest
  by_cases c : b < a
  · rw [if_pos c]
    show (cutS line (some (b : Int)) (some (a : Int))).cps.toList ++ [] = _
    rw [List.append_nil, cut_list line b a h ha]
  · rw [if_neg c]
    have : a - b = 0 := by omega
    rw [this]; rfl
theorem rest_app {line : Str} {l m : List Pt} {ps : List Str} : rest line (l ++ m) ps = rest line l ps ++ rest line m ps := by
  unfold rest
  rw [List.map_append, List.flatten_append]
theorem rest_parts {line : Str} {ps : List Str} : ∀ (f b a : Nat), line.length - a ≤ f → b ≤ a → a ≤ line.length → rest line (partsF line ps f b a) ps = line.cps.toList.drop b
  | 0, b, a, h, hb, ha => by
    unfold partsF
    rw [rest_text (by omega) (Nat.le_refl _)]
    have xl : line.cps.toList.length = line.length := Array.length_toList
    exact List.take_of_length_le (by rw [List.length_drop]; omega)
  | f + 1, b, a, h, hb, ha => by
    have xl : line.cps.toList.length = line.length := Array.length_toList
    unfold partsF
    by_cases c : a < line.length
    · rw [if_pos c]
      cases e : slotF line a 0 ps with
      | none => exact rest_parts f b (a + 1) (by omega) (by omega) (by omega)
      | some q =>
        obtain ⟨e1, k⟩ := q
        have he := slotF_end e
        obtain ⟨p, h1, _, h3, h4⟩ := slotF_some e
        show rest line (textP b a ++ Pt.slot a e1 k :: partsF line ps f e1 e1) ps = _
        rw [rest_app, rest_text hb ha]
        have e2 : rest line (Pt.slot a e1 k :: partsF line ps f e1 e1) ps = (brace p).cps.toList ++ line.cps.toList.drop e1 := by
          rw [← rest_parts f e1 e1 (by omega) (Nat.le_refl _) he.2.1]
          show (List.map _ (_ :: _)).flatten = _
          rw [List.map_cons, List.flatten_cons]
          congr 1
          show ((ps.map brace).getD k Str.empty).cps.toList = _
          rw [List.getD_eq_getElem?_getD, List.getElem?_map]
          rw [Nat.sub_zero] at h1
          rw [h1]; rfl
        have hb2 : (line.cps.toList.drop a).take (e1 - a) = (brace p).cps.toList := by
          have := (of_and h3).2
          rw [beq_iff_eq, brace_len] at this
          rw [← this, h4]
          congr 1
          omega
        rw [e2, ← hb2, ← List.append_assoc]
        have e3 : (line.cps.toList.drop a) = (line.cps.toList.drop b).drop (a - b) := by rw [List.drop_drop]; congr 1; omega
        have e4 : line.cps.toList.drop e1 = ((line.cps.toList.drop b).drop (a - b)).drop (e1 - a) := by rw [List.drop_drop, List.drop_drop]; congr 1; omega
        rw [e3, e4, List.append_assoc, List.take_append_drop, List.take_append_drop]
    · rw [if_neg c, rest_text (by omega) (Nat.le_refl _)]
      exact List.take_of_length_le (by rw [List.length_drop]; omega)
/-- filled with its own braces a line is itself -/
theorem fill_self (line : Str) (ps : List Str) : catF ((partsF line ps line.length 0 0).map (pieceF line (ps.map brace))) = line := by
  apply str_ext
  have := rest_parts (line := line) (ps := ps) line.length 0 0 (by omega) (Nat.le_refl _) (Nat.zero_le _)
  rw [List.drop_zero] at this
  rw [← this]
  unfold catF rest
  rw [cat_list, List.map_map]
  rfl
end DL.K09
namespace DL.K09
open PySem PySem.Spec PyProof.Rows L2 DL
def top (i : Nat) : Stmt := PySem.Challenge.pw_proseknot_k09_slots_parts_and_filled.main.body.getD i (.Pass ⟨0, 0, 0, 0⟩)
def nmT : Nat → Str
  | 0 => "slot_at"
  | 1 => "parts_of"
  | 2 => "filled"
  | 3 => "_law_mixed"
  | 4 => "_law_pool"
  | 5 => "_law_take"
  | 6 => "_law_signs"
  | 7 => "_law_word"
  | 8 => "_law_line"
  | 9 => "_law_argument"
  | 10 => "_law_parts"
  | 11 => "_law_same"
  | 12 => "_law_same"
  | 13 => "_law_same"
  | 14 => "_law_same"
  | 15 => "_law_params"
  | 16 => "_law_due"
  | 17 => "law"
  | _ => ""
def lvT : Nat → Nat
  | 0 => 1
  | 1 => 2
  | 2 => 3
  | 3 => 1
  | 4 => 1
  | 5 => 2
  | 6 => 1
  | 7 => 3
  | 8 => 3
  | 9 => 3
  | 10 => 1
  | 11 => 0
  | 12 => 1
  | 13 => 2
  | 14 => 3
  | 15 => 4
  | 16 => 2
  | 17 => 5
  | _ => 0
/-! ### slot_at -/
abbrev s_slot_at : Stmt := top 1
def n_slot_at : List Str := ["line", "at", "params", "number", "param"]
theorem f_slot_at : FnScope n_slot_at ["line", "at", "params"] (defScope s_slot_at) := ⟨rfl, rfl, rfl, by decide +kernel, rfl, by decide +kernel, by decide +kernel⟩
def b_slot_at : Sxs :=
  (.cons (.for_ (.tup [(.nm 3), (.nm 4)]) .en (.cons (.v 2) .nil) (.cons (.ife (.tr (.me .starts2 (.v 0) (.cons (.bin .add (.bin .add (.str "{") (.v 4)) (.str "}")) (.cons (.v 1) .nil)))) (.cons (.ret (.tup (.cons (.bin .add (.bin .add (.v 1) (.bi .len (.cons (.v 4) .nil))) (.int 2)) (.cons (.v 3) .nil))))
  .nil) .nil)
  .nil))
  (.cons (.ret .non)
  .nil))
def c_slot_at : Cn := { N := n_slot_at, nm := nmT, lv := lvT, k := 0, dep := [], kw := [] }
theorem k_slot_at : ckSs c_slot_at (defScope s_slot_at) b_slot_at (defBody s_slot_at) = true := by decide +kernel
/-! ### parts_of -/
abbrev s_parts_of : Stmt := top 2
def n_parts_of : List Str := ["line", "params", "parts", "begin", "at", "slot"]
theorem f_parts_of : FnScope n_parts_of ["line", "params"] (defScope s_parts_of) := ⟨rfl, rfl, rfl, by decide +kernel, rfl, by decide +kernel, by decide +kernel⟩
def b_parts_of : Sxs :=
  (.cons (.own 2 (.lst .nil))
  (.cons (.asg (.nm 3) (.int 0))
  (.cons (.asg (.nm 4) (.int 0))
  (.cons (.whl (.cmp .lt (.v 4) (.bi .len (.cons (.v 0) .nil))) (.cons (.asg (.nm 5) (.call 0 (.cons (.v 0) (.cons (.v 4) (.cons (.v 1) .nil)))))
  (.cons (.ife (.cmp .is (.v 5) .non) (.cons (.aug 4 .add (.int 1))
  .nil) (.cons (.ife (.cmp .lt (.v 3) (.v 4)) (.cons (.app 2 (.tup (.cons (.str "text") (.cons (.v 3) (.cons (.v 4) .nil)))))
  .nil) .nil)
  (.cons (.app 2 (.tup (.cons (.str "slot") (.cons (.v 4) (.cons (.ix (.v 5) (.int 0)) (.cons (.ix (.v 5) (.int 1)) .nil))))))
  (.cons (.asg (.nm 4) (.ix (.v 5) (.int 0)))
  (.cons (.asg (.nm 3) (.v 4))
  .nil)))))
  .nil)))
  (.cons (.ife (.cmp .lt (.v 3) (.v 4)) (.cons (.app 2 (.tup (.cons (.str "text") (.cons (.v 3) (.cons (.v 4) .nil)))))
  .nil) .nil)
  (.cons (.ret (.bi .tuple (.cons (.b 2) .nil)))
  .nil))))))
def c_parts_of : Cn := { N := n_parts_of, nm := nmT, lv := lvT, k := 1, dep := [0], kw := [] }
theorem k_parts_of : ckSs c_parts_of (defScope s_parts_of) b_parts_of (defBody s_parts_of) = true := by decide +kernel
/-! ### filled -/
abbrev s_filled : Stmt := top 3
def n_filled : List Str := ["line", "params", "arguments", "pieces", "part"]
theorem f_filled : FnScope n_filled ["line", "params", "arguments"] (defScope s_filled) := ⟨rfl, rfl, rfl, by decide +kernel, rfl, by decide +kernel, by decide +kernel⟩
def b_filled : Sxs :=
  (.cons (.own 3 (.lst .nil))
  (.cons (.for_ (.nm 4) .seq (.cons (.call 1 (.cons (.v 0) (.cons (.v 1) .nil))) .nil) (.cons (.ife (.cmp .eq (.ix (.v 4) (.int 0)) (.str "slot")) (.cons (.app 3 (.ix (.v 2) (.ix (.v 4) (.int 3))))
  .nil) (.cons (.app 3 (.sl (.v 0) (.cons (.ix (.v 4) (.int 1)) .nil) (.cons (.ix (.v 4) (.int 2)) .nil)))
  .nil))
  .nil))
  (.cons (.ret (.me .join (.str "") (.cons (.b 3) .nil)))
  .nil)))
def c_filled : Cn := { N := n_filled, nm := nmT, lv := lvT, k := 2, dep := [1], kw := [] }
theorem k_filled : ckSs c_filled (defScope s_filled) b_filled (defBody s_filled) = true := by decide +kernel
/-! ### law_mixed -/
abbrev s_law_mixed : Stmt := top 5
def n_law_mixed : List Str := ["_law_number", "_law_turn", "_law_many", "_law_prime", "_law_once", "_law_twice"]
theorem f_law_mixed : FnScope n_law_mixed ["_law_number", "_law_turn", "_law_many"] (defScope s_law_mixed) := ⟨rfl, rfl, rfl, by decide +kernel, rfl, by decide +kernel, by decide +kernel⟩
def b_law_mixed : Sxs :=
  (.cons (.asg (.nm 3) (.int 2305843009213693951))
  (.cons (.asg (.nm 4) (.bin .mod (.bi .int (.cons (.bin .add (.bin .add (.bin .mul (.v 0) (.int 48271)) (.bin .mul (.v 1) (.int 1000000000039))) (.int 12345678910111213)) .nil)) (.v 3)))
  (.cons (.asg (.nm 5) (.bin .mod (.bin .mul (.bi .int (.cons (.bin .add (.bin .mul (.v 4) (.v 4)) (.v 1)) .nil)) (.int 7046029254386353)) (.v 3)))
  (.cons (.ret (.bin .mod (.bin .fdiv (.v 5) (.int 8)) (.v 2)))
  .nil))))
def c_law_mixed : Cn := { N := n_law_mixed, nm := nmT, lv := lvT, k := 0, dep := [], kw := [] }
theorem k_law_mixed : ckSs c_law_mixed (defScope s_law_mixed) b_law_mixed (defBody s_law_mixed) = true := by decide +kernel
/-! ### law_pool -/
abbrev s_law_pool : Stmt := top 6
def n_law_pool : List Str := ["_law_script", "_law_seed", "_law_cell", "_law_cells"]
theorem f_law_pool : FnScope n_law_pool ["_law_script"] (defScope s_law_pool) := ⟨rfl, rfl, rfl, by decide +kernel, rfl, by decide +kernel, by decide +kernel⟩
def b_law_pool : Sxs :=
  (.cons (.asg (.nm 1) (.int 7))
  (.cons (.for_ (.nm 2) .seq (.cons (.v 0) .nil) (.cons (.asg (.nm 1) (.bin .mod (.bi .int (.cons (.bin .add (.bin .mul (.v 1) (.int 1000003)) (.v 2)) .nil)) (.int 2305843009213693951)))
  .nil))
  (.cons (.own 3 (.bi .list (.cons (.v 0) .nil)))
  (.cons (.ife (.and (.cmp .gt (.bi .len (.cons (.b 3) .nil)) (.int 0)) (.cons (.cmp .eq (.bin .mod (.bi .int (.cons (.ix (.b 3) (.int 0)) .nil)) (.int 2)) (.int 1)) .nil)) (.cons (.own 3 (.lst .nil))
  .nil) .nil)
  (.cons (.ife (.cmp .gt (.bi .len (.cons (.b 3) .nil)) (.int 0)) (.cons (.seti 3 (.int 0) (.bin .fdiv (.ix (.b 3) (.int 0)) (.int 2)))
  .nil) .nil)
  (.cons (.ret (.fr 3 (.dsp ["cells", "at", "rest", "left", "small", "seed", "turn"] (.cons (.v 3) (.cons (.int 0) (.cons (.int 0) (.cons (.int 0) (.cons (.bl true) (.cons (.v 1) (.cons (.int 0) .nil))))))))))
  .nil))))))
def c_law_pool : Cn := { N := n_law_pool, nm := nmT, lv := lvT, k := 0, dep := [], kw := [] }
theorem k_law_pool : ckSs c_law_pool (defScope s_law_pool) b_law_pool (defBody s_law_pool) = true := by decide +kernel
/-! ### law_take -/
abbrev s_law_take : Stmt := top 7
def n_law_take : List Str := ["_law_pool_here", "_law_many", "_law_drawn"]
theorem f_law_take : FnScope n_law_take ["_law_pool_here", "_law_many"] (defScope s_law_take) := ⟨rfl, rfl, rfl, by decide +kernel, rfl, by decide +kernel, by decide +kernel⟩
def b_law_take : Sxs :=
  (.cons (.put 0 (.str "turn") (.bin .add (.dget (.b 0) (.str "turn")) (.int 1)))
  (.cons (.ife (.and (.cmp .eq (.dget (.b 0) (.str "left")) (.int 0)) (.cons (.cmp .lt (.dget (.b 0) (.str "at")) (.bi .len (.cons (.wk (.dget (.b 0) (.str "cells"))) .nil))) .nil)) (.cons (.put 0 (.str "rest") (.ix (.wk (.dget (.b 0) (.str "cells"))) (.dget (.b 0) (.str "at"))))
  (.cons (.put 0 (.str "at") (.bin .add (.dget (.b 0) (.str "at")) (.int 1)))
  (.cons (.put 0 (.str "small") (.cmp .lt (.dget (.b 0) (.str "rest")) (.bin .pow (.int 10) (.int 18))))
  (.cons (.put 0 (.str "left") (.ix (.lst (.cons (.int 60) (.cons (.int 2) .nil))) (.bi .int (.cons (.dget (.b 0) (.str "small")) .nil))))
  .nil)))) .nil)
  (.cons (.ife (.cmp .eq (.dget (.b 0) (.str "left")) (.int 0)) (.cons (.ret (.call 3 (.cons (.dget (.b 0) (.str "seed")) (.cons (.dget (.b 0) (.str "turn")) (.cons (.v 1) .nil)))))
  .nil) .nil)
  (.cons (.put 0 (.str "left") (.bin .sub (.dget (.b 0) (.str "left")) (.int 1)))
  (.cons (.ife (.tr (.dget (.b 0) (.str "small"))) (.cons (.ret (.call 3 (.cons (.dget (.b 0) (.str "rest")) (.cons (.dget (.b 0) (.str "turn")) (.cons (.v 1) .nil)))))
  .nil) .nil)
  (.cons (.asg (.nm 2) (.bin .mod (.bi .int (.cons (.dget (.b 0) (.str "rest")) .nil)) (.v 1)))
  (.cons (.put 0 (.str "rest") (.bin .fdiv (.dget (.b 0) (.str "rest")) (.v 1)))
  (.cons (.ife (.cmp .eq (.dget (.b 0) (.str "rest")) (.int 0)) (.cons (.put 0 (.str "left") (.int 0))
  .nil) .nil)
  (.cons (.ret (.v 2))
  .nil)))))))))
def c_law_take : Cn := { N := n_law_take, nm := nmT, lv := lvT, k := 1, dep := [3], kw := [] }
theorem k_law_take : ckSs c_law_take (defScope s_law_take) b_law_take (defBody s_law_take) = true := by decide +kernel
/-! ### law_signs -/
abbrev s_law_signs : Stmt := top 8
def n_law_signs : List Str := ["_law_signs_here"]
theorem f_law_signs : FnScope n_law_signs [] (defScope s_law_signs) := ⟨rfl, rfl, rfl, by decide +kernel, rfl, by decide +kernel, by decide +kernel⟩
def b_law_signs : Sxs :=
  (.cons (.asg (.nm 0) (.str " !\"#$&'()*+,-./0123456789:;<=>?@ABCDEFGHIJKLMNOPQRSTUVWXYZ[\\]^_`"))
  (.cons (.ret (.bin .add (.v 0) (.str "abcdefghijklmnopqrstuvwxyz{|}~")))
  .nil))
def c_law_signs : Cn := { N := n_law_signs, nm := nmT, lv := lvT, k := 0, dep := [], kw := [] }
theorem k_law_signs : ckSs c_law_signs (defScope s_law_signs) b_law_signs (defBody s_law_signs) = true := by decide +kernel
/-! ### law_word -/
abbrev s_law_word : Stmt := top 9
def n_law_word : List Str := ["_law_pool_here", "_law_taken", "_law_letters", "_law_size", "_law_word_here", "_law_others", "_law_k", "_law_other"]
theorem f_law_word : FnScope n_law_word ["_law_pool_here", "_law_taken"] (defScope s_law_word) := ⟨rfl, rfl, rfl, by decide +kernel, rfl, by decide +kernel, by decide +kernel⟩
def e_law_word_3 : Ex := (.ix (.v 2) (.call 5 (.cons (.v 0) (.cons (.ix (.lst (.cons (.int 3) (.cons (.int 26) .nil))) (.call 5 (.cons (.v 0) (.cons (.int 2) .nil)))) .nil))))
def e_law_word_2 : Ex := (.bin .mul (.str "w") (.bin .add (.v 6) (.int 1)))
def e_law_word_1 : Ex := (.bin .mul (.str "q") (.bin .add (.v 6) (.int 1)))
def e_law_word_0 : Ex := (.v 7)
def t_law_word_0 : Exs := (.cons (.cmp .nin (.v 7) (.v 1)) .nil)
def b_law_word : Sxs :=
  (.cons (.asg (.nm 2) (.str "abcdefghijklmnopqrstuvwxyz"))
  (.cons (.asg (.nm 3) (.ix (.lst (.cons (.int 1) (.cons (.int 1) (.cons (.int 2) (.cons (.bin .add (.int 1) (.call 5 (.cons (.v 0) (.cons (.int 8) .nil)))) .nil))))) (.call 5 (.cons (.v 0) (.cons (.int 4) .nil)))))
  (.cons (.asg (.nm 4) (.me .join (.str "") (.cons (.lc (.nm 6) .rng1 (.cons (.v 3) .nil) .nil e_law_word_3) .nil)))
  (.cons (.ife (.cmp .inn (.v 4) (.v 1)) (.cons (.asg (.nm 5) (.bin .add (.lc (.nm 6) .rng1 (.cons (.int 8) .nil) .nil e_law_word_1) (.lc (.nm 6) .rng1 (.cons (.int 8) .nil) .nil e_law_word_2)))
  (.cons (.asg (.nm 4) (.ix (.lc (.nm 7) .seq (.cons (.v 5) .nil) t_law_word_0 e_law_word_0) (.int 0)))
  .nil)) .nil)
  (.cons (.ret (.v 4))
  .nil)))))
def c_law_word : Cn := { N := n_law_word, nm := nmT, lv := lvT, k := 2, dep := [5], kw := [] }
theorem k_law_word : ckSs c_law_word (defScope s_law_word) b_law_word (defBody s_law_word) = true := by decide +kernel
/-! ### law_line -/
abbrev s_law_line : Stmt := top 10
def n_law_line : List Str := ["_law_pool_here", "_law_params_here", "_law_signs_here", "_law_line_here", "_law_k", "_law_way", "_law_piece", "_law_j", "_law_param", "_law_near"]
theorem f_law_line : FnScope n_law_line ["_law_pool_here", "_law_params_here"] (defScope s_law_line) := ⟨rfl, rfl, rfl, by decide +kernel, rfl, by decide +kernel, by decide +kernel⟩
def e_law_line_0 : Ex := (.ix (.v 2) (.call 5 (.cons (.v 0) (.cons (.int 94) .nil))))
def b_law_line : Sxs :=
  (.cons (.asg (.nm 2) (.call 6 .nil))
  (.cons (.asg (.nm 3) (.str ""))
  (.cons (.for_ (.nm 4) .rng1 (.cons (.call 5 (.cons (.v 0) (.cons (.int 6) .nil))) .nil) (.cons (.asg (.nm 5) (.call 5 (.cons (.v 0) (.cons (.int 6) .nil))))
  (.cons (.asg (.nm 6) (.me .join (.str "") (.cons (.lc (.nm 7) .rng1 (.cons (.call 5 (.cons (.v 0) (.cons (.int 7) .nil))) .nil) .nil e_law_line_0) .nil)))
  (.cons (.ife (.and (.cmp .lt (.v 5) (.int 3)) (.cons (.cmp .gt (.bi .len (.cons (.v 1) .nil)) (.int 0)) .nil)) (.cons (.asg (.nm 6) (.bin .add (.bin .add (.str "{") (.ix (.v 1) (.call 5 (.cons (.v 0) (.cons (.bi .len (.cons (.v 1) .nil)) .nil))))) (.str "}")))
  .nil) (.cons (.ife (.cmp .eq (.v 5) (.int 3)) (.cons (.asg (.nm 6) (.ix (.lst (.cons (.str "{") (.cons (.str "}") (.cons (.str "{}") (.cons (.str "{x}") (.cons (.str "{X}") (.cons (.str "{a b}") (.cons (.str "{{") (.cons (.str "}}") (.cons (.str " ") (.cons (.str "    ") .nil))))))))))) (.call 5 (.cons (.v 0) (.cons (.int 10) .nil)))))
  .nil) (.cons (.ife (.and (.cmp .eq (.v 5) (.int 4)) (.cons (.cmp .gt (.bi .len (.cons (.v 1) .nil)) (.int 0)) .nil)) (.cons (.asg (.nm 8) (.ix (.v 1) (.call 5 (.cons (.v 0) (.cons (.bi .len (.cons (.v 1) .nil)) .nil)))))
  (.cons (.asg (.nm 9) (.lst (.cons (.bin .add (.str "{") (.v 8)) (.cons (.bin .add (.v 8) (.str "}")) (.cons (.bin .add (.bin .add (.str "{") (.v 8)) (.str " }")) (.cons (.bin .add (.bin .add (.str "{ ") (.v 8)) (.str "}")) (.cons (.bin .add (.bin .add (.str "(") (.v 8)) (.str ")")) .nil)))))))
  (.cons (.asg (.nm 6) (.ix (.v 9) (.call 5 (.cons (.v 0) (.cons (.int 5) .nil)))))
  .nil))) .nil)
  .nil))
  .nil))
  (.cons (.asg (.nm 3) (.bin .add (.v 3) (.v 6)))
  .nil)))))
  (.cons (.ret (.sl (.v 3) .nil (.cons (.int 40) .nil)))
  .nil))))
def c_law_line : Cn := { N := n_law_line, nm := nmT, lv := lvT, k := 2, dep := [5, 6], kw := [] }
theorem k_law_line : ckSs c_law_line (defScope s_law_line) b_law_line (defBody s_law_line) = true := by decide +kernel
/-! ### law_argument -/
abbrev s_law_argument : Stmt := top 11
def n_law_argument : List Str := ["_law_pool_here", "_law_params_here", "_law_signs_here", "_law_text", "_law_k", "_law_piece", "_law_j"]
theorem f_law_argument : FnScope n_law_argument ["_law_pool_here", "_law_params_here"] (defScope s_law_argument) := ⟨rfl, rfl, rfl, by decide +kernel, rfl, by decide +kernel, by decide +kernel⟩
def e_law_argument_0 : Ex := (.ix (.v 2) (.call 5 (.cons (.v 0) (.cons (.bi .len (.cons (.v 2) .nil)) .nil))))
def b_law_argument : Sxs :=
  (.cons (.asg (.nm 2) (.str "abcxyz019 .;:'{}+-=<>|*"))
  (.cons (.asg (.nm 3) (.str ""))
  (.cons (.for_ (.nm 4) .rng1 (.cons (.bin .add (.int 1) (.call 5 (.cons (.v 0) (.cons (.int 3) .nil)))) .nil) (.cons (.asg (.nm 5) (.me .join (.str "") (.cons (.lc (.nm 6) .rng1 (.cons (.call 5 (.cons (.v 0) (.cons (.int 5) .nil))) .nil) .nil e_law_argument_0) .nil)))
  (.cons (.ife (.and (.cmp .gt (.bi .len (.cons (.v 1) .nil)) (.int 0)) (.cons (.cmp .eq (.call 5 (.cons (.v 0) (.cons (.int 2) .nil))) (.int 0)) .nil)) (.cons (.asg (.nm 5) (.bin .add (.bin .add (.str "{") (.ix (.v 1) (.call 5 (.cons (.v 0) (.cons (.bi .len (.cons (.v 1) .nil)) .nil))))) (.str "}")))
  .nil) .nil)
  (.cons (.asg (.nm 3) (.bin .add (.v 3) (.v 5)))
  .nil))))
  (.cons (.asg (.nm 3) (.me .strip1 (.sl (.v 3) .nil (.cons (.int 40) .nil)) (.cons (.str " ") .nil)))
  (.cons (.ife (.cmp .eq (.v 3) (.str "")) (.cons (.ret (.str "{"))
  .nil) .nil)
  (.cons (.ret (.v 3))
  .nil))))))
def c_law_argument : Cn := { N := n_law_argument, nm := nmT, lv := lvT, k := 2, dep := [5], kw := [] }
theorem k_law_argument : ckSs c_law_argument (defScope s_law_argument) b_law_argument (defBody s_law_argument) = true := by decide +kernel
/-! ### law_parts -/
abbrev s_law_parts : Stmt := top 12
def n_law_parts : List Str := ["_law_line_here", "_law_params_here", "_law_parts_here", "_law_start", "_law_at", "_law_turn", "_law_found", "_law_end", "_law_k"]
theorem f_law_parts : FnScope n_law_parts ["_law_line_here", "_law_params_here"] (defScope s_law_parts) := ⟨rfl, rfl, rfl, by decide +kernel, rfl, by decide +kernel, by decide +kernel⟩
def e_law_parts_0 : Ex := (.v 8)
def t_law_parts_0 : Exs := (.cons (.cmp .eq (.sl (.v 0) (.cons (.v 4) .nil) (.cons (.bin .add (.bin .add (.v 4) (.bi .len (.cons (.ix (.v 1) (.v 8)) .nil))) (.int 2)) .nil)) (.bin .add (.bin .add (.str "{") (.ix (.v 1) (.v 8))) (.str "}"))) .nil)
def b_law_parts : Sxs :=
  (.cons (.own 2 (.lst .nil))
  (.cons (.asg (.nm 3) (.int 0))
  (.cons (.asg (.nm 4) (.int 0))
  (.cons (.for_ (.nm 5) .rng1 (.cons (.bi .len (.cons (.v 0) .nil)) .nil) (.cons (.ife (.cmp .ge (.v 4) (.bi .len (.cons (.v 0) .nil))) (.cons .brk
  .nil) .nil)
  (.cons (.lcs true 6 (.nm 8) .rng1 (.cons (.bi .len (.cons (.v 1) .nil)) .nil) t_law_parts_0 e_law_parts_0)
  (.cons (.ife (.cmp .gt (.bi .len (.cons (.v 6) .nil)) (.int 0)) (.cons (.asg (.nm 7) (.bin .add (.bin .add (.v 4) (.bi .len (.cons (.ix (.v 1) (.ix (.v 6) (.int 0))) .nil))) (.int 2)))
  (.cons (.ife (.cmp .gt (.v 4) (.v 3)) (.cons (.app 2 (.tup (.cons (.str "text") (.cons (.v 3) (.cons (.v 4) .nil)))))
  .nil) .nil)
  (.cons (.app 2 (.tup (.cons (.str "slot") (.cons (.v 4) (.cons (.v 7) (.cons (.ix (.v 6) (.int 0)) .nil))))))
  (.cons (.asg (.nm 4) (.v 7))
  (.cons (.asg (.nm 3) (.v 7))
  .nil))))) (.cons (.asg (.nm 4) (.bin .add (.v 4) (.int 1)))
  .nil))
  .nil))))
  (.cons (.ife (.cmp .lt (.v 3) (.bi .len (.cons (.v 0) .nil))) (.cons (.app 2 (.tup (.cons (.str "text") (.cons (.v 3) (.cons (.bi .len (.cons (.v 0) .nil)) .nil)))))
  .nil) .nil)
  (.cons (.ret (.bi .tuple (.cons (.b 2) .nil)))
  .nil))))))
def c_law_parts : Cn := { N := n_law_parts, nm := nmT, lv := lvT, k := 0, dep := [], kw := [] }
theorem k_law_parts : ckSs c_law_parts (defScope s_law_parts) b_law_parts (defBody s_law_parts) = true := by decide +kernel
/-! ### law_same0 -/
abbrev s_law_same : Stmt := top 13
def n_law_same : List Str := ["_law_actual", "_law_due_here", "_law_k"]
theorem f_law_same : FnScope n_law_same ["_law_actual", "_law_due_here"] (defScope s_law_same) := ⟨rfl, rfl, rfl, by decide +kernel, rfl, by decide +kernel, by decide +kernel⟩
def b_law_same0 : Sxs :=
  (.cons (.ife (.tr (.isT ["tuple"] (.v 1))) (.cons (.ife (.or (.not (.tr (.isT ["tuple"] (.v 0)))) (.cons (.cmp .ne (.bi .len (.cons (.v 0) .nil)) (.bi .len (.cons (.v 1) .nil))) .nil)) (.cons (.ret (.bl false))
  .nil) .nil)
  (.cons (.for_ (.nm 2) .rng1 (.cons (.bi .len (.cons (.v 1) .nil)) .nil) (.cons (.ife (.not (.tr (.call 11 (.cons (.ix (.v 0) (.v 2)) (.cons (.ix (.v 1) (.v 2)) .nil))))) (.cons (.ret (.bl false))
  .nil) .nil)
  .nil))
  (.cons (.ret (.bl true))
  .nil))) .nil)
  (.cons (.ife (.cmp .is (.v 1) .non) (.cons (.ret (.cmp .is (.v 0) .non))
  .nil) .nil)
  (.cons (.ife (.tr (.isT ["str"] (.v 1))) (.cons (.ret (.and (.isT ["str"] (.v 0)) (.cons (.cmp .eq (.v 0) (.v 1)) .nil)))
  .nil) .nil)
  (.cons (.ret (.and (.isT ["int"] (.v 0)) (.cons (.not (.isT ["bool"] (.v 0))) (.cons (.cmp .eq (.v 0) (.v 1)) .nil))))
  .nil))))
def c_law_same0 : Cn := { N := n_law_same, nm := nmT, lv := lvT, k := 0, dep := [11], kw := [] }
theorem k_law_same0 : ckSs c_law_same0 (defScope s_law_same) b_law_same0 (defBody s_law_same) = true := by decide +kernel
/-! ### law_same1 -/
def b_law_same1 : Sxs :=
  (.cons (.ife (.tr (.isT ["tuple"] (.v 1))) (.cons (.ife (.or (.not (.tr (.isT ["tuple"] (.v 0)))) (.cons (.cmp .ne (.bi .len (.cons (.v 0) .nil)) (.bi .len (.cons (.v 1) .nil))) .nil)) (.cons (.ret (.bl false))
  .nil) .nil)
  (.cons (.for_ (.nm 2) .rng1 (.cons (.bi .len (.cons (.v 1) .nil)) .nil) (.cons (.ife (.not (.tr (.call 12 (.cons (.ix (.v 0) (.v 2)) (.cons (.ix (.v 1) (.v 2)) .nil))))) (.cons (.ret (.bl false))
  .nil) .nil)
  .nil))
  (.cons (.ret (.bl true))
  .nil))) .nil)
  (.cons (.ife (.cmp .is (.v 1) .non) (.cons (.ret (.cmp .is (.v 0) .non))
  .nil) .nil)
  (.cons (.ife (.tr (.isT ["str"] (.v 1))) (.cons (.ret (.and (.isT ["str"] (.v 0)) (.cons (.cmp .eq (.v 0) (.v 1)) .nil)))
  .nil) .nil)
  (.cons (.ret (.and (.isT ["int"] (.v 0)) (.cons (.not (.isT ["bool"] (.v 0))) (.cons (.cmp .eq (.v 0) (.v 1)) .nil))))
  .nil))))
def c_law_same1 : Cn := { N := n_law_same, nm := nmT, lv := lvT, k := 1, dep := [12], kw := [] }
theorem k_law_same1 : ckSs c_law_same1 (defScope s_law_same) b_law_same1 (defBody s_law_same) = true := by decide +kernel
/-! ### law_same2 -/
def b_law_same2 : Sxs :=
  (.cons (.ife (.tr (.isT ["tuple"] (.v 1))) (.cons (.ife (.or (.not (.tr (.isT ["tuple"] (.v 0)))) (.cons (.cmp .ne (.bi .len (.cons (.v 0) .nil)) (.bi .len (.cons (.v 1) .nil))) .nil)) (.cons (.ret (.bl false))
  .nil) .nil)
  (.cons (.for_ (.nm 2) .rng1 (.cons (.bi .len (.cons (.v 1) .nil)) .nil) (.cons (.ife (.not (.tr (.call 13 (.cons (.ix (.v 0) (.v 2)) (.cons (.ix (.v 1) (.v 2)) .nil))))) (.cons (.ret (.bl false))
  .nil) .nil)
  .nil))
  (.cons (.ret (.bl true))
  .nil))) .nil)
  (.cons (.ife (.cmp .is (.v 1) .non) (.cons (.ret (.cmp .is (.v 0) .non))
  .nil) .nil)
  (.cons (.ife (.tr (.isT ["str"] (.v 1))) (.cons (.ret (.and (.isT ["str"] (.v 0)) (.cons (.cmp .eq (.v 0) (.v 1)) .nil)))
  .nil) .nil)
  (.cons (.ret (.and (.isT ["int"] (.v 0)) (.cons (.not (.isT ["bool"] (.v 0))) (.cons (.cmp .eq (.v 0) (.v 1)) .nil))))
  .nil))))
def c_law_same2 : Cn := { N := n_law_same, nm := nmT, lv := lvT, k := 2, dep := [13], kw := [] }
theorem k_law_same2 : ckSs c_law_same2 (defScope s_law_same) b_law_same2 (defBody s_law_same) = true := by decide +kernel
/-! ### law_params -/
abbrev s_law_params : Stmt := top 14
def n_law_params : List Str := ["_law_pool_here", "_law_params_here", "_law_k", "_law_word_here"]
theorem f_law_params : FnScope n_law_params ["_law_pool_here"] (defScope s_law_params) := ⟨rfl, rfl, rfl, by decide +kernel, rfl, by decide +kernel, by decide +kernel⟩
def b_law_params : Sxs :=
  (.cons (.own 1 (.lst .nil))
  (.cons (.for_ (.nm 2) .rng1 (.cons (.call 5 (.cons (.v 0) (.cons (.int 4) .nil))) .nil) (.cons (.asg (.nm 3) (.callB 7 (.cons (.v 0) (.cons (.b 1) .nil))))
  (.cons (.ife (.and (.cmp .gt (.bi .len (.cons (.b 1) .nil)) (.int 0)) (.cons (.cmp .eq (.call 5 (.cons (.v 0) (.cons (.int 3) .nil))) (.int 0)) .nil)) (.cons (.asg (.nm 3) (.sl (.bin .add (.ix (.b 1) (.int 0)) (.ix (.str "abcdefgh") (.call 5 (.cons (.v 0) (.cons (.int 8) .nil))))) .nil (.cons (.int 8) .nil)))
  .nil) .nil)
  (.cons (.ife (.cmp .nin (.v 3) (.b 1)) (.cons (.app 1 (.v 3))
  .nil) .nil)
  .nil))))
  (.cons (.ret (.bi .tuple (.cons (.b 1) .nil)))
  .nil)))
def c_law_params : Cn := { N := n_law_params, nm := nmT, lv := lvT, k := 3, dep := [5, 7], kw := [] }
theorem k_law_params : ckSs c_law_params (defScope s_law_params) b_law_params (defBody s_law_params) = true := by decide +kernel
/-! ### law_due -/
abbrev s_law_due : Stmt := top 15
def n_law_due : List Str := ["_law_line_here", "_law_params_here", "_law_given", "_law_text", "_law_part"]
theorem f_law_due : FnScope n_law_due ["_law_line_here", "_law_params_here", "_law_given"] (defScope s_law_due) := ⟨rfl, rfl, rfl, by decide +kernel, rfl, by decide +kernel, by decide +kernel⟩
def b_law_due : Sxs :=
  (.cons (.asg (.nm 3) (.str ""))
  (.cons (.for_ (.nm 4) .seq (.cons (.call 10 (.cons (.v 0) (.cons (.v 1) .nil))) .nil) (.cons (.ife (.cmp .eq (.ix (.v 4) (.int 0)) (.str "slot")) (.cons (.asg (.nm 3) (.bin .add (.v 3) (.ix (.v 2) (.ix (.v 4) (.int 3)))))
  .nil) (.cons (.asg (.nm 3) (.bin .add (.v 3) (.sl (.v 0) (.cons (.ix (.v 4) (.int 1)) .nil) (.cons (.ix (.v 4) (.int 2)) .nil))))
  .nil))
  .nil))
  (.cons (.ret (.v 3))
  .nil)))
def c_law_due : Cn := { N := n_law_due, nm := nmT, lv := lvT, k := 1, dep := [10], kw := [] }
theorem k_law_due : ckSs c_law_due (defScope s_law_due) b_law_due (defBody s_law_due) = true := by decide +kernel
/-! ### law -/
abbrev s_law : Stmt := top 16
def n_law : List Str := ["_law_script", "_law_pool_here", "_law_params_here", "_law_lines", "_law_slots", "_law_line_here", "_law_given", "_law_param"]
theorem f_law : FnScope n_law ["_law_script"] (defScope s_law) := ⟨rfl, rfl, rfl, by decide +kernel, rfl, by decide +kernel, by decide +kernel⟩
def e_law_1 : Ex := (.bin .add (.bin .add (.str "{") (.v 7)) (.str "}"))
def e_law_0 : Ex := (.call 9 (.cons (.v 1) (.cons (.v 2) .nil)))
def b_law : Sxs :=
  (.cons (.asg (.nm 1) (.call 4 (.cons (.v 0) .nil)))
  (.cons (.asg (.nm 2) (.call 15 (.cons (.v 1) .nil)))
  (.cons (.asg (.nm 3) (.lst (.cons (.call 8 (.cons (.v 1) (.cons (.v 2) .nil))) (.cons (.call 8 (.cons (.v 1) (.cons (.bin .add (.v 2) (.sl (.tup (.cons (.str "x") .nil)) .nil (.cons (.bin .sub (.int 3) (.bi .len (.cons (.v 2) .nil))) .nil))) .nil))) (.cons (.str "") .nil)))))
  (.cons (.asg (.nm 4) (.bi .tuple (.cons (.lc (.nm 7) .seq (.cons (.v 2) .nil) .nil e_law_1) .nil)))
  (.cons (.for_ (.nm 5) .seq (.cons (.bin .add (.v 3) (.sl (.v 3) .nil (.cons (.int 1) .nil))) .nil) (.cons (.asg (.nm 6) (.bi .tuple (.cons (.lc (.nm 7) .seq (.cons (.v 2) .nil) .nil e_law_0) .nil)))
  (.cons (.ife (.not (.tr (.call 14 (.cons (.call 1 (.cons (.v 5) (.cons (.v 2) .nil))) (.cons (.call 10 (.cons (.v 5) (.cons (.v 2) .nil))) .nil))))) (.cons (.ret (.bl false))
  .nil) .nil)
  (.cons (.ife (.not (.tr (.call 14 (.cons (.call 2 (.cons (.v 5) (.cons (.v 2) (.cons (.v 6) .nil)))) (.cons (.call 16 (.cons (.v 5) (.cons (.v 2) (.cons (.v 6) .nil)))) .nil))))) (.cons (.ret (.bl false))
  .nil) .nil)
  (.cons (.ife (.not (.tr (.call 14 (.cons (.callK 2 ["line", "params", "arguments"] [0, 1, 2] (.cons (.v 5) (.cons (.v 2) (.cons (.v 4) .nil)))) (.cons (.v 5) .nil))))) (.cons (.ret (.bl false))
  .nil) .nil)
  .nil)))))
  (.cons (.ret (.bl true))
  .nil))))))
def c_law : Cn := { N := n_law, nm := nmT, lv := lvT, k := 4, dep := [14, 2, 16, 10, 1, 9, 8, 15, 4], kw := [(2, ["line", "params", "arguments"], [0, 1, 2])] }
theorem k_law : ckSs c_law (defScope s_law) b_law (defBody s_law) = true := by decide +kernel
end DL.K09
namespace DL.K09
open PySem PySem.Spec PyProof.Rows L2 DL
def big (n : Int) : Prop := 0 < n ∧ n < 1073741824
section
variable (P : Program) (w : World)
def sMixed : FSp := fun ds Q E => ∃ a b n, ds = [.int a, .int b, .int n] ∧ 0 < n ∧ ∀ r, 0 ≤ r → r < n → Q (.int r)
def sTake : FSp := fun ds Q E => ∃ n, ds = [poolL.d P w, .int n] ∧ big n ∧ ∀ r, 0 ≤ r → r < n → Q (.int r)
def oTake : OSp := fun d0 ds Q => ∃ n θ, ds = [.int n] ∧ big n ∧ poolL.S θ d0 ∧ ∀ r d', 0 ≤ r → r < n → poolL.S θ d' → Q (.int r) d'
def nPool : List D → (D → Prop) → Prop := fun ds Q => ∃ cs : List Int, ds = [.lst (cs.map .int)] ∧ ∀ (cs' : List Int) (seed : Int), Q (poolS (.lst (cs'.map .int)) 0 0 0 true seed 0)
def sPool : FSp := fun ds Q E => ∃ cs : List Int, ds = [.lst (cs.map .int)] ∧ Q (poolL.d P w)
abbrev tS (ps : List Str) : D := .tup (ps.map .str)
def Bd (ps : List Str) : Prop := ps.length ≤ 1000 ∧ ∀ p ∈ ps, p.length ≤ 1000
def slotD : Option (Nat × Nat) → D
  | none => .non
  | some (e, k) => .tup [.int e, .int k]
def sSlot : FSp := fun ds Q E => ∃ line ps, ∃ a : Nat, ds = [.str line, .int a, tS ps] ∧ line.length ≤ 1000 ∧ Bd ps ∧ a ≤ 1000 ∧ Q (slotD (slotF line a 0 ps))
def sParts : FSp := fun ds Q E => ∃ line ps, ds = [.str line, tS ps] ∧ line.length ≤ 1000 ∧ Bd ps ∧ Q (.tup ((partsF line ps line.length 0 0).map Pt.d))
def fillD (line : Str) (ps args : List Str) : D := .str (catF ((partsF line ps line.length 0 0).map (pieceF line args)))
def sFill : FSp := fun ds Q E => ∃ line ps args, ds = [.str line, tS ps, tS args] ∧ line.length ≤ 1000 ∧ Bd ps ∧ Bd args ∧ args.length = ps.length ∧ Q (fillD line ps args)
def sSigns : FSp := fun ds Q E => ds = [] ∧ ∀ s : Str, s.length = 94 → Q (.str s)
def sWord : FSp := fun ds Q E => ∃ ps : List Str, ds = [poolL.d P w, .lst (ps.map .str)] ∧ ps.length ≤ 10 ∧ ∀ s : Str, s.length ≤ 16 → Q (.str s)
def sLine : FSp := fun ds Q E => ∃ ps : List Str, ds = [poolL.d P w, tS ps] ∧ ps.length ≤ 10 ∧ (∀ p ∈ ps, p.length ≤ 16) ∧ ∀ s : Str, s.length ≤ 1000 → Q (.str s)
def sArg : FSp := fun ds Q E => ∃ ps : List Str, ds = [poolL.d P w, tS ps] ∧ ps.length ≤ 10 ∧ (∀ p ∈ ps, p.length ≤ 16) ∧ ∀ s : Str, s.length ≤ 1000 → Q (.str s)
def sParams : FSp := fun ds Q E => ds = [poolL.d P w] ∧ ∀ ps : List Str, ps.length ≤ 3 → (∀ p ∈ ps, p.length ≤ 16) → Q (tS ps)
/-- what is held together: texts and ints within tuples -/
def dep : Nat → D → Prop
  | 0, .str _ => True
  | 0, .int _ => True
  | 0, _ => False
  | _ + 1, .str _ => True
  | _ + 1, .int _ => True
  | n + 1, .tup l => l.length ≤ 10000 ∧ ∀ x ∈ l, dep n x
  | _ + 1, _ => False
def sSame (r : Nat) : FSp := fun ds Q E => ∃ d, ds = [d, d] ∧ dep r d ∧ Q (.bl true)
def sLaw : FSp := fun ds Q E => ∃ cs : List Int, ds = [.lst (cs.map .int)] ∧ Q (.bl true)
def Γ : Nat → FSp
  | 0 => sSlot
  | 1 => sParts
  | 2 => sFill
  | 3 => sMixed
  | 4 => sPool P w
  | 5 => sTake P w
  | 6 => sSigns
  | 7 => sWord P w
  | 8 => sLine P w
  | 9 => sArg P w
  | 10 => sParts
  | 12 => sSame 0
  | 13 => sSame 1
  | 14 => sSame 2
  | 15 => sParams P w
  | 16 => sFill
  | 17 => sLaw
  | _ => fun _ _ _ => False
end
section
variable {P : Program} {w : World} {Z : EndD} {Q : D → Prop} {QE : DX → Prop} {G : Nat → FSp} {E : DX → DEnv → Prop}
abbrev zz (Q : D → Prop) : EndD := { nx := fun _ => Q .non, rt := fun d _ => Q d }
theorem w_mixed {ds : List D} (h : sMixed ds Q QE) : wSs G E b_law_mixed { nx := fun _ => Q .non, rt := fun d _ => Q d } (ent0 c_law_mixed.N ds) := by
  obtain ⟨a, b, n, rfl, hn, q⟩ := h
  show wSs G E b_law_mixed _ [.sh (.int a), .sh (.int b), .sh (.int n), .un, .un, .un]
  simp only [b_law_mixed, wSs, wS, wE, wA, wG, binW, biW, intW, List.getElem?_cons_zero, List.getElem?_cons_succ, List.set_cons_zero, List.set_cons_succ, md, true_and]
  have z : ∀ x : Int, 0 ≤ x % 2305843009213693951 ∧ x % 2305843009213693951 < 2305843009213693951 := fun x => ⟨Int.emod_nonneg _ (by decide), Int.emod_lt_of_pos _ (by decide)⟩
  refine ⟨.inr (by decide), .inr (by decide), by decide, .inl ?_, .inr (by decide), by decide, ⟨by decide, by decide⟩, hn, nofun, q _ (Int.emod_nonneg _ (by omega)) (Int.emod_lt_of_pos _ hn)⟩
  have := z (a * 48271 + b * 1000000000039 + 12345678910111213)
  exact ⟨by omega, by omega⟩
theorem c_mixed {a b n : Int} {Q : D → Prop} {QE : DX → Prop} (hn : 0 < n) (q : ∀ r, 0 ≤ r → r < n → Q (.int r)) : Γ P w 3 [.int a, .int b, .int n] Q QE := ⟨a, b, n, rfl, hn, q⟩
theorem w_take {a : Addr} {d0 : D} {ds : List D} {QD : D → D → Prop} (h : oTake d0 ds QD) : wSs (Γ P w) (fun _ _ => False) b_law_take { nx := fun ρ => ∃ d', ρ[0]? = some (slO (some a) d') ∧ (slO (some a) d').isOwn = true ∧ QD .non d', rt := fun d ρ => ∃ d', ρ[0]? = some (slO (some a) d') ∧ (slO (some a) d').isOwn = true ∧ QD d d' } (entO c_law_take.N a d0 ds) := by
  obtain ⟨n, ⟨c, cs⟩, rfl, hn, ⟨at_, rest, left, small, seed, turn, rfl⟩, q⟩ := h
  show wSs (Γ P w) _ b_law_take _ [.ownK (some a) (pl (.opq (cellsP c cs)) (.int at_) (.int rest) (.int left) (.bl small) (.int seed) (.int turn)), .sh (.int n), .un]
  unfold b_law_take
  rw [wSs_cons]; simp (maxSteps := 4000000) only [wS, wE, wA, wG, wGs, wT, wTall, wTany, wTs, wO, wAnd, wOr, binW, cmpW, eqW, ixW, slW, biW, intW, lenW, tupleW, listW, meW, truW, augW, itW, List.getElem?_cons_zero, List.getElem?_cons_succ, List.set_cons_zero, List.set_cons_succ, md, true_and, keyD, Option.some.injEq, exists_and_left, exists_eq_left', exists_eq_left, decide_true, decide_false, Bool.and_true, Bool.true_and, Bool.not_true, Bool.not_false, atI_0, atI_1, atI_2, atI_3, wipeD, Tg.slots, slotsL, List.cons_append, List.nil_append, ↓reduceIte, if_true, if_false, Bool.false_eq_true, pl_len, pl_cells, pl_at, pl_rest, pl_left, pl_small, pl_seed, pl_turn, pu_at, pu_rest, pu_left, pu_small, pu_turn]
  refine ⟨by decide, ?_⟩
  refine seq_i (fun ρ => ∃ (at_ : Nat) (rest left : Int) (small : Bool) (turn : Int), ρ = [.ownK (some a) (pl (.opq (cellsP c cs)) (.int at_) (.int rest) (.int left) (.bl small) (.int seed) (.int turn)), .sh (.int n), .un]) ?_ fun N hN => ?_
  · rintro ρ ⟨at_, rest, left, small, turn, rfl⟩
    have fin : ∀ (at_ : Nat) (rest left : Int) (small : Bool) (turn r : Int), 0 ≤ r → r < n → ∃ d', Sl.ownK (some a) (pl (.opq (cellsP c cs)) (.int at_) (.int rest) (.int left) (.bl small) (.int seed) (.int turn)) = slO (some a) d' ∧ (slO (some a) d').isOwn = true ∧ QD (.int r) d' :=
      fun at_ rest left small turn r h0 h1 => ⟨poolS (.opq (cellsP c cs)) at_ rest left small seed turn, rfl, rfl, q r _ h0 h1 ⟨at_, rest, left, small, seed, turn, rfl⟩⟩
    have hn0 : 0 < n := hn.1
    rw [wSs_cons]; simp (maxSteps := 4000000) only [wS, wE, wA, wG, wGs, wT, wTall, wTany, wTs, wO, wAnd, wOr, binW, cmpW, eqW, ixW, slW, biW, intW, lenW, tupleW, listW, meW, truW, augW, itW, List.getElem?_cons_zero, List.getElem?_cons_succ, List.set_cons_zero, List.set_cons_succ, md, true_and, keyD, Option.some.injEq, exists_and_left, exists_eq_left', exists_eq_left, decide_true, decide_false, Bool.and_true, Bool.true_and, Bool.not_true, Bool.not_false, atI_0, atI_1, atI_2, atI_3, wipeD, Tg.slots, slotsL, List.cons_append, List.nil_append, ↓reduceIte, if_true, if_false, Bool.false_eq_true, pl_len, pl_cells, pl_at, pl_rest, pl_left, pl_small, pl_seed, pl_turn, pu_at, pu_rest, pu_left, pu_small, pu_turn]
    split
    · rw [wSs_cons]; simp (maxSteps := 4000000) only [wS, wE, wA, wG, wGs, wT, wTall, wTany, wTs, wO, wAnd, wOr, binW, cmpW, eqW, ixW, slW, biW, intW, lenW, tupleW, listW, meW, truW, augW, itW, List.getElem?_cons_zero, List.getElem?_cons_succ, List.set_cons_zero, List.set_cons_succ, md, true_and, keyD, Option.some.injEq, exists_and_left, exists_eq_left', exists_eq_left, decide_true, decide_false, Bool.and_true, Bool.true_and, Bool.not_true, Bool.not_false, atI_0, atI_1, atI_2, atI_3, wipeD, Tg.slots, slotsL, List.cons_append, List.nil_append, ↓reduceIte, if_true, if_false, Bool.false_eq_true, pl_len, pl_cells, pl_at, pl_rest, pl_left, pl_small, pl_seed, pl_turn, pu_at, pu_rest, pu_left, pu_small, pu_turn]
      exact c_mixed hn0 fun r h0 h1 => ⟨nofun, fin _ _ _ _ _ r h0 h1⟩
    rw [wSs_nil]; dsimp only
    rw [wSs_cons]; simp (maxSteps := 4000000) only [wS, wE, wA, wG, wGs, wT, wTall, wTany, wTs, wO, wAnd, wOr, binW, cmpW, eqW, ixW, slW, biW, intW, lenW, tupleW, listW, meW, truW, augW, itW, List.getElem?_cons_zero, List.getElem?_cons_succ, List.set_cons_zero, List.set_cons_succ, md, true_and, keyD, Option.some.injEq, exists_and_left, exists_eq_left', exists_eq_left, decide_true, decide_false, Bool.and_true, Bool.true_and, Bool.not_true, Bool.not_false, atI_0, atI_1, atI_2, atI_3, wipeD, Tg.slots, slotsL, List.cons_append, List.nil_append, ↓reduceIte, if_true, if_false, Bool.false_eq_true, pl_len, pl_cells, pl_at, pl_rest, pl_left, pl_small, pl_seed, pl_turn, pu_at, pu_rest, pu_left, pu_small, pu_turn]
    refine ⟨by decide, ?_⟩
    rw [wSs_cons]; simp (maxSteps := 4000000) only [wS, wE, wA, wG, wGs, wT, wTall, wTany, wTs, wO, wAnd, wOr, binW, cmpW, eqW, ixW, slW, biW, intW, lenW, tupleW, listW, meW, truW, augW, itW, List.getElem?_cons_zero, List.getElem?_cons_succ, List.set_cons_zero, List.set_cons_succ, md, true_and, keyD, Option.some.injEq, exists_and_left, exists_eq_left', exists_eq_left, decide_true, decide_false, Bool.and_true, Bool.true_and, Bool.not_true, Bool.not_false, atI_0, atI_1, atI_2, atI_3, wipeD, Tg.slots, slotsL, List.cons_append, List.nil_append, ↓reduceIte, if_true, if_false, Bool.false_eq_true, pl_len, pl_cells, pl_at, pl_rest, pl_left, pl_small, pl_seed, pl_turn, pu_at, pu_rest, pu_left, pu_small, pu_turn]
    split
    · rw [wSs_cons]; simp (maxSteps := 4000000) only [wS, wE, wA, wG, wGs, wT, wTall, wTany, wTs, wO, wAnd, wOr, binW, cmpW, eqW, ixW, slW, biW, intW, lenW, tupleW, listW, meW, truW, augW, itW, List.getElem?_cons_zero, List.getElem?_cons_succ, List.set_cons_zero, List.set_cons_succ, md, true_and, keyD, Option.some.injEq, exists_and_left, exists_eq_left', exists_eq_left, decide_true, decide_false, Bool.and_true, Bool.true_and, Bool.not_true, Bool.not_false, atI_0, atI_1, atI_2, atI_3, wipeD, Tg.slots, slotsL, List.cons_append, List.nil_append, ↓reduceIte, if_true, if_false, Bool.false_eq_true, pl_len, pl_cells, pl_at, pl_rest, pl_left, pl_small, pl_seed, pl_turn, pu_at, pu_rest, pu_left, pu_small, pu_turn]
      exact c_mixed hn0 fun r h0 h1 => ⟨nofun, fin _ _ _ _ _ r h0 h1⟩
    rw [wSs_nil]; dsimp only
    rw [wSs_cons]; simp (maxSteps := 4000000) only [wS, wE, wA, wG, wGs, wT, wTall, wTany, wTs, wO, wAnd, wOr, binW, cmpW, eqW, ixW, slW, biW, intW, lenW, tupleW, listW, meW, truW, augW, itW, List.getElem?_cons_zero, List.getElem?_cons_succ, List.set_cons_zero, List.set_cons_succ, md, true_and, keyD, Option.some.injEq, exists_and_left, exists_eq_left', exists_eq_left, decide_true, decide_false, Bool.and_true, Bool.true_and, Bool.not_true, Bool.not_false, atI_0, atI_1, atI_2, atI_3, wipeD, Tg.slots, slotsL, List.cons_append, List.nil_append, ↓reduceIte, if_true, if_false, Bool.false_eq_true, pl_len, pl_cells, pl_at, pl_rest, pl_left, pl_small, pl_seed, pl_turn, pu_at, pu_rest, pu_left, pu_small, pu_turn]
    refine ⟨hn0, ?_⟩
    rw [wSs_cons]; simp (maxSteps := 4000000) only [wS, wE, wA, wG, wGs, wT, wTall, wTany, wTs, wO, wAnd, wOr, binW, cmpW, eqW, ixW, slW, biW, intW, lenW, tupleW, listW, meW, truW, augW, itW, List.getElem?_cons_zero, List.getElem?_cons_succ, List.set_cons_zero, List.set_cons_succ, md, true_and, keyD, Option.some.injEq, exists_and_left, exists_eq_left', exists_eq_left, decide_true, decide_false, Bool.and_true, Bool.true_and, Bool.not_true, Bool.not_false, atI_0, atI_1, atI_2, atI_3, wipeD, Tg.slots, slotsL, List.cons_append, List.nil_append, ↓reduceIte, if_true, if_false, Bool.false_eq_true, pl_len, pl_cells, pl_at, pl_rest, pl_left, pl_small, pl_seed, pl_turn, pu_at, pu_rest, pu_left, pu_small, pu_turn]
    refine ⟨hn, by decide, ?_⟩
    rw [wSs_cons]; simp (maxSteps := 4000000) only [wS, wE, wA, wG, wGs, wT, wTall, wTany, wTs, wO, wAnd, wOr, binW, cmpW, eqW, ixW, slW, biW, intW, lenW, tupleW, listW, meW, truW, augW, itW, List.getElem?_cons_zero, List.getElem?_cons_succ, List.set_cons_zero, List.set_cons_succ, md, true_and, keyD, Option.some.injEq, exists_and_left, exists_eq_left', exists_eq_left, decide_true, decide_false, Bool.and_true, Bool.true_and, Bool.not_true, Bool.not_false, atI_0, atI_1, atI_2, atI_3, wipeD, Tg.slots, slotsL, List.cons_append, List.nil_append, ↓reduceIte, if_true, if_false, Bool.false_eq_true, pl_len, pl_cells, pl_at, pl_rest, pl_left, pl_small, pl_seed, pl_turn, pu_at, pu_rest, pu_left, pu_small, pu_turn]
    split
    · rw [wSs_cons]; simp (maxSteps := 4000000) only [wS, wE, wA, wG, wGs, wT, wTall, wTany, wTs, wO, wAnd, wOr, binW, cmpW, eqW, ixW, slW, biW, intW, lenW, tupleW, listW, meW, truW, augW, itW, List.getElem?_cons_zero, List.getElem?_cons_succ, List.set_cons_zero, List.set_cons_succ, md, true_and, keyD, Option.some.injEq, exists_and_left, exists_eq_left', exists_eq_left, decide_true, decide_false, Bool.and_true, Bool.true_and, Bool.not_true, Bool.not_false, atI_0, atI_1, atI_2, atI_3, wipeD, Tg.slots, slotsL, List.cons_append, List.nil_append, ↓reduceIte, if_true, if_false, Bool.false_eq_true, pl_len, pl_cells, pl_at, pl_rest, pl_left, pl_small, pl_seed, pl_turn, pu_at, pu_rest, pu_left, pu_small, pu_turn]
      refine ⟨by decide, ?_⟩
      rw [wSs_nil]; dsimp only
      rw [wSs_cons]; simp (maxSteps := 4000000) only [wS, wE, wA, wG, wGs, wT, wTall, wTany, wTs, wO, wAnd, wOr, binW, cmpW, eqW, ixW, slW, biW, intW, lenW, tupleW, listW, meW, truW, augW, itW, List.getElem?_cons_zero, List.getElem?_cons_succ, List.set_cons_zero, List.set_cons_succ, md, true_and, keyD, Option.some.injEq, exists_and_left, exists_eq_left', exists_eq_left, decide_true, decide_false, Bool.and_true, Bool.true_and, Bool.not_true, Bool.not_false, atI_0, atI_1, atI_2, atI_3, wipeD, Tg.slots, slotsL, List.cons_append, List.nil_append, ↓reduceIte, if_true, if_false, Bool.false_eq_true, pl_len, pl_cells, pl_at, pl_rest, pl_left, pl_small, pl_seed, pl_turn, pu_at, pu_rest, pu_left, pu_small, pu_turn]
      exact ⟨nofun, fin _ _ _ _ _ _ (Int.emod_nonneg _ (by omega)) (Int.emod_lt_of_pos _ hn0)⟩
    · rw [wSs_nil]; dsimp only
      rw [wSs_cons]; simp (maxSteps := 4000000) only [wS, wE, wA, wG, wGs, wT, wTall, wTany, wTs, wO, wAnd, wOr, binW, cmpW, eqW, ixW, slW, biW, intW, lenW, tupleW, listW, meW, truW, augW, itW, List.getElem?_cons_zero, List.getElem?_cons_succ, List.set_cons_zero, List.set_cons_succ, md, true_and, keyD, Option.some.injEq, exists_and_left, exists_eq_left', exists_eq_left, decide_true, decide_false, Bool.and_true, Bool.true_and, Bool.not_true, Bool.not_false, atI_0, atI_1, atI_2, atI_3, wipeD, Tg.slots, slotsL, List.cons_append, List.nil_append, ↓reduceIte, if_true, if_false, Bool.false_eq_true, pl_len, pl_cells, pl_at, pl_rest, pl_left, pl_small, pl_seed, pl_turn, pu_at, pu_rest, pu_left, pu_small, pu_turn]
      exact ⟨nofun, fin _ _ _ _ _ _ (Int.emod_nonneg _ (by omega)) (Int.emod_lt_of_pos _ hn0)⟩
  · simp (maxSteps := 4000000) only [wS, wE, wA, wG, wGs, wT, wTall, wTany, wTs, wO, wAnd, wOr, binW, cmpW, eqW, ixW, slW, biW, intW, lenW, tupleW, listW, meW, truW, augW, itW, List.getElem?_cons_zero, List.getElem?_cons_succ, List.set_cons_zero, List.set_cons_succ, md, true_and, keyD, Option.some.injEq, exists_and_left, exists_eq_left', exists_eq_left, decide_true, decide_false, Bool.and_true, Bool.true_and, Bool.not_true, Bool.not_false, atI_0, atI_1, atI_2, atI_3, wipeD, Tg.slots, slotsL, List.cons_append, List.nil_append, ↓reduceIte, if_true, if_false, Bool.false_eq_true, pl_len, pl_cells, pl_at, pl_rest, pl_left, pl_small, pl_seed, pl_turn, pu_at, pu_rest, pu_left, pu_small, pu_turn]
    split
    · refine ⟨.lst (cs.map .int), wkCells, ?_⟩
      simp (maxSteps := 4000000) only [wS, wE, wA, wG, wGs, wT, wTall, wTany, wTs, wO, wAnd, wOr, binW, cmpW, eqW, ixW, slW, biW, intW, lenW, tupleW, listW, meW, truW, augW, itW, List.getElem?_cons_zero, List.getElem?_cons_succ, List.set_cons_zero, List.set_cons_succ, md, true_and, keyD, Option.some.injEq, exists_and_left, exists_eq_left', exists_eq_left, decide_true, decide_false, Bool.and_true, Bool.true_and, Bool.not_true, Bool.not_false, atI_0, atI_1, atI_2, atI_3, wipeD, Tg.slots, slotsL, List.cons_append, List.nil_append, ↓reduceIte, if_true, if_false, Bool.false_eq_true, pl_len, pl_cells, pl_at, pl_rest, pl_left, pl_small, pl_seed, pl_turn, pu_at, pu_rest, pu_left, pu_small, pu_turn]
      split
      · rename_i hlt
        have hlt : at_ < cs.length := by
          have := of_decide_eq_true hlt
          rw [List.length_map] at this
          omega
        rw [wSs_cons]; simp (maxSteps := 4000000) only [wS, wE, wA, wG, wGs, wT, wTall, wTany, wTs, wO, wAnd, wOr, binW, cmpW, eqW, ixW, slW, biW, intW, lenW, tupleW, listW, meW, truW, augW, itW, List.getElem?_cons_zero, List.getElem?_cons_succ, List.set_cons_zero, List.set_cons_succ, md, true_and, keyD, Option.some.injEq, exists_and_left, exists_eq_left', exists_eq_left, decide_true, decide_false, Bool.and_true, Bool.true_and, Bool.not_true, Bool.not_false, atI_0, atI_1, atI_2, atI_3, wipeD, Tg.slots, slotsL, List.cons_append, List.nil_append, ↓reduceIte, if_true, if_false, Bool.false_eq_true, pl_len, pl_cells, pl_at, pl_rest, pl_left, pl_small, pl_seed, pl_turn, pu_at, pu_rest, pu_left, pu_small, pu_turn]
        refine ⟨.lst (cs.map .int), wkCells, ?_⟩
        simp (maxSteps := 4000000) only [wS, wE, wA, wG, wGs, wT, wTall, wTany, wTs, wO, wAnd, wOr, binW, cmpW, eqW, ixW, slW, biW, intW, lenW, tupleW, listW, meW, truW, augW, itW, List.getElem?_cons_zero, List.getElem?_cons_succ, List.set_cons_zero, List.set_cons_succ, md, true_and, keyD, Option.some.injEq, exists_and_left, exists_eq_left', exists_eq_left, decide_true, decide_false, Bool.and_true, Bool.true_and, Bool.not_true, Bool.not_false, atI_0, atI_1, atI_2, atI_3, wipeD, Tg.slots, slotsL, List.cons_append, List.nil_append, ↓reduceIte, if_true, if_false, Bool.false_eq_true, pl_len, pl_cells, pl_at, pl_rest, pl_left, pl_small, pl_seed, pl_turn, pu_at, pu_rest, pu_left, pu_small, pu_turn]
        refine ⟨.int cs[at_], ?_, by decide, ?_⟩
        · rw [atI_nat (by rw [List.getElem?_map, List.getElem?_eq_getElem hlt]; rfl)]
        rw [wSs_cons]; simp (maxSteps := 4000000) only [wS, wE, wA, wG, wGs, wT, wTall, wTany, wTs, wO, wAnd, wOr, binW, cmpW, eqW, ixW, slW, biW, intW, lenW, tupleW, listW, meW, truW, augW, itW, List.getElem?_cons_zero, List.getElem?_cons_succ, List.set_cons_zero, List.set_cons_succ, md, true_and, keyD, Option.some.injEq, exists_and_left, exists_eq_left', exists_eq_left, decide_true, decide_false, Bool.and_true, Bool.true_and, Bool.not_true, Bool.not_false, atI_0, atI_1, atI_2, atI_3, wipeD, Tg.slots, slotsL, List.cons_append, List.nil_append, ↓reduceIte, if_true, if_false, Bool.false_eq_true, pl_len, pl_cells, pl_at, pl_rest, pl_left, pl_small, pl_seed, pl_turn, pu_at, pu_rest, pu_left, pu_small, pu_turn]
        refine ⟨by decide, ?_⟩
        rw [wSs_cons]; simp (maxSteps := 4000000) only [wS, wE, wA, wG, wGs, wT, wTall, wTany, wTs, wO, wAnd, wOr, binW, cmpW, eqW, ixW, slW, biW, intW, lenW, tupleW, listW, meW, truW, augW, itW, List.getElem?_cons_zero, List.getElem?_cons_succ, List.set_cons_zero, List.set_cons_succ, md, true_and, keyD, Option.some.injEq, exists_and_left, exists_eq_left', exists_eq_left, decide_true, decide_false, Bool.and_true, Bool.true_and, Bool.not_true, Bool.not_false, atI_0, atI_1, atI_2, atI_3, wipeD, Tg.slots, slotsL, List.cons_append, List.nil_append, ↓reduceIte, if_true, if_false, Bool.false_eq_true, pl_len, pl_cells, pl_at, pl_rest, pl_left, pl_small, pl_seed, pl_turn, pu_at, pu_rest, pu_left, pu_small, pu_turn]
        refine ⟨⟨by decide, by decide, by decide⟩, by decide, ?_⟩
        rw [wSs_cons]; simp (maxSteps := 4000000) only [wS, wE, wA, wG, wGs, wT, wTall, wTany, wTs, wO, wAnd, wOr, binW, cmpW, eqW, ixW, slW, biW, intW, lenW, tupleW, listW, meW, truW, augW, itW, List.getElem?_cons_zero, List.getElem?_cons_succ, List.set_cons_zero, List.set_cons_succ, md, true_and, keyD, Option.some.injEq, exists_and_left, exists_eq_left', exists_eq_left, decide_true, decide_false, Bool.and_true, Bool.true_and, Bool.not_true, Bool.not_false, atI_0, atI_1, atI_2, atI_3, wipeD, Tg.slots, slotsL, List.cons_append, List.nil_append, ↓reduceIte, if_true, if_false, Bool.false_eq_true, pl_len, pl_cells, pl_at, pl_rest, pl_left, pl_small, pl_seed, pl_turn, pu_at, pu_rest, pu_left, pu_small, pu_turn]
        refine ⟨by decide, .int (if (decide (cs[at_] < 10 ^ Int.toNat 18)) = true then 2 else 60), ?_, by decide, ?_⟩
        · split <;> rfl
        rw [wSs_nil]; dsimp only
        exact hN _ ⟨at_ + 1, _, _, _, _, by simp only [Int.natCast_add, Int.natCast_one]; rfl⟩
      · rw [wSs_nil]; dsimp only
        exact hN _ ⟨at_, _, _, _, _, rfl⟩
    · rw [wSs_nil]; dsimp only
      exact hN _ ⟨at_, _, _, _, _, rfl⟩
end
end DL.K09
namespace DL.K09
open PySem PySem.Spec PyProof.Rows L2 DL
section
variable {P : Program} {w : World} {Q : D → Prop} {QE : DX → Prop} {E : DX → DEnv → Prop}
theorem lit1 {s : Str} (h : s.length = 1) {p : Str} (hp : p.length ≤ 100000) : s.length + p.length ≤ sizeLine := by rw [sizeLine_eq]; omega
theorem brace_sz {p : Str} (h : p.length ≤ 1000) : (Str.ofString "{").length + p.length ≤ sizeLine ∧ (Str.ofString "{" ++ p).length + (Str.ofString "}").length ≤ sizeLine := by
  rw [len_app, len_lb, len_rb, sizeLine_eq]
  omega
theorem slotF_cons {line p : Str} {a k : Nat} {ps : List Str} : slotF line a k (p :: ps) = if hasAt line (brace p) a = true then some (a + p.length + 2, k) else slotF line a (k + 1) ps := rfl
theorem w_slot_at {ds : List D} (h : sSlot ds Q QE) : wSs (Γ P w) E b_slot_at (zz Q) (ent0 c_slot_at.N ds) := by
  obtain ⟨line, ps, a, rfl, hl, hB, ha, q⟩ := h
  show wSs (Γ P w) E b_slot_at _ [.sh (.str line), .sh (.int a), .sh (tS ps), .un, .un]
  unfold b_slot_at
  (try dsimp only); rw [wSs_cons]; simp (maxSteps := 4000000) only [wS, wE, wA, wG, wGs, wT, wTall, wTany, wTs, wO, wAnd, wOr, binW, cmpW, eqW, ixW, slW, biW, intW, lenW, tupleW, listW, meW, truW, augW, itW, List.getElem?_cons_zero, List.getElem?_cons_succ, List.set_cons_zero, List.set_cons_succ, md, true_and, keyD, Option.some.injEq, exists_and_left, exists_eq_left', exists_eq_left, decide_true, decide_false, Bool.and_true, Bool.true_and, Bool.not_true, Bool.not_false, atI_0, atI_1, atI_2, atI_3, wipeD, Tg.slots, slotsL, List.cons_append, List.nil_append, ↓reduceIte, if_true, if_false, Bool.false_eq_true, strsD]
  refine forL_ind (fun ds ρ => ∃ k qs s3 s4, ds = enD k (qs.map .str) ∧ ρ = [.sh (.str line), .sh (.int a), .sh (tS ps), s3, s4] ∧ slotF line a 0 ps = slotF line a k qs ∧ ∀ q ∈ qs, q.length ≤ 1000) ?_ ?_ _ _ ⟨0, ps, .un, .un, rfl, rfl, rfl, hB.2⟩
  · rintro ρ ⟨k, qs, s3, s4, e, rfl, hs, _⟩
    cases qs with
    | cons _ _ => cases e
    | nil =>
      (try dsimp only); rw [wSs_cons]; simp (maxSteps := 4000000) only [wS, wE, wA, wG, wGs, wT, wTall, wTany, wTs, wO, wAnd, wOr, binW, cmpW, eqW, ixW, slW, biW, intW, lenW, tupleW, listW, meW, truW, augW, itW, List.getElem?_cons_zero, List.getElem?_cons_succ, List.set_cons_zero, List.set_cons_succ, md, true_and, keyD, Option.some.injEq, exists_and_left, exists_eq_left', exists_eq_left, decide_true, decide_false, Bool.and_true, Bool.true_and, Bool.not_true, Bool.not_false, atI_0, atI_1, atI_2, atI_3, wipeD, Tg.slots, slotsL, List.cons_append, List.nil_append, ↓reduceIte, if_true, if_false, Bool.false_eq_true]
      rw [hs] at q
      exact ⟨nofun, q⟩
  · rintro d ds ρ ⟨k, qs, s3, s4, e, rfl, hs, hb⟩ N hN
    cases qs with
    | nil => cases e
    | cons q1 qs =>
      simp only [List.map_cons, enD] at e
      injection e with e1 e2
      subst e1 e2
      have hq := hb q1 List.mem_cons_self
      obtain ⟨z1, z2⟩ := brace_sz hq
      simp (maxSteps := 4000000) only [wS, wE, wA, wG, wGs, wT, wTall, wTany, wTs, wO, wAnd, wOr, binW, cmpW, eqW, ixW, slW, biW, intW, lenW, tupleW, listW, meW, truW, augW, itW, List.getElem?_cons_zero, List.getElem?_cons_succ, List.set_cons_zero, List.set_cons_succ, md, true_and, keyD, Option.some.injEq, exists_and_left, exists_eq_left', exists_eq_left, decide_true, decide_false, Bool.and_true, Bool.true_and, Bool.not_true, Bool.not_false, atI_0, atI_1, atI_2, atI_3, wipeD, Tg.slots, slotsL, List.cons_append, List.nil_append, ↓reduceIte, if_true, if_false, Bool.false_eq_true, List.length_cons, List.length_nil]
      (try dsimp only); rw [wSs_cons]; simp (maxSteps := 4000000) only [wS, wE, wA, wG, wGs, wT, wTall, wTany, wTs, wO, wAnd, wOr, binW, cmpW, eqW, ixW, slW, biW, intW, lenW, tupleW, listW, meW, truW, augW, itW, List.getElem?_cons_zero, List.getElem?_cons_succ, List.set_cons_zero, List.set_cons_succ, md, true_and, keyD, Option.some.injEq, exists_and_left, exists_eq_left', exists_eq_left, decide_true, decide_false, Bool.and_true, Bool.true_and, Bool.not_true, Bool.not_false, atI_0, atI_1, atI_2, atI_3, wipeD, Tg.slots, slotsL, List.cons_append, List.nil_append, ↓reduceIte, if_true, if_false, Bool.false_eq_true, sw3]
      refine ⟨z1, z2, ?_⟩
      change if hasAt line (brace q1) a = true then _ else _
      rw [slotF_cons] at hs
      split
      · rename_i c
        rw [if_pos c] at hs
        rw [hs] at q
        (try dsimp only); rw [wSs_cons]; simp (maxSteps := 4000000) only [wS, wE, wA, wG, wGs, wT, wTall, wTany, wTs, wO, wAnd, wOr, binW, cmpW, eqW, ixW, slW, biW, intW, lenW, tupleW, listW, meW, truW, augW, itW, List.getElem?_cons_zero, List.getElem?_cons_succ, List.set_cons_zero, List.set_cons_succ, md, true_and, keyD, Option.some.injEq, exists_and_left, exists_eq_left', exists_eq_left, decide_true, decide_false, Bool.and_true, Bool.true_and, Bool.not_true, Bool.not_false, atI_0, atI_1, atI_2, atI_3, wipeD, Tg.slots, slotsL, List.cons_append, List.nil_append, ↓reduceIte, if_true, if_false, Bool.false_eq_true]
        refine ⟨by rw [sizeLine_eq]; omega, sz (by simp), nofun, ?_⟩
        have e3 : (a : Int) + (q1.length : Int) + 2 = ((a + q1.length + 2 : Nat) : Int) := by omega
        rw [e3]; exact q
      · rename_i c
        rw [if_neg c] at hs
        (try dsimp only); rw [wSs_nil]; dsimp only
        exact hN _ ⟨k + 1, qs, _, _, rfl, rfl, hs, fun x hx => hb x (List.mem_cons_of_mem _ hx)⟩
theorem partsF_go {line : Str} {ps : List Str} {f b a : Nat} (h : a < line.length) : partsF line ps (f + 1) b a = match slotF line a 0 ps with
      | none => partsF line ps f b (a + 1)
      | some (e, k) => textP b a ++ Pt.slot a e k :: partsF line ps f e e := if_pos h
theorem c_slot {line : Str} {ps : List Str} {a : Nat} {Q : D → Prop} {QE : DX → Prop} (hl : line.length ≤ 1000) (hB : Bd ps) (ha : a ≤ line.length) (q : Q (slotD (slotF line a 0 ps))) : Γ P w 0 [.str line, .int a, tS ps] Q QE := ⟨line, ps, a, rfl, hl, hB, by omega, q⟩
theorem w_parts_of {ds : List D} (h : sParts ds Q QE) : wSs (Γ P w) E b_parts_of (zz Q) (ent0 c_parts_of.N ds) := by
  obtain ⟨line, ps, rfl, hl, hB, q⟩ := h
  show wSs (Γ P w) E b_parts_of _ [.sh (.str line), .sh (tS ps), .un, .un, .un, .un]
  unfold b_parts_of
  (try dsimp only); rw [wSs_cons]; simp (maxSteps := 4000000) only [wS, wE, wA, wG, wGs, wT, wTall, wTany, wTs, wO, wAnd, wOr, binW, cmpW, eqW, ixW, slW, biW, intW, lenW, tupleW, listW, meW, truW, augW, itW, List.getElem?_cons_zero, List.getElem?_cons_succ, List.set_cons_zero, List.set_cons_succ, md, true_and, keyD, Option.some.injEq, exists_and_left, exists_eq_left', exists_eq_left, decide_true, decide_false, Bool.and_true, Bool.true_and, Bool.not_true, Bool.not_false, atI_0, atI_1, atI_2, atI_3, wipeD, Tg.slots, slotsL, List.cons_append, List.nil_append, ↓reduceIte, if_true, if_false, Bool.false_eq_true]
  refine ⟨sz (by simp), ?_⟩
  (try dsimp only); rw [wSs_cons]; simp (maxSteps := 4000000) only [wS, wE, wA, wG, wGs, wT, wTall, wTany, wTs, wO, wAnd, wOr, binW, cmpW, eqW, ixW, slW, biW, intW, lenW, tupleW, listW, meW, truW, augW, itW, List.getElem?_cons_zero, List.getElem?_cons_succ, List.set_cons_zero, List.set_cons_succ, md, true_and, keyD, Option.some.injEq, exists_and_left, exists_eq_left', exists_eq_left, decide_true, decide_false, Bool.and_true, Bool.true_and, Bool.not_true, Bool.not_false, atI_0, atI_1, atI_2, atI_3, wipeD, Tg.slots, slotsL, List.cons_append, List.nil_append, ↓reduceIte, if_true, if_false, Bool.false_eq_true]
  (try dsimp only); rw [wSs_cons]; simp (maxSteps := 4000000) only [wS, wE, wA, wG, wGs, wT, wTall, wTany, wTs, wO, wAnd, wOr, binW, cmpW, eqW, ixW, slW, biW, intW, lenW, tupleW, listW, meW, truW, augW, itW, List.getElem?_cons_zero, List.getElem?_cons_succ, List.set_cons_zero, List.set_cons_succ, md, true_and, keyD, Option.some.injEq, exists_and_left, exists_eq_left', exists_eq_left, decide_true, decide_false, Bool.and_true, Bool.true_and, Bool.not_true, Bool.not_false, atI_0, atI_1, atI_2, atI_3, wipeD, Tg.slots, slotsL, List.cons_append, List.nil_append, ↓reduceIte, if_true, if_false, Bool.false_eq_true]
  refine seq_i (fun ρ => ∃ (acc : List Pt) (b : Nat) (s5 : Sl), ρ = [.sh (.str line), .sh (tS ps), .own none (acc.map Pt.d), .sh (.int b), .sh (.int line.length), s5] ∧ b ≤ line.length ∧ partsF line ps line.length 0 0 = acc ++ textP b line.length ∧ acc.length ≤ 2 * line.length) ?_ fun N hN => ?_
  · rintro ρ ⟨acc, b, s5, rfl, hb, e, hlen⟩
    (try dsimp only); rw [wSs_cons]; simp (maxSteps := 4000000) only [wS, wE, wA, wG, wGs, wT, wTall, wTany, wTs, wO, wAnd, wOr, binW, cmpW, eqW, ixW, slW, biW, intW, lenW, tupleW, listW, meW, truW, augW, itW, List.getElem?_cons_zero, List.getElem?_cons_succ, List.set_cons_zero, List.set_cons_succ, md, true_and, keyD, Option.some.injEq, exists_and_left, exists_eq_left', exists_eq_left, decide_true, decide_false, Bool.and_true, Bool.true_and, Bool.not_true, Bool.not_false, atI_0, atI_1, atI_2, atI_3, wipeD, Tg.slots, slotsL, List.cons_append, List.nil_append, ↓reduceIte, if_true, if_false, Bool.false_eq_true]
    rw [e] at q
    unfold textP at q
    split
    · rename_i c
      have c : b < line.length := by simpa using c
      rw [if_pos c] at q
      (try dsimp only); rw [wSs_cons]; simp (maxSteps := 4000000) only [wS, wE, wA, wG, wGs, wT, wTall, wTany, wTs, wO, wAnd, wOr, binW, cmpW, eqW, ixW, slW, biW, intW, lenW, tupleW, listW, meW, truW, augW, itW, List.getElem?_cons_zero, List.getElem?_cons_succ, List.set_cons_zero, List.set_cons_succ, md, true_and, keyD, Option.some.injEq, exists_and_left, exists_eq_left', exists_eq_left, decide_true, decide_false, Bool.and_true, Bool.true_and, Bool.not_true, Bool.not_false, atI_0, atI_1, atI_2, atI_3, wipeD, Tg.slots, slotsL, List.cons_append, List.nil_append, ↓reduceIte, if_true, if_false, Bool.false_eq_true]
      refine ⟨sz (by simp), sz' (by rw [List.length_map]; omega), ?_⟩
      (try dsimp only); rw [wSs_nil]; dsimp only
      (try dsimp only); rw [wSs_cons]; simp (maxSteps := 4000000) only [wS, wE, wA, wG, wGs, wT, wTall, wTany, wTs, wO, wAnd, wOr, binW, cmpW, eqW, ixW, slW, biW, intW, lenW, tupleW, listW, meW, truW, augW, itW, List.getElem?_cons_zero, List.getElem?_cons_succ, List.set_cons_zero, List.set_cons_succ, md, true_and, keyD, Option.some.injEq, exists_and_left, exists_eq_left', exists_eq_left, decide_true, decide_false, Bool.and_true, Bool.true_and, Bool.not_true, Bool.not_false, atI_0, atI_1, atI_2, atI_3, wipeD, Tg.slots, slotsL, List.cons_append, List.nil_append, ↓reduceIte, if_true, if_false, Bool.false_eq_true]
      refine ⟨nofun, ?_⟩
      rw [List.map_append] at q
      exact q
    · rename_i c
      have c : ¬ b < line.length := by simpa using c
      rw [if_neg c, List.append_nil] at q
      (try dsimp only); rw [wSs_nil]; dsimp only
      (try dsimp only); rw [wSs_cons]; simp (maxSteps := 4000000) only [wS, wE, wA, wG, wGs, wT, wTall, wTany, wTs, wO, wAnd, wOr, binW, cmpW, eqW, ixW, slW, biW, intW, lenW, tupleW, listW, meW, truW, augW, itW, List.getElem?_cons_zero, List.getElem?_cons_succ, List.set_cons_zero, List.set_cons_succ, md, true_and, keyD, Option.some.injEq, exists_and_left, exists_eq_left', exists_eq_left, decide_true, decide_false, Bool.and_true, Bool.true_and, Bool.not_true, Bool.not_false, atI_0, atI_1, atI_2, atI_3, wipeD, Tg.slots, slotsL, List.cons_append, List.nil_append, ↓reduceIte, if_true, if_false, Bool.false_eq_true]
      exact ⟨nofun, q⟩
  · refine whl_i (fun m ρ => ∃ (acc : List Pt) (b a : Nat) (s5 : Sl), ρ = [.sh (.str line), .sh (tS ps), .own none (acc.map Pt.d), .sh (.int b), .sh (.int a), s5] ∧ b ≤ a ∧ a ≤ line.length ∧ m = line.length - a ∧ partsF line ps line.length 0 0 = acc ++ partsF line ps m b a ∧ acc.length ≤ 2 * b) line.length ⟨[], 0, 0, .un, rfl, Nat.le_refl _, Nat.zero_le _, rfl, rfl, by simp⟩ ?_
    rintro m ρ ⟨acc, b, a, s5, rfl, hb, ha, rfl, e, hlen⟩
    simp (maxSteps := 4000000) only [wS, wE, wA, wG, wGs, wT, wTall, wTany, wTs, wO, wAnd, wOr, binW, cmpW, eqW, ixW, slW, biW, intW, lenW, tupleW, listW, meW, truW, augW, itW, List.getElem?_cons_zero, List.getElem?_cons_succ, List.set_cons_zero, List.set_cons_succ, md, true_and, keyD, Option.some.injEq, exists_and_left, exists_eq_left', exists_eq_left, decide_true, decide_false, Bool.and_true, Bool.true_and, Bool.not_true, Bool.not_false, atI_0, atI_1, atI_2, atI_3, wipeD, Tg.slots, slotsL, List.cons_append, List.nil_append, ↓reduceIte, if_true, if_false, Bool.false_eq_true]
    refine ⟨sz (by omega), ?_⟩
    split
    · rename_i c
      have c : a < line.length := by simpa using c
      (try dsimp only); rw [wSs_cons]; simp (maxSteps := 4000000) only [wS, wE, wA, wG, wGs, wT, wTall, wTany, wTs, wO, wAnd, wOr, binW, cmpW, eqW, ixW, slW, biW, intW, lenW, tupleW, listW, meW, truW, augW, itW, List.getElem?_cons_zero, List.getElem?_cons_succ, List.set_cons_zero, List.set_cons_succ, md, true_and, keyD, Option.some.injEq, exists_and_left, exists_eq_left', exists_eq_left, decide_true, decide_false, Bool.and_true, Bool.true_and, Bool.not_true, Bool.not_false, atI_0, atI_1, atI_2, atI_3, wipeD, Tg.slots, slotsL, List.cons_append, List.nil_append, ↓reduceIte, if_true, if_false, Bool.false_eq_true]
      refine c_slot hl hB ha ?_
      have e1 : line.length - a = (line.length - (a + 1)) + 1 := by omega
      rw [e1, partsF_go c] at e
      cases hs : slotF line a 0 ps with
      | none =>
        rw [hs] at e
        (try dsimp only); rw [wSs_cons]; simp (maxSteps := 4000000) only [wS, wE, wA, wG, wGs, wT, wTall, wTany, wTs, wO, wAnd, wOr, binW, cmpW, eqW, ixW, slW, biW, intW, lenW, tupleW, listW, meW, truW, augW, itW, List.getElem?_cons_zero, List.getElem?_cons_succ, List.set_cons_zero, List.set_cons_succ, md, true_and, keyD, Option.some.injEq, exists_and_left, exists_eq_left', exists_eq_left, decide_true, decide_false, Bool.and_true, Bool.true_and, Bool.not_true, Bool.not_false, atI_0, atI_1, atI_2, atI_3, wipeD, Tg.slots, slotsL, List.cons_append, List.nil_append, ↓reduceIte, if_true, if_false, Bool.false_eq_true, slotD]
        (try dsimp only); rw [wSs_cons]; simp (maxSteps := 4000000) only [wS, wE, wA, wG, wGs, wT, wTall, wTany, wTs, wO, wAnd, wOr, binW, cmpW, eqW, ixW, slW, biW, intW, lenW, tupleW, listW, meW, truW, augW, itW, List.getElem?_cons_zero, List.getElem?_cons_succ, List.set_cons_zero, List.set_cons_succ, md, true_and, keyD, Option.some.injEq, exists_and_left, exists_eq_left', exists_eq_left, decide_true, decide_false, Bool.and_true, Bool.true_and, Bool.not_true, Bool.not_false, atI_0, atI_1, atI_2, atI_3, wipeD, Tg.slots, slotsL, List.cons_append, List.nil_append, ↓reduceIte, if_true, if_false, Bool.false_eq_true]
        (try dsimp only); rw [wSs_nil]; dsimp only
        (try dsimp only); rw [wSs_nil]; dsimp only
        exact ⟨line.length - (a + 1), by omega, acc, b, a + 1, .sh .non, by simp only [Int.natCast_add, Int.natCast_one, slotD], by omega, by omega, rfl, e, hlen⟩
      | some r =>
        obtain ⟨e2, k⟩ := r
        have he := slotF_end hs
        rw [hs] at e
        (try dsimp only); rw [wSs_cons]; simp (maxSteps := 4000000) only [wS, wE, wA, wG, wGs, wT, wTall, wTany, wTs, wO, wAnd, wOr, binW, cmpW, eqW, ixW, slW, biW, intW, lenW, tupleW, listW, meW, truW, augW, itW, List.getElem?_cons_zero, List.getElem?_cons_succ, List.set_cons_zero, List.set_cons_succ, md, true_and, keyD, Option.some.injEq, exists_and_left, exists_eq_left', exists_eq_left, decide_true, decide_false, Bool.and_true, Bool.true_and, Bool.not_true, Bool.not_false, atI_0, atI_1, atI_2, atI_3, wipeD, Tg.slots, slotsL, List.cons_append, List.nil_append, ↓reduceIte, if_true, if_false, Bool.false_eq_true, slotD]
        refine seq_i (fun ρ => ∃ acc', ρ = [.sh (.str line), .sh (tS ps), .own none (acc'.map Pt.d), .sh (.int b), .sh (.int a), .sh (slotD (some (e2, k)))] ∧ acc' = acc ++ textP b a ∧ acc'.length ≤ 2 * b + 1) ?_ fun N2 hN2 => ?_
        · rintro ρ ⟨acc', rfl, ea, hl2⟩
          (try dsimp only); rw [wSs_cons]; simp (maxSteps := 4000000) only [wS, wE, wA, wG, wGs, wT, wTall, wTany, wTs, wO, wAnd, wOr, binW, cmpW, eqW, ixW, slW, biW, intW, lenW, tupleW, listW, meW, truW, augW, itW, List.getElem?_cons_zero, List.getElem?_cons_succ, List.set_cons_zero, List.set_cons_succ, md, true_and, keyD, Option.some.injEq, exists_and_left, exists_eq_left', exists_eq_left, decide_true, decide_false, Bool.and_true, Bool.true_and, Bool.not_true, Bool.not_false, atI_0, atI_1, atI_2, atI_3, wipeD, Tg.slots, slotsL, List.cons_append, List.nil_append, ↓reduceIte, if_true, if_false, Bool.false_eq_true, slotD]
          refine ⟨sz (by simp), sz' (by rw [List.length_map]; omega), ?_⟩
          (try dsimp only); rw [wSs_cons]; simp (maxSteps := 4000000) only [wS, wE, wA, wG, wGs, wT, wTall, wTany, wTs, wO, wAnd, wOr, binW, cmpW, eqW, ixW, slW, biW, intW, lenW, tupleW, listW, meW, truW, augW, itW, List.getElem?_cons_zero, List.getElem?_cons_succ, List.set_cons_zero, List.set_cons_succ, md, true_and, keyD, Option.some.injEq, exists_and_left, exists_eq_left', exists_eq_left, decide_true, decide_false, Bool.and_true, Bool.true_and, Bool.not_true, Bool.not_false, atI_0, atI_1, atI_2, atI_3, wipeD, Tg.slots, slotsL, List.cons_append, List.nil_append, ↓reduceIte, if_true, if_false, Bool.false_eq_true]
          (try dsimp only); rw [wSs_cons]; simp (maxSteps := 4000000) only [wS, wE, wA, wG, wGs, wT, wTall, wTany, wTs, wO, wAnd, wOr, binW, cmpW, eqW, ixW, slW, biW, intW, lenW, tupleW, listW, meW, truW, augW, itW, List.getElem?_cons_zero, List.getElem?_cons_succ, List.set_cons_zero, List.set_cons_succ, md, true_and, keyD, Option.some.injEq, exists_and_left, exists_eq_left', exists_eq_left, decide_true, decide_false, Bool.and_true, Bool.true_and, Bool.not_true, Bool.not_false, atI_0, atI_1, atI_2, atI_3, wipeD, Tg.slots, slotsL, List.cons_append, List.nil_append, ↓reduceIte, if_true, if_false, Bool.false_eq_true]
          (try dsimp only); rw [wSs_nil]; dsimp only
          (try dsimp only); rw [wSs_nil]; dsimp only
          refine ⟨line.length - e2, by omega, acc' ++ [.slot a e2 k], e2, e2, _, by rw [List.map_append]; rfl, Nat.le_refl _, by omega, rfl, ?_, ?_⟩
          · rw [e, ea, partsF_fuel (line.length - e2) (line.length - (a + 1)) e2 e2 (Nat.le_refl _) (by omega)]
            simp only [List.append_assoc, List.singleton_append]
          · rw [List.length_append, List.length_singleton]; omega
        · simp (maxSteps := 4000000) only [wS, wE, wA, wG, wGs, wT, wTall, wTany, wTs, wO, wAnd, wOr, binW, cmpW, eqW, ixW, slW, biW, intW, lenW, tupleW, listW, meW, truW, augW, itW, List.getElem?_cons_zero, List.getElem?_cons_succ, List.set_cons_zero, List.set_cons_succ, md, true_and, keyD, Option.some.injEq, exists_and_left, exists_eq_left', exists_eq_left, decide_true, decide_false, Bool.and_true, Bool.true_and, Bool.not_true, Bool.not_false, atI_0, atI_1, atI_2, atI_3, wipeD, Tg.slots, slotsL, List.cons_append, List.nil_append, ↓reduceIte, if_true, if_false, Bool.false_eq_true]
          split
          · rename_i c2
            have c2 : b < a := by simpa using c2
            (try dsimp only); rw [wSs_cons]; simp (maxSteps := 4000000) only [wS, wE, wA, wG, wGs, wT, wTall, wTany, wTs, wO, wAnd, wOr, binW, cmpW, eqW, ixW, slW, biW, intW, lenW, tupleW, listW, meW, truW, augW, itW, List.getElem?_cons_zero, List.getElem?_cons_succ, List.set_cons_zero, List.set_cons_succ, md, true_and, keyD, Option.some.injEq, exists_and_left, exists_eq_left', exists_eq_left, decide_true, decide_false, Bool.and_true, Bool.true_and, Bool.not_true, Bool.not_false, atI_0, atI_1, atI_2, atI_3, wipeD, Tg.slots, slotsL, List.cons_append, List.nil_append, ↓reduceIte, if_true, if_false, Bool.false_eq_true]
            refine ⟨sz (by simp), sz' (by rw [List.length_map]; omega), ?_⟩
            (try dsimp only); rw [wSs_nil]; dsimp only
            refine hN2 _ ⟨acc ++ [.text b a], by rw [List.map_append]; rfl, by unfold textP; rw [if_pos c2], by rw [List.length_append, List.length_singleton]; omega⟩
          · rename_i c2
            have c2 : ¬ b < a := by simpa using c2
            (try dsimp only); rw [wSs_nil]; dsimp only
            exact hN2 _ ⟨acc, rfl, by unfold textP; rw [if_neg c2, List.append_nil], by omega⟩
    · rename_i c
      have c : a = line.length := by
        have c : ¬ a < line.length := by simpa using c
        omega
      subst c
      refine hN _ ⟨acc, b, s5, rfl, hb, ?_, by omega⟩
      rw [e, Nat.sub_self]; rfl
end
end DL.K09
namespace DL.K09
open PySem PySem.Spec PyProof.Rows L2 DL
section
variable {P : Program} {w : World} {Q : D → Prop} {QE : DX → Prop} {E : DX → DEnv → Prop}
theorem small62 {n : Nat} (h : n ≤ 100000) : -(2 ^ 62) ≤ (n : Int) ∧ (n : Int) < 2 ^ 62 := ⟨by omega, by omega⟩
theorem atI_str {ps : List Str} {k : Nat} {q : Str} (h : ps[k]? = some q) : atI (ps.map D.str) (k : Int) = some (.str q) := atI_nat (by rw [List.getElem?_map, h]; rfl)
theorem w_law_parts {ds : List D} (h : sParts ds Q QE) : wSs (Γ P w) E b_law_parts (zz Q) (ent0 c_law_parts.N ds) := by
  obtain ⟨line, ps, rfl, hl, hB, q⟩ := h
  show wSs (Γ P w) E b_law_parts _ [.sh (.str line), .sh (tS ps), .un, .un, .un, .un, .un, .un, .un]
  unfold b_law_parts
  (try dsimp only); rw [wSs_cons]; simp (maxSteps := 4000000) only [wS, wE, wA, wG, wGs, wT, wTall, wTany, wTs, wO, wAnd, wOr, binW, cmpW, eqW, ixW, slW, biW, intW, lenW, tupleW, listW, meW, truW, augW, itW, List.getElem?_cons_zero, List.getElem?_cons_succ, List.set_cons_zero, List.set_cons_succ, md, true_and, keyD, Option.some.injEq, exists_and_left, exists_eq_left', exists_eq_left, decide_true, decide_false, Bool.and_true, Bool.true_and, Bool.not_true, Bool.not_false, atI_0, atI_1, atI_2, atI_3, wipeD, Tg.slots, slotsL, List.cons_append, List.nil_append, ↓reduceIte, if_true, if_false, Bool.false_eq_true]
  refine ⟨sz (by simp), ?_⟩
  (try dsimp only); rw [wSs_cons]; simp (maxSteps := 4000000) only [wS, wE, wA, wG, wGs, wT, wTall, wTany, wTs, wO, wAnd, wOr, binW, cmpW, eqW, ixW, slW, biW, intW, lenW, tupleW, listW, meW, truW, augW, itW, List.getElem?_cons_zero, List.getElem?_cons_succ, List.set_cons_zero, List.set_cons_succ, md, true_and, keyD, Option.some.injEq, exists_and_left, exists_eq_left', exists_eq_left, decide_true, decide_false, Bool.and_true, Bool.true_and, Bool.not_true, Bool.not_false, atI_0, atI_1, atI_2, atI_3, wipeD, Tg.slots, slotsL, List.cons_append, List.nil_append, ↓reduceIte, if_true, if_false, Bool.false_eq_true]
  (try dsimp only); rw [wSs_cons]; simp (maxSteps := 4000000) only [wS, wE, wA, wG, wGs, wT, wTall, wTany, wTs, wO, wAnd, wOr, binW, cmpW, eqW, ixW, slW, biW, intW, lenW, tupleW, listW, meW, truW, augW, itW, List.getElem?_cons_zero, List.getElem?_cons_succ, List.set_cons_zero, List.set_cons_succ, md, true_and, keyD, Option.some.injEq, exists_and_left, exists_eq_left', exists_eq_left, decide_true, decide_false, Bool.and_true, Bool.true_and, Bool.not_true, Bool.not_false, atI_0, atI_1, atI_2, atI_3, wipeD, Tg.slots, slotsL, List.cons_append, List.nil_append, ↓reduceIte, if_true, if_false, Bool.false_eq_true]
  refine seq_i (fun ρ => ∃ (acc : List Pt) (b : Nat) (s4 s5 s6 s7 s8 : Sl), ρ = [.sh (.str line), .sh (tS ps), .own none (acc.map Pt.d), .sh (.int b), s4, s5, s6, s7, s8] ∧ b ≤ line.length ∧ partsF line ps line.length 0 0 = acc ++ textP b line.length ∧ acc.length ≤ 2 * b) ?_ fun N hN => ?_
  · rintro ρ ⟨acc, b, s4, s5, s6, s7, s8, rfl, hb, e, hlen⟩
    (try dsimp only); rw [wSs_cons]; simp (maxSteps := 4000000) only [wS, wE, wA, wG, wGs, wT, wTall, wTany, wTs, wO, wAnd, wOr, binW, cmpW, eqW, ixW, slW, biW, intW, lenW, tupleW, listW, meW, truW, augW, itW, List.getElem?_cons_zero, List.getElem?_cons_succ, List.set_cons_zero, List.set_cons_succ, md, true_and, keyD, Option.some.injEq, exists_and_left, exists_eq_left', exists_eq_left, decide_true, decide_false, Bool.and_true, Bool.true_and, Bool.not_true, Bool.not_false, atI_0, atI_1, atI_2, atI_3, wipeD, Tg.slots, slotsL, List.cons_append, List.nil_append, ↓reduceIte, if_true, if_false, Bool.false_eq_true]
    refine ⟨sz (by omega), ?_⟩
    rw [e] at q
    unfold textP at q
    split
    · rename_i c
      have c : b < line.length := by simpa using c
      rw [if_pos c] at q
      (try dsimp only); rw [wSs_cons]; simp (maxSteps := 4000000) only [wS, wE, wA, wG, wGs, wT, wTall, wTany, wTs, wO, wAnd, wOr, binW, cmpW, eqW, ixW, slW, biW, intW, lenW, tupleW, listW, meW, truW, augW, itW, List.getElem?_cons_zero, List.getElem?_cons_succ, List.set_cons_zero, List.set_cons_succ, md, true_and, keyD, Option.some.injEq, exists_and_left, exists_eq_left', exists_eq_left, decide_true, decide_false, Bool.and_true, Bool.true_and, Bool.not_true, Bool.not_false, atI_0, atI_1, atI_2, atI_3, wipeD, Tg.slots, slotsL, List.cons_append, List.nil_append, ↓reduceIte, if_true, if_false, Bool.false_eq_true]
      refine ⟨sz (by omega), sz (by simp), sz' (by rw [List.length_map]; omega), ?_⟩
      (try dsimp only); rw [wSs_nil]; dsimp only
      (try dsimp only); rw [wSs_cons]; simp (maxSteps := 4000000) only [wS, wE, wA, wG, wGs, wT, wTall, wTany, wTs, wO, wAnd, wOr, binW, cmpW, eqW, ixW, slW, biW, intW, lenW, tupleW, listW, meW, truW, augW, itW, List.getElem?_cons_zero, List.getElem?_cons_succ, List.set_cons_zero, List.set_cons_succ, md, true_and, keyD, Option.some.injEq, exists_and_left, exists_eq_left', exists_eq_left, decide_true, decide_false, Bool.and_true, Bool.true_and, Bool.not_true, Bool.not_false, atI_0, atI_1, atI_2, atI_3, wipeD, Tg.slots, slotsL, List.cons_append, List.nil_append, ↓reduceIte, if_true, if_false, Bool.false_eq_true]
      refine ⟨nofun, ?_⟩
      rw [List.map_append] at q
      exact q
    · rename_i c
      have c : ¬ b < line.length := by simpa using c
      rw [if_neg c, List.append_nil] at q
      (try dsimp only); rw [wSs_nil]; dsimp only
      (try dsimp only); rw [wSs_cons]; simp (maxSteps := 4000000) only [wS, wE, wA, wG, wGs, wT, wTall, wTany, wTs, wO, wAnd, wOr, binW, cmpW, eqW, ixW, slW, biW, intW, lenW, tupleW, listW, meW, truW, augW, itW, List.getElem?_cons_zero, List.getElem?_cons_succ, List.set_cons_zero, List.set_cons_succ, md, true_and, keyD, Option.some.injEq, exists_and_left, exists_eq_left', exists_eq_left, decide_true, decide_false, Bool.and_true, Bool.true_and, Bool.not_true, Bool.not_false, atI_0, atI_1, atI_2, atI_3, wipeD, Tg.slots, slotsL, List.cons_append, List.nil_append, ↓reduceIte, if_true, if_false, Bool.false_eq_true]
      exact ⟨nofun, q⟩
  · simp (maxSteps := 4000000) only [wS, wE, wA, wG, wGs, wT, wTall, wTany, wTs, wO, wAnd, wOr, binW, cmpW, eqW, ixW, slW, biW, intW, lenW, tupleW, listW, meW, truW, augW, itW, List.getElem?_cons_zero, List.getElem?_cons_succ, List.set_cons_zero, List.set_cons_succ, md, true_and, keyD, Option.some.injEq, exists_and_left, exists_eq_left', exists_eq_left, decide_true, decide_false, Bool.and_true, Bool.true_and, Bool.not_true, Bool.not_false, atI_0, atI_1, atI_2, atI_3, wipeD, Tg.slots, slotsL, List.cons_append, List.nil_append, ↓reduceIte, if_true, if_false, Bool.false_eq_true]
    refine ⟨sz (by omega), (small62 (by omega)).1, (small62 (by omega)).2, ?_⟩
    rw [Int.toNat_natCast]
    refine forL_ind (fun ds ρ => ∃ (acc : List Pt) (b a : Nat) (s5 s6 s7 s8 : Sl), ρ = [.sh (.str line), .sh (tS ps), .own none (acc.map Pt.d), .sh (.int b), .sh (.int a), s5, s6, s7, s8] ∧ b ≤ a ∧ a ≤ line.length ∧ line.length - a ≤ ds.length ∧ partsF line ps line.length 0 0 = acc ++ partsF line ps (line.length - a) b a ∧ acc.length ≤ 2 * b) ?_ ?_ _ _ ⟨[], 0, 0, .un, .un, .un, .un, rfl, Nat.le_refl _, Nat.zero_le _, by simp, rfl, by simp⟩
    · rintro ρ ⟨acc, b, a, s5, s6, s7, s8, rfl, hb, ha, hd, e, hlen⟩
      have hd : line.length - a ≤ 0 := hd
      have e0 : line.length - a = 0 := by omega
      rw [e0] at e
      exact hN _ ⟨acc, b, _, s5, s6, s7, s8, rfl, by omega, e, hlen⟩
    · rintro d ds ρ ⟨acc, b, a, s5, s6, s7, s8, rfl, hb, ha, hd, e, hlen⟩ N1 hN1
      simp (maxSteps := 4000000) only [wS, wE, wA, wG, wGs, wT, wTall, wTany, wTs, wO, wAnd, wOr, binW, cmpW, eqW, ixW, slW, biW, intW, lenW, tupleW, listW, meW, truW, augW, itW, List.getElem?_cons_zero, List.getElem?_cons_succ, List.set_cons_zero, List.set_cons_succ, md, true_and, keyD, Option.some.injEq, exists_and_left, exists_eq_left', exists_eq_left, decide_true, decide_false, Bool.and_true, Bool.true_and, Bool.not_true, Bool.not_false, atI_0, atI_1, atI_2, atI_3, wipeD, Tg.slots, slotsL, List.cons_append, List.nil_append, ↓reduceIte, if_true, if_false, Bool.false_eq_true]
      (try dsimp only); rw [wSs_cons]; simp (maxSteps := 4000000) only [wS, wE, wA, wG, wGs, wT, wTall, wTany, wTs, wO, wAnd, wOr, binW, cmpW, eqW, ixW, slW, biW, intW, lenW, tupleW, listW, meW, truW, augW, itW, List.getElem?_cons_zero, List.getElem?_cons_succ, List.set_cons_zero, List.set_cons_succ, md, true_and, keyD, Option.some.injEq, exists_and_left, exists_eq_left', exists_eq_left, decide_true, decide_false, Bool.and_true, Bool.true_and, Bool.not_true, Bool.not_false, atI_0, atI_1, atI_2, atI_3, wipeD, Tg.slots, slotsL, List.cons_append, List.nil_append, ↓reduceIte, if_true, if_false, Bool.false_eq_true]
      refine ⟨sz (by omega), ?_⟩
      split
      · rename_i c
        have c : line.length ≤ a := by simpa using c
        have e0 : line.length - a = 0 := by omega
        rw [e0] at e
        (try dsimp only); rw [wSs_cons]; simp (maxSteps := 4000000) only [wS, wE, wA, wG, wGs, wT, wTall, wTany, wTs, wO, wAnd, wOr, binW, cmpW, eqW, ixW, slW, biW, intW, lenW, tupleW, listW, meW, truW, augW, itW, List.getElem?_cons_zero, List.getElem?_cons_succ, List.set_cons_zero, List.set_cons_succ, md, true_and, keyD, Option.some.injEq, exists_and_left, exists_eq_left', exists_eq_left, decide_true, decide_false, Bool.and_true, Bool.true_and, Bool.not_true, Bool.not_false, atI_0, atI_1, atI_2, atI_3, wipeD, Tg.slots, slotsL, List.cons_append, List.nil_append, ↓reduceIte, if_true, if_false, Bool.false_eq_true]
        exact hN _ ⟨acc, b, _, _, s6, s7, s8, rfl, by omega, e, hlen⟩
      · rename_i c
        have c : a < line.length := by simpa using c
        (try dsimp only); rw [wSs_nil]; dsimp only
        (try dsimp only); rw [wSs_cons]; simp (maxSteps := 4000000) only [wS, wE, wA, wG, wGs, wT, wTall, wTany, wTs, wO, wAnd, wOr, binW, cmpW, eqW, ixW, slW, biW, intW, lenW, tupleW, listW, meW, truW, augW, itW, List.getElem?_cons_zero, List.getElem?_cons_succ, List.set_cons_zero, List.set_cons_succ, md, true_and, keyD, Option.some.injEq, exists_and_left, exists_eq_left', exists_eq_left, decide_true, decide_false, Bool.and_true, Bool.true_and, Bool.not_true, Bool.not_false, atI_0, atI_1, atI_2, atI_3, wipeD, Tg.slots, slotsL, List.cons_append, List.nil_append, ↓reduceIte, if_true, if_false, Bool.false_eq_true]
        refine ⟨(small62 (by rw [List.length_map]; exact Nat.le_trans hB.1 (by decide))).1, (small62 (by rw [List.length_map]; exact Nat.le_trans hB.1 (by decide))).2, ?_⟩
        rw [Int.toNat_natCast, List.length_map, List.range_eq_range']
        have e1 : line.length - a = (line.length - (a + 1)) + 1 := by omega
        rw [e1, partsF_go c] at e
        refine lcL_ind (fun ds acc => ∃ (k : Nat) (qs : List Str), ds = (List.range' k qs.length).map (fun i => .int (i : Int)) ∧ (∀ j q, qs[j]? = some q → ps[k + j]? = some q) ∧ ((acc = [] ∧ slotF line a 0 ps = slotF line a k qs) ∨ ∃ (k0 e0 : Nat) (r : List D), acc = .int k0 :: r ∧ slotF line a 0 ps = some (e0, k0)) ∧ acc.length ≤ k ∧ k ≤ 1000) ?_ ?_ _ _ ⟨0, ps, rfl, fun j q h => by rw [Nat.zero_add]; exact h, .inl ⟨rfl, rfl⟩, Nat.le_refl _, by omega⟩
        · rintro fnd ⟨k, qs, h1, h2, h3, h4⟩
          have hq : qs = [] := by
            cases qs with
            | nil => rfl
            | cons _ _ => rw [List.length_cons, List.range'_succ] at h1; cases h1
          subst hq
          rcases h3 with ⟨rfl, h3⟩ | ⟨k0, e0, r, rfl, h3⟩
          · rw [h3] at e
            (try dsimp only); rw [wSs_cons]; simp (maxSteps := 4000000) only [wS, wE, wA, wG, wGs, wT, wTall, wTany, wTs, wO, wAnd, wOr, binW, cmpW, eqW, ixW, slW, biW, intW, lenW, tupleW, listW, meW, truW, augW, itW, List.getElem?_cons_zero, List.getElem?_cons_succ, List.set_cons_zero, List.set_cons_succ, md, true_and, keyD, Option.some.injEq, exists_and_left, exists_eq_left', exists_eq_left, decide_true, decide_false, Bool.and_true, Bool.true_and, Bool.not_true, Bool.not_false, atI_0, atI_1, atI_2, atI_3, wipeD, Tg.slots, slotsL, List.cons_append, List.nil_append, ↓reduceIte, if_true, if_false, Bool.false_eq_true]
            rw [if_neg (by simp)]
            (try dsimp only); rw [wSs_cons]; simp (maxSteps := 4000000) only [wS, wE, wA, wG, wGs, wT, wTall, wTany, wTs, wO, wAnd, wOr, binW, cmpW, eqW, ixW, slW, biW, intW, lenW, tupleW, listW, meW, truW, augW, itW, List.getElem?_cons_zero, List.getElem?_cons_succ, List.set_cons_zero, List.set_cons_succ, md, true_and, keyD, Option.some.injEq, exists_and_left, exists_eq_left', exists_eq_left, decide_true, decide_false, Bool.and_true, Bool.true_and, Bool.not_true, Bool.not_false, atI_0, atI_1, atI_2, atI_3, wipeD, Tg.slots, slotsL, List.cons_append, List.nil_append, ↓reduceIte, if_true, if_false, Bool.false_eq_true]
            (try dsimp only); rw [wSs_nil]; dsimp only
            (try dsimp only); rw [wSs_nil]; dsimp only
            exact hN1 _ ⟨acc, b, a + 1, _, _, _, _, by simp only [Int.natCast_add, Int.natCast_one]; rfl, by omega, by omega, by rw [List.length_cons] at hd; omega, e, hlen⟩
          · have he := slotF_end h3
            obtain ⟨p, hp, _, _, e4⟩ := slotF_some h3
            rw [Nat.sub_zero] at hp
            rw [h3] at e
            (try dsimp only); rw [wSs_cons]; simp (maxSteps := 4000000) only [wS, wE, wA, wG, wGs, wT, wTall, wTany, wTs, wO, wAnd, wOr, binW, cmpW, eqW, ixW, slW, biW, intW, lenW, tupleW, listW, meW, truW, augW, itW, List.getElem?_cons_zero, List.getElem?_cons_succ, List.set_cons_zero, List.set_cons_succ, md, true_and, keyD, Option.some.injEq, exists_and_left, exists_eq_left', exists_eq_left, decide_true, decide_false, Bool.and_true, Bool.true_and, Bool.not_true, Bool.not_false, atI_0, atI_1, atI_2, atI_3, wipeD, Tg.slots, slotsL, List.cons_append, List.nil_append, ↓reduceIte, if_true, if_false, Bool.false_eq_true]
            rw [if_pos (by simp)]
            (try dsimp only); rw [wSs_cons]; simp (maxSteps := 4000000) only [wS, wE, wA, wG, wGs, wT, wTall, wTany, wTs, wO, wAnd, wOr, binW, cmpW, eqW, ixW, slW, biW, intW, lenW, tupleW, listW, meW, truW, augW, itW, List.getElem?_cons_zero, List.getElem?_cons_succ, List.set_cons_zero, List.set_cons_succ, md, true_and, keyD, Option.some.injEq, exists_and_left, exists_eq_left', exists_eq_left, decide_true, decide_false, Bool.and_true, Bool.true_and, Bool.not_true, Bool.not_false, atI_0, atI_1, atI_2, atI_3, wipeD, Tg.slots, slotsL, List.cons_append, List.nil_append, ↓reduceIte, if_true, if_false, Bool.false_eq_true]
            refine ⟨.str p, atI_str hp, ?_⟩
            simp (maxSteps := 4000000) only [wS, wE, wA, wG, wGs, wT, wTall, wTany, wTs, wO, wAnd, wOr, binW, cmpW, eqW, ixW, slW, biW, intW, lenW, tupleW, listW, meW, truW, augW, itW, List.getElem?_cons_zero, List.getElem?_cons_succ, List.set_cons_zero, List.set_cons_succ, md, true_and, keyD, Option.some.injEq, exists_and_left, exists_eq_left', exists_eq_left, decide_true, decide_false, Bool.and_true, Bool.true_and, Bool.not_true, Bool.not_false, atI_0, atI_1, atI_2, atI_3, wipeD, Tg.slots, slotsL, List.cons_append, List.nil_append, ↓reduceIte, if_true, if_false, Bool.false_eq_true]
            have hpl := hB.2 p (List.mem_of_getElem? hp)
            refine ⟨sz (by omega), ?_⟩
            have e5 : (a : Int) + (p.length : Int) + 2 = ((e0 : Nat) : Int) := by omega
            rw [e5]
            refine seq_i (fun ρ => ∃ acc' s7, ρ = [.sh (.str line), .sh (tS ps), .own none (acc'.map Pt.d), .sh (.int b), .sh (.int a), .sh d, .sh (.lst (.int k0 :: r)), .sh (.int e0), s7] ∧ acc' = acc ++ textP b a ∧ acc'.length ≤ 2 * b + 1) ?_ fun N2 hN2 => ?_
            · rintro ρ ⟨acc', s7, rfl, ea, hl2⟩
              (try dsimp only); rw [wSs_cons]; simp (maxSteps := 4000000) only [wS, wE, wA, wG, wGs, wT, wTall, wTany, wTs, wO, wAnd, wOr, binW, cmpW, eqW, ixW, slW, biW, intW, lenW, tupleW, listW, meW, truW, augW, itW, List.getElem?_cons_zero, List.getElem?_cons_succ, List.set_cons_zero, List.set_cons_succ, md, true_and, keyD, Option.some.injEq, exists_and_left, exists_eq_left', exists_eq_left, decide_true, decide_false, Bool.and_true, Bool.true_and, Bool.not_true, Bool.not_false, atI_0, atI_1, atI_2, atI_3, wipeD, Tg.slots, slotsL, List.cons_append, List.nil_append, ↓reduceIte, if_true, if_false, Bool.false_eq_true]
              refine ⟨sz (by simp), sz' (by rw [List.length_map]; omega), ?_⟩
              (try dsimp only); rw [wSs_cons]; simp (maxSteps := 4000000) only [wS, wE, wA, wG, wGs, wT, wTall, wTany, wTs, wO, wAnd, wOr, binW, cmpW, eqW, ixW, slW, biW, intW, lenW, tupleW, listW, meW, truW, augW, itW, List.getElem?_cons_zero, List.getElem?_cons_succ, List.set_cons_zero, List.set_cons_succ, md, true_and, keyD, Option.some.injEq, exists_and_left, exists_eq_left', exists_eq_left, decide_true, decide_false, Bool.and_true, Bool.true_and, Bool.not_true, Bool.not_false, atI_0, atI_1, atI_2, atI_3, wipeD, Tg.slots, slotsL, List.cons_append, List.nil_append, ↓reduceIte, if_true, if_false, Bool.false_eq_true]
              (try dsimp only); rw [wSs_cons]; simp (maxSteps := 4000000) only [wS, wE, wA, wG, wGs, wT, wTall, wTany, wTs, wO, wAnd, wOr, binW, cmpW, eqW, ixW, slW, biW, intW, lenW, tupleW, listW, meW, truW, augW, itW, List.getElem?_cons_zero, List.getElem?_cons_succ, List.set_cons_zero, List.set_cons_succ, md, true_and, keyD, Option.some.injEq, exists_and_left, exists_eq_left', exists_eq_left, decide_true, decide_false, Bool.and_true, Bool.true_and, Bool.not_true, Bool.not_false, atI_0, atI_1, atI_2, atI_3, wipeD, Tg.slots, slotsL, List.cons_append, List.nil_append, ↓reduceIte, if_true, if_false, Bool.false_eq_true]
              (try dsimp only); rw [wSs_nil]; dsimp only
              (try dsimp only); rw [wSs_nil]; dsimp only
              refine hN1 _ ⟨acc' ++ [.slot a e0 k0], e0, e0, _, _, _, _, by rw [List.map_append]; rfl, Nat.le_refl _, by omega, by rw [List.length_cons] at hd; omega, ?_, ?_⟩
              · rw [e, ea, partsF_fuel (line.length - e0) (line.length - (a + 1)) e0 e0 (Nat.le_refl _) (by omega)]
                simp only [List.append_assoc, List.singleton_append]
              · rw [List.length_append, List.length_singleton]; omega
            · simp (maxSteps := 4000000) only [wS, wE, wA, wG, wGs, wT, wTall, wTany, wTs, wO, wAnd, wOr, binW, cmpW, eqW, ixW, slW, biW, intW, lenW, tupleW, listW, meW, truW, augW, itW, List.getElem?_cons_zero, List.getElem?_cons_succ, List.set_cons_zero, List.set_cons_succ, md, true_and, keyD, Option.some.injEq, exists_and_left, exists_eq_left', exists_eq_left, decide_true, decide_false, Bool.and_true, Bool.true_and, Bool.not_true, Bool.not_false, atI_0, atI_1, atI_2, atI_3, wipeD, Tg.slots, slotsL, List.cons_append, List.nil_append, ↓reduceIte, if_true, if_false, Bool.false_eq_true]
              split
              · rename_i c2
                have c2 : b < a := by simpa using c2
                (try dsimp only); rw [wSs_cons]; simp (maxSteps := 4000000) only [wS, wE, wA, wG, wGs, wT, wTall, wTany, wTs, wO, wAnd, wOr, binW, cmpW, eqW, ixW, slW, biW, intW, lenW, tupleW, listW, meW, truW, augW, itW, List.getElem?_cons_zero, List.getElem?_cons_succ, List.set_cons_zero, List.set_cons_succ, md, true_and, keyD, Option.some.injEq, exists_and_left, exists_eq_left', exists_eq_left, decide_true, decide_false, Bool.and_true, Bool.true_and, Bool.not_true, Bool.not_false, atI_0, atI_1, atI_2, atI_3, wipeD, Tg.slots, slotsL, List.cons_append, List.nil_append, ↓reduceIte, if_true, if_false, Bool.false_eq_true]
                refine ⟨sz (by simp), sz' (by rw [List.length_map]; omega), ?_⟩
                (try dsimp only); rw [wSs_nil]; dsimp only
                exact hN2 _ ⟨acc ++ [.text b a], _, by rw [List.map_append]; rfl, by unfold textP; rw [if_pos c2], by rw [List.length_append, List.length_singleton]; omega⟩
              · rename_i c2
                have c2 : ¬ b < a := by simpa using c2
                (try dsimp only); rw [wSs_nil]; dsimp only
                exact hN2 _ ⟨acc, _, rfl, by unfold textP; rw [if_neg c2, List.append_nil], by omega⟩
        · rintro d2 ds2 fnd ⟨k, qs, h1, h2, h3, h4, h5⟩ R hR
          cases qs with
          | nil => cases h1
          | cons q1 qs =>
            rw [List.length_cons, List.range'_succ, List.map_cons] at h1
            injection h1 with h1a h1b
            subst h1a h1b
            have hq1 : ps[k]? = some q1 := h2 0 q1 rfl
            have hpl := hB.2 q1 (List.mem_of_getElem? hq1)
            obtain ⟨z1, z2⟩ := brace_sz hpl
            simp (maxSteps := 4000000) only [e_law_parts_0, t_law_parts_0, wS, wE, wA, wG, wGs, wT, wTall, wTany, wTs, wO, wAnd, wOr, binW, cmpW, eqW, ixW, slW, biW, intW, lenW, tupleW, listW, meW, truW, augW, itW, List.getElem?_cons_zero, List.getElem?_cons_succ, List.set_cons_zero, List.set_cons_succ, md, true_and, keyD, Option.some.injEq, exists_and_left, exists_eq_left', exists_eq_left, decide_true, decide_false, Bool.and_true, Bool.true_and, Bool.not_true, Bool.not_false, atI_0, atI_1, atI_2, atI_3, wipeD, Tg.slots, slotsL, List.cons_append, List.nil_append, ↓reduceIte, if_true, if_false, Bool.false_eq_true, atI_str hq1]
            refine ⟨sz (by omega), sz (by omega), z1, z2, ?_⟩
            have e5 : (a : Int) + (q1.length : Int) + 2 = (a : Int) + ((brace q1).length : Int) := by rw [brace_len]; omega
            rw [e5]
            change if decide (cutS line (some (a : Int)) (some ((a : Int) + ((brace q1).length : Int))) = brace q1) = true then _ else _
            rw [cut_has line (brace q1) a ha]
            have nx : ∀ acc', ((acc' = [] ∧ slotF line a 0 ps = slotF line a (k + 1) qs) ∨ ∃ (k0 e0 : Nat) (r : List D), acc' = .int k0 :: r ∧ slotF line a 0 ps = some (e0, k0)) → acc'.length ≤ k + 1 → R acc' := fun acc' h hh => hR acc' ⟨k + 1, qs, rfl, fun j q hj => by
              have := h2 (j + 1) q hj
              rw [← this]; congr 1; omega, h, hh, by
              have := (List.getElem?_eq_some_iff.mp hq1).1
              have := hB.1
              omega⟩
            split
            · rename_i c3
              refine ⟨sz' (by omega), nx _ ?_ (by rw [List.length_append, List.length_singleton]; omega)⟩
              rcases h3 with ⟨rfl, h3⟩ | ⟨k0, e0, r, rfl, h3⟩
              · rw [slotF_cons, if_pos c3] at h3
                exact .inr ⟨k, _, [], rfl, h3⟩
              · exact .inr ⟨k0, e0, r ++ [.int k], rfl, h3⟩
            · rename_i c3
              refine nx _ ?_ (by omega)
              rcases h3 with ⟨rfl, h3⟩ | ⟨k0, e0, r, rfl, h3⟩
              · rw [slotF_cons, if_neg c3] at h3
                exact .inl ⟨rfl, h3⟩
              · exact .inr ⟨k0, e0, r, rfl, h3⟩
end
end DL.K09
namespace DL.K09
open PySem PySem.Spec PyProof.Rows L2 DL
section
variable {P : Program} {w : World} {Q : D → Prop} {QE : DX → Prop} {E : DX → DEnv → Prop}
theorem tsl : (Str.ofString "text" = Str.ofString "slot") = False := eq_false (by decide)
theorem c_parts {line : Str} {ps : List Str} {Q : D → Prop} {QE : DX → Prop} (hl : line.length ≤ 1000) (hB : Bd ps) (q : Q (.tup ((partsF line ps line.length 0 0).map Pt.d))) : Γ P w 1 [.str line, tS ps] Q QE := ⟨line, ps, rfl, hl, hB, q⟩
theorem c_parts2 {line : Str} {ps : List Str} {Q : D → Prop} {QE : DX → Prop} (hl : line.length ≤ 1000) (hB : Bd ps) (q : Q (.tup ((partsF line ps line.length 0 0).map Pt.d))) : Γ P w 10 [.str line, tS ps] Q QE := ⟨line, ps, rfl, hl, hB, q⟩
theorem sum_le {α : Type} {f : α → Nat} {c : Nat} : ∀ {l : List α}, (∀ x ∈ l, f x ≤ c) → (l.map f).sum ≤ l.length * c
  | [], _ => by simp
  | x :: l, h => by
    have ih := sum_le (f := f) (c := c) (l := l) fun y hy => h y (List.mem_cons_of_mem _ hy)
    have := h x List.mem_cons_self
    rw [List.map_cons, List.sum_cons, List.length_cons, Nat.succ_mul]
    omega
theorem piece_len {line : Str} {ps args : List Str} (hl : line.length ≤ 1000) (hA : Bd args) {p : Pt} (h : p.ok line.length ps.length) : (pieceF line args p).length ≤ 1000 := by
  cases p with
  | text b a =>
    show (cutS line (some (b : Int)) (some (a : Int))).length ≤ 1000
    have h2 : a ≤ line.length := h.2
    rw [cut_len line b a h.1 h.2]; omega
  | slot a e k =>
    show (args.getD k Str.empty).length ≤ 1000
    rw [List.getD_eq_getElem?_getD]
    cases z : args[k]? with
    | none => show (Str.empty).length ≤ 1000; decide
    | some q => exact hA.2 q (List.mem_of_getElem? z)
theorem pieces_sum {line : Str} {ps args : List Str} (hl : line.length ≤ 1000) (hA : Bd args) {l : List Pt} (h : ∀ p ∈ l, p.ok line.length ps.length) (hn : l.length ≤ 2 * line.length + 1) : ((l.map (pieceF line args)).map (·.length)).sum ≤ 2001000 := by
  rw [List.map_map]
  have := sum_le (f := (fun x : Str => x.length) ∘ pieceF line args) (c := 1000) (l := l) fun p hp => piece_len (ps := ps) hl hA (h p hp)
  have : l.length * 1000 ≤ 2001 * 1000 := Nat.mul_le_mul_right _ (by omega)
  omega
theorem cat_len : ∀ (l : List Str) (a : Str), (l.foldl (· ++ ·) a).length = a.length + (l.map (·.length)).sum
  | [], a => by simp
  | x :: r, a => by
    rw [List.foldl_cons, cat_len r, len_app, List.map_cons, List.sum_cons]; omega
theorem w_filled {ds : List D} (h : sFill ds Q QE) : wSs (Γ P w) E b_filled (zz Q) (ent0 c_filled.N ds) := by
  obtain ⟨line, ps, args, rfl, hl, hB, hA, hn, q⟩ := h
  show wSs (Γ P w) E b_filled _ [.sh (.str line), .sh (tS ps), .sh (tS args), .un, .un]
  unfold b_filled
  have hok := partsF_ok (line := line) (ps := ps) line.length 0 0
  have hlen := partsF_len (line := line) (ps := ps) line.length 0 0
  (try dsimp only); rw [wSs_cons]; simp (maxSteps := 4000000) only [wS, wE, wA, wG, wGs, wT, wTall, wTany, wTs, wO, wAnd, wOr, binW, cmpW, eqW, ixW, slW, biW, intW, lenW, tupleW, listW, meW, truW, augW, itW, List.getElem?_cons_zero, List.getElem?_cons_succ, List.set_cons_zero, List.set_cons_succ, md, true_and, keyD, Option.some.injEq, exists_and_left, exists_eq_left', exists_eq_left, decide_true, decide_false, Bool.and_true, Bool.true_and, Bool.not_true, Bool.not_false, atI_0, atI_1, atI_2, atI_3, wipeD, Tg.slots, slotsL, List.cons_append, List.nil_append, ↓reduceIte, if_true, if_false, Bool.false_eq_true]
  refine ⟨sz (by simp), ?_⟩
  (try dsimp only); rw [wSs_cons]; simp (maxSteps := 4000000) only [wS, wE, wA, wG, wGs, wT, wTall, wTany, wTs, wO, wAnd, wOr, binW, cmpW, eqW, ixW, slW, biW, intW, lenW, tupleW, listW, meW, truW, augW, itW, List.getElem?_cons_zero, List.getElem?_cons_succ, List.set_cons_zero, List.set_cons_succ, md, true_and, keyD, Option.some.injEq, exists_and_left, exists_eq_left', exists_eq_left, decide_true, decide_false, Bool.and_true, Bool.true_and, Bool.not_true, Bool.not_false, atI_0, atI_1, atI_2, atI_3, wipeD, Tg.slots, slotsL, List.cons_append, List.nil_append, ↓reduceIte, if_true, if_false, Bool.false_eq_true]
  refine c_parts hl hB ?_
  simp (maxSteps := 4000000) only [wS, wE, wA, wG, wGs, wT, wTall, wTany, wTs, wO, wAnd, wOr, binW, cmpW, eqW, ixW, slW, biW, intW, lenW, tupleW, listW, meW, truW, augW, itW, List.getElem?_cons_zero, List.getElem?_cons_succ, List.set_cons_zero, List.set_cons_succ, md, true_and, keyD, Option.some.injEq, exists_and_left, exists_eq_left', exists_eq_left, decide_true, decide_false, Bool.and_true, Bool.true_and, Bool.not_true, Bool.not_false, atI_0, atI_1, atI_2, atI_3, wipeD, Tg.slots, slotsL, List.cons_append, List.nil_append, ↓reduceIte, if_true, if_false, Bool.false_eq_true]
  refine forL_ind (fun ds ρ => ∃ (dn td : List Pt) (s4 : Sl), ds = td.map Pt.d ∧ partsF line ps line.length 0 0 = dn ++ td ∧ ρ = [.sh (.str line), .sh (tS ps), .sh (tS args), .own none (dn.map fun p => .str (pieceF line args p)), s4]) ?_ ?_ _ _ ⟨[], _, .un, rfl, rfl, rfl⟩
  · rintro ρ ⟨dn, td, s4, e1, e2, rfl⟩
    cases td with
    | cons _ _ => cases e1
    | nil =>
      rw [List.append_nil] at e2
      subst e2
      (try dsimp only); rw [wSs_cons]; simp (maxSteps := 4000000) only [wS, wE, wA, wG, wGs, wT, wTall, wTany, wTs, wO, wAnd, wOr, binW, cmpW, eqW, ixW, slW, biW, intW, lenW, tupleW, listW, meW, truW, augW, itW, List.getElem?_cons_zero, List.getElem?_cons_succ, List.set_cons_zero, List.set_cons_succ, md, true_and, keyD, Option.some.injEq, exists_and_left, exists_eq_left', exists_eq_left, decide_true, decide_false, Bool.and_true, Bool.true_and, Bool.not_true, Bool.not_false, atI_0, atI_1, atI_2, atI_3, wipeD, Tg.slots, slotsL, List.cons_append, List.nil_append, ↓reduceIte, if_true, if_false, Bool.false_eq_true]
      refine ⟨_, rfl, (partsF line ps line.length 0 0).map (pieceF line args), by rw [List.map_map]; rfl, ?_, nofun, ?_⟩
      · have := pieces_sum (args := args) hl hA hok hlen
        have e0 : (Str.ofString "").length = 0 := by decide
        rw [e0]; omega
      · rw [join_cat]; exact q
  · rintro d ds ρ ⟨dn, td, s4, e1, e2, rfl⟩ N hN
    cases td with
    | nil => cases e1
    | cons p td =>
      rw [List.map_cons] at e1
      injection e1 with e1 e3
      subst e1 e3
      have hp := hok p (by rw [e2]; simp)
      have hdn : dn.length ≤ 2001 := by
        have := congrArg List.length e2
        rw [List.length_append, List.length_cons] at this
        omega
      have nx : N [.sh (.str line), .sh (tS ps), .sh (tS args), .own none (dn.map (fun p => .str (pieceF line args p)) ++ [.str (pieceF line args p)]), .sh p.d] := hN _ ⟨dn ++ [p], td, _, rfl, by rw [e2, List.append_assoc]; rfl, by rw [List.map_append]; rfl⟩
      cases p with
      | text b a =>
        simp (maxSteps := 4000000) only [wS, wE, wA, wG, wGs, wT, wTall, wTany, wTs, wO, wAnd, wOr, binW, cmpW, eqW, ixW, slW, biW, intW, lenW, tupleW, listW, meW, truW, augW, itW, List.getElem?_cons_zero, List.getElem?_cons_succ, List.set_cons_zero, List.set_cons_succ, md, true_and, keyD, Option.some.injEq, exists_and_left, exists_eq_left', exists_eq_left, decide_true, decide_false, Bool.and_true, Bool.true_and, Bool.not_true, Bool.not_false, atI_0, atI_1, atI_2, atI_3, wipeD, Tg.slots, slotsL, List.cons_append, List.nil_append, ↓reduceIte, if_true, if_false, Bool.false_eq_true, Pt.d]
        (try dsimp only); rw [wSs_cons]; simp (maxSteps := 4000000) only [wS, wE, wA, wG, wGs, wT, wTall, wTany, wTs, wO, wAnd, wOr, binW, cmpW, eqW, ixW, slW, biW, intW, lenW, tupleW, listW, meW, truW, augW, itW, List.getElem?_cons_zero, List.getElem?_cons_succ, List.set_cons_zero, List.set_cons_succ, md, true_and, keyD, Option.some.injEq, exists_and_left, exists_eq_left', exists_eq_left, decide_true, decide_false, Bool.and_true, Bool.true_and, Bool.not_true, Bool.not_false, atI_0, atI_1, atI_2, atI_3, wipeD, Tg.slots, slotsL, List.cons_append, List.nil_append, ↓reduceIte, if_true, if_false, Bool.false_eq_true, tsl]
        (try dsimp only); rw [wSs_cons]; simp (maxSteps := 4000000) only [wS, wE, wA, wG, wGs, wT, wTall, wTany, wTs, wO, wAnd, wOr, binW, cmpW, eqW, ixW, slW, biW, intW, lenW, tupleW, listW, meW, truW, augW, itW, List.getElem?_cons_zero, List.getElem?_cons_succ, List.set_cons_zero, List.set_cons_succ, md, true_and, keyD, Option.some.injEq, exists_and_left, exists_eq_left', exists_eq_left, decide_true, decide_false, Bool.and_true, Bool.true_and, Bool.not_true, Bool.not_false, atI_0, atI_1, atI_2, atI_3, wipeD, Tg.slots, slotsL, List.cons_append, List.nil_append, ↓reduceIte, if_true, if_false, Bool.false_eq_true]
        refine ⟨sz (by omega), sz' (by rw [List.length_map]; omega), ?_⟩
        (try dsimp only); rw [wSs_nil]; dsimp only
        (try dsimp only); rw [wSs_nil]; dsimp only
        exact nx
      | slot a e k =>
        simp (maxSteps := 4000000) only [wS, wE, wA, wG, wGs, wT, wTall, wTany, wTs, wO, wAnd, wOr, binW, cmpW, eqW, ixW, slW, biW, intW, lenW, tupleW, listW, meW, truW, augW, itW, List.getElem?_cons_zero, List.getElem?_cons_succ, List.set_cons_zero, List.set_cons_succ, md, true_and, keyD, Option.some.injEq, exists_and_left, exists_eq_left', exists_eq_left, decide_true, decide_false, Bool.and_true, Bool.true_and, Bool.not_true, Bool.not_false, atI_0, atI_1, atI_2, atI_3, wipeD, Tg.slots, slotsL, List.cons_append, List.nil_append, ↓reduceIte, if_true, if_false, Bool.false_eq_true, Pt.d]
        have hk : k < args.length := by rw [hn]; exact hp
        have hz : args[k]? = some args[k] := List.getElem?_eq_getElem hk
        (try dsimp only); rw [wSs_cons]; simp (maxSteps := 4000000) only [wS, wE, wA, wG, wGs, wT, wTall, wTany, wTs, wO, wAnd, wOr, binW, cmpW, eqW, ixW, slW, biW, intW, lenW, tupleW, listW, meW, truW, augW, itW, List.getElem?_cons_zero, List.getElem?_cons_succ, List.set_cons_zero, List.set_cons_succ, md, true_and, keyD, Option.some.injEq, exists_and_left, exists_eq_left', exists_eq_left, decide_true, decide_false, Bool.and_true, Bool.true_and, Bool.not_true, Bool.not_false, atI_0, atI_1, atI_2, atI_3, wipeD, Tg.slots, slotsL, List.cons_append, List.nil_append, ↓reduceIte, if_true, if_false, Bool.false_eq_true]
        (try dsimp only); rw [wSs_cons]; simp (maxSteps := 4000000) only [wS, wE, wA, wG, wGs, wT, wTall, wTany, wTs, wO, wAnd, wOr, binW, cmpW, eqW, ixW, slW, biW, intW, lenW, tupleW, listW, meW, truW, augW, itW, List.getElem?_cons_zero, List.getElem?_cons_succ, List.set_cons_zero, List.set_cons_succ, md, true_and, keyD, Option.some.injEq, exists_and_left, exists_eq_left', exists_eq_left, decide_true, decide_false, Bool.and_true, Bool.true_and, Bool.not_true, Bool.not_false, atI_0, atI_1, atI_2, atI_3, wipeD, Tg.slots, slotsL, List.cons_append, List.nil_append, ↓reduceIte, if_true, if_false, Bool.false_eq_true, atI_str hz]
        refine ⟨sz' (by rw [List.length_map]; omega), ?_⟩
        (try dsimp only); rw [wSs_nil]; dsimp only
        (try dsimp only); rw [wSs_nil]; dsimp only
        have e9 : pieceF line args (.slot a e k) = args[k] := by
          show args.getD k Str.empty = _
          rw [List.getD_eq_getElem?_getD, hz]; rfl
        rw [e9] at nx
        exact nx
theorem w_due {ds : List D} (h : sFill ds Q QE) : wSs (Γ P w) E b_law_due (zz Q) (ent0 c_law_due.N ds) := by
  obtain ⟨line, ps, args, rfl, hl, hB, hA, hn, q⟩ := h
  show wSs (Γ P w) E b_law_due _ [.sh (.str line), .sh (tS ps), .sh (tS args), .un, .un]
  unfold b_law_due
  have hok := partsF_ok (line := line) (ps := ps) line.length 0 0
  have hlen := partsF_len (line := line) (ps := ps) line.length 0 0
  (try dsimp only); rw [wSs_cons]; simp (maxSteps := 4000000) only [wS, wE, wA, wG, wGs, wT, wTall, wTany, wTs, wO, wAnd, wOr, binW, cmpW, eqW, ixW, slW, biW, intW, lenW, tupleW, listW, meW, truW, augW, itW, List.getElem?_cons_zero, List.getElem?_cons_succ, List.set_cons_zero, List.set_cons_succ, md, true_and, keyD, Option.some.injEq, exists_and_left, exists_eq_left', exists_eq_left, decide_true, decide_false, Bool.and_true, Bool.true_and, Bool.not_true, Bool.not_false, atI_0, atI_1, atI_2, atI_3, wipeD, Tg.slots, slotsL, List.cons_append, List.nil_append, ↓reduceIte, if_true, if_false, Bool.false_eq_true]
  (try dsimp only); rw [wSs_cons]; simp (maxSteps := 4000000) only [wS, wE, wA, wG, wGs, wT, wTall, wTany, wTs, wO, wAnd, wOr, binW, cmpW, eqW, ixW, slW, biW, intW, lenW, tupleW, listW, meW, truW, augW, itW, List.getElem?_cons_zero, List.getElem?_cons_succ, List.set_cons_zero, List.set_cons_succ, md, true_and, keyD, Option.some.injEq, exists_and_left, exists_eq_left', exists_eq_left, decide_true, decide_false, Bool.and_true, Bool.true_and, Bool.not_true, Bool.not_false, atI_0, atI_1, atI_2, atI_3, wipeD, Tg.slots, slotsL, List.cons_append, List.nil_append, ↓reduceIte, if_true, if_false, Bool.false_eq_true]
  refine c_parts2 hl hB ?_
  simp (maxSteps := 4000000) only [wS, wE, wA, wG, wGs, wT, wTall, wTany, wTs, wO, wAnd, wOr, binW, cmpW, eqW, ixW, slW, biW, intW, lenW, tupleW, listW, meW, truW, augW, itW, List.getElem?_cons_zero, List.getElem?_cons_succ, List.set_cons_zero, List.set_cons_succ, md, true_and, keyD, Option.some.injEq, exists_and_left, exists_eq_left', exists_eq_left, decide_true, decide_false, Bool.and_true, Bool.true_and, Bool.not_true, Bool.not_false, atI_0, atI_1, atI_2, atI_3, wipeD, Tg.slots, slotsL, List.cons_append, List.nil_append, ↓reduceIte, if_true, if_false, Bool.false_eq_true]
  have e0 : Str.ofString "" = catF [] := by decide
  refine forL_ind (fun ds ρ => ∃ (dn td : List Pt) (s4 : Sl), ds = td.map Pt.d ∧ partsF line ps line.length 0 0 = dn ++ td ∧ ρ = [.sh (.str line), .sh (tS ps), .sh (tS args), .sh (.str (catF (dn.map (pieceF line args)))), s4]) ?_ ?_ _ _ ⟨[], _, .un, rfl, rfl, by rw [e0]; rfl⟩
  · rintro ρ ⟨dn, td, s4, e1, e2, rfl⟩
    cases td with
    | cons _ _ => cases e1
    | nil =>
      rw [List.append_nil] at e2
      subst e2
      (try dsimp only); rw [wSs_cons]; simp (maxSteps := 4000000) only [wS, wE, wA, wG, wGs, wT, wTall, wTany, wTs, wO, wAnd, wOr, binW, cmpW, eqW, ixW, slW, biW, intW, lenW, tupleW, listW, meW, truW, augW, itW, List.getElem?_cons_zero, List.getElem?_cons_succ, List.set_cons_zero, List.set_cons_succ, md, true_and, keyD, Option.some.injEq, exists_and_left, exists_eq_left', exists_eq_left, decide_true, decide_false, Bool.and_true, Bool.true_and, Bool.not_true, Bool.not_false, atI_0, atI_1, atI_2, atI_3, wipeD, Tg.slots, slotsL, List.cons_append, List.nil_append, ↓reduceIte, if_true, if_false, Bool.false_eq_true]
      exact ⟨nofun, q⟩
  · rintro d ds ρ ⟨dn, td, s4, e1, e2, rfl⟩ N hN
    cases td with
    | nil => cases e1
    | cons p td =>
      rw [List.map_cons] at e1
      injection e1 with e1 e3
      subst e1 e3
      have hp := hok p (by rw [e2]; simp)
      have hdn : dn.length ≤ 2 * line.length + 1 := by
        have := congrArg List.length e2
        rw [List.length_append, List.length_cons] at this
        omega
      have hsz : (catF (dn.map (pieceF line args))).length + (pieceF line args p).length ≤ sizeLine := by
        have h1 := pieces_sum (args := args) hl hA (l := dn) (fun x hx => hok x (by rw [e2]; simp [hx])) hdn
        have h2 := piece_len (ps := ps) hl hA hp
        have h3 : (catF (dn.map (pieceF line args))).length = _ := cat_len (dn.map (pieceF line args)) Str.empty
        have h4 : Str.empty.length = 0 := by decide
        rw [h3, h4, sizeLine_eq]; omega
      have nx : N [.sh (.str line), .sh (tS ps), .sh (tS args), .sh (.str (catF (dn.map (pieceF line args)) ++ pieceF line args p)), .sh p.d] := hN _ ⟨dn ++ [p], td, _, rfl, by rw [e2, List.append_assoc]; rfl, by
        rw [List.map_append]
        unfold catF
        rw [List.foldl_append]; rfl⟩
      cases p with
      | text b a =>
        simp (maxSteps := 4000000) only [wS, wE, wA, wG, wGs, wT, wTall, wTany, wTs, wO, wAnd, wOr, binW, cmpW, eqW, ixW, slW, biW, intW, lenW, tupleW, listW, meW, truW, augW, itW, List.getElem?_cons_zero, List.getElem?_cons_succ, List.set_cons_zero, List.set_cons_succ, md, true_and, keyD, Option.some.injEq, exists_and_left, exists_eq_left', exists_eq_left, decide_true, decide_false, Bool.and_true, Bool.true_and, Bool.not_true, Bool.not_false, atI_0, atI_1, atI_2, atI_3, wipeD, Tg.slots, slotsL, List.cons_append, List.nil_append, ↓reduceIte, if_true, if_false, Bool.false_eq_true, Pt.d]
        (try dsimp only); rw [wSs_cons]; simp (maxSteps := 4000000) only [wS, wE, wA, wG, wGs, wT, wTall, wTany, wTs, wO, wAnd, wOr, binW, cmpW, eqW, ixW, slW, biW, intW, lenW, tupleW, listW, meW, truW, augW, itW, List.getElem?_cons_zero, List.getElem?_cons_succ, List.set_cons_zero, List.set_cons_succ, md, true_and, keyD, Option.some.injEq, exists_and_left, exists_eq_left', exists_eq_left, decide_true, decide_false, Bool.and_true, Bool.true_and, Bool.not_true, Bool.not_false, atI_0, atI_1, atI_2, atI_3, wipeD, Tg.slots, slotsL, List.cons_append, List.nil_append, ↓reduceIte, if_true, if_false, Bool.false_eq_true, tsl]
        (try dsimp only); rw [wSs_cons]; simp (maxSteps := 4000000) only [wS, wE, wA, wG, wGs, wT, wTall, wTany, wTs, wO, wAnd, wOr, binW, cmpW, eqW, ixW, slW, biW, intW, lenW, tupleW, listW, meW, truW, augW, itW, List.getElem?_cons_zero, List.getElem?_cons_succ, List.set_cons_zero, List.set_cons_succ, md, true_and, keyD, Option.some.injEq, exists_and_left, exists_eq_left', exists_eq_left, decide_true, decide_false, Bool.and_true, Bool.true_and, Bool.not_true, Bool.not_false, atI_0, atI_1, atI_2, atI_3, wipeD, Tg.slots, slotsL, List.cons_append, List.nil_append, ↓reduceIte, if_true, if_false, Bool.false_eq_true]
        refine ⟨sz (by omega), hsz, ?_⟩
        (try dsimp only); rw [wSs_nil]; dsimp only
        (try dsimp only); rw [wSs_nil]; dsimp only
        exact nx
      | slot a e k =>
        simp (maxSteps := 4000000) only [wS, wE, wA, wG, wGs, wT, wTall, wTany, wTs, wO, wAnd, wOr, binW, cmpW, eqW, ixW, slW, biW, intW, lenW, tupleW, listW, meW, truW, augW, itW, List.getElem?_cons_zero, List.getElem?_cons_succ, List.set_cons_zero, List.set_cons_succ, md, true_and, keyD, Option.some.injEq, exists_and_left, exists_eq_left', exists_eq_left, decide_true, decide_false, Bool.and_true, Bool.true_and, Bool.not_true, Bool.not_false, atI_0, atI_1, atI_2, atI_3, wipeD, Tg.slots, slotsL, List.cons_append, List.nil_append, ↓reduceIte, if_true, if_false, Bool.false_eq_true, Pt.d]
        have hk : k < args.length := by rw [hn]; exact hp
        have hz : args[k]? = some args[k] := List.getElem?_eq_getElem hk
        have e9 : pieceF line args (.slot a e k) = args[k] := by
          show args.getD k Str.empty = _
          rw [List.getD_eq_getElem?_getD, hz]; rfl
        rw [e9] at nx hsz
        (try dsimp only); rw [wSs_cons]; simp (maxSteps := 4000000) only [wS, wE, wA, wG, wGs, wT, wTall, wTany, wTs, wO, wAnd, wOr, binW, cmpW, eqW, ixW, slW, biW, intW, lenW, tupleW, listW, meW, truW, augW, itW, List.getElem?_cons_zero, List.getElem?_cons_succ, List.set_cons_zero, List.set_cons_succ, md, true_and, keyD, Option.some.injEq, exists_and_left, exists_eq_left', exists_eq_left, decide_true, decide_false, Bool.and_true, Bool.true_and, Bool.not_true, Bool.not_false, atI_0, atI_1, atI_2, atI_3, wipeD, Tg.slots, slotsL, List.cons_append, List.nil_append, ↓reduceIte, if_true, if_false, Bool.false_eq_true]
        (try dsimp only); rw [wSs_cons]; simp (maxSteps := 4000000) only [wS, wE, wA, wG, wGs, wT, wTall, wTany, wTs, wO, wAnd, wOr, binW, cmpW, eqW, ixW, slW, biW, intW, lenW, tupleW, listW, meW, truW, augW, itW, List.getElem?_cons_zero, List.getElem?_cons_succ, List.set_cons_zero, List.set_cons_succ, md, true_and, keyD, Option.some.injEq, exists_and_left, exists_eq_left', exists_eq_left, decide_true, decide_false, Bool.and_true, Bool.true_and, Bool.not_true, Bool.not_false, atI_0, atI_1, atI_2, atI_3, wipeD, Tg.slots, slotsL, List.cons_append, List.nil_append, ↓reduceIte, if_true, if_false, Bool.false_eq_true, atI_str hz]
        refine ⟨hsz, ?_⟩
        (try dsimp only); rw [wSs_nil]; dsimp only
        (try dsimp only); rw [wSs_nil]; dsimp only
        exact nx
end
end DL.K09
namespace DL.K09
open PySem PySem.Spec PyProof.Rows L2 DL
section
variable {P : Program} {w : World} {Q : D → Prop} {QE : DX → Prop} {E : DX → DEnv → Prop}
theorem t1 : (["tuple"].any (subTy "str")) = false := by decide
theorem t2 : (["tuple"].any (subTy "int")) = false := by decide
theorem t3 : (["tuple"].any (subTy "tuple")) = true := by decide
theorem t4 : (["str"].any (subTy "str")) = true := by decide
theorem t5 : (["str"].any (subTy "int")) = false := by decide
theorem t6 : (["int"].any (subTy "int")) = true := by decide
theorem t7 : (["bool"].any (subTy "int")) = false := by decide
/-- a text or an int, at any depth -/
theorem same_flat {G : Nat → FSp} {d : D} {s2 : Sl} {b : Sxs} (hd : dep 0 d) (q : Q (.bl true)) :
    wSs G E (.cons (.ife (.tr (.isT ["tuple"] (.v 1))) b .nil) (.cons (.ife (.cmp .is (.v 1) .non) (.cons (.ret (.cmp .is (.v 0) .non)) .nil) .nil) (.cons (.ife (.tr (.isT ["str"] (.v 1))) (.cons (.ret (.and (.isT ["str"] (.v 0)) (.cons (.cmp .eq (.v 0) (.v 1)) .nil))) .nil) .nil)
      (.cons (.ret (.and (.isT ["int"] (.v 0)) (.cons (.not (.isT ["bool"] (.v 0))) (.cons (.cmp .eq (.v 0) (.v 1)) .nil)))) .nil)))) (zz Q) [.sh d, .sh d, s2] := by
  cases d with
  | str x =>
    (try dsimp only); rw [wSs_cons]; simp (maxSteps := 4000000) only [wS, wE, wA, wG, wGs, wT, wTall, wTany, wTs, wO, wAnd, wOr, binW, cmpW, eqW, ixW, slW, biW, intW, lenW, tupleW, listW, meW, truW, augW, itW, List.getElem?_cons_zero, List.getElem?_cons_succ, List.set_cons_zero, List.set_cons_succ, md, true_and, keyD, Option.some.injEq, exists_and_left, exists_eq_left', exists_eq_left, decide_true, decide_false, Bool.and_true, Bool.true_and, Bool.not_true, Bool.not_false, atI_0, atI_1, atI_2, atI_3, wipeD, Tg.slots, slotsL, List.cons_append, List.nil_append, ↓reduceIte, if_true, if_false, Bool.false_eq_true, tyD, t1, t2, t3, t4, t5, t6, t7]
    (try dsimp only); rw [wSs_nil]; dsimp only
    (try dsimp only); rw [wSs_cons]; simp (maxSteps := 4000000) only [wS, wE, wA, wG, wGs, wT, wTall, wTany, wTs, wO, wAnd, wOr, binW, cmpW, eqW, ixW, slW, biW, intW, lenW, tupleW, listW, meW, truW, augW, itW, List.getElem?_cons_zero, List.getElem?_cons_succ, List.set_cons_zero, List.set_cons_succ, md, true_and, keyD, Option.some.injEq, exists_and_left, exists_eq_left', exists_eq_left, decide_true, decide_false, Bool.and_true, Bool.true_and, Bool.not_true, Bool.not_false, atI_0, atI_1, atI_2, atI_3, wipeD, Tg.slots, slotsL, List.cons_append, List.nil_append, ↓reduceIte, if_true, if_false, Bool.false_eq_true]
    (try dsimp only); rw [wSs_nil]; dsimp only
    (try dsimp only); rw [wSs_cons]; simp (maxSteps := 4000000) only [wS, wE, wA, wG, wGs, wT, wTall, wTany, wTs, wO, wAnd, wOr, binW, cmpW, eqW, ixW, slW, biW, intW, lenW, tupleW, listW, meW, truW, augW, itW, List.getElem?_cons_zero, List.getElem?_cons_succ, List.set_cons_zero, List.set_cons_succ, md, true_and, keyD, Option.some.injEq, exists_and_left, exists_eq_left', exists_eq_left, decide_true, decide_false, Bool.and_true, Bool.true_and, Bool.not_true, Bool.not_false, atI_0, atI_1, atI_2, atI_3, wipeD, Tg.slots, slotsL, List.cons_append, List.nil_append, ↓reduceIte, if_true, if_false, Bool.false_eq_true, tyD, t1, t2, t3, t4, t5, t6, t7]
    (try dsimp only); rw [wSs_cons]; simp (maxSteps := 4000000) only [wS, wE, wA, wG, wGs, wT, wTall, wTany, wTs, wO, wAnd, wOr, binW, cmpW, eqW, ixW, slW, biW, intW, lenW, tupleW, listW, meW, truW, augW, itW, List.getElem?_cons_zero, List.getElem?_cons_succ, List.set_cons_zero, List.set_cons_succ, md, true_and, keyD, Option.some.injEq, exists_and_left, exists_eq_left', exists_eq_left, decide_true, decide_false, Bool.and_true, Bool.true_and, Bool.not_true, Bool.not_false, atI_0, atI_1, atI_2, atI_3, wipeD, Tg.slots, slotsL, List.cons_append, List.nil_append, ↓reduceIte, if_true, if_false, Bool.false_eq_true, tyD, t1, t2, t3, t4, t5, t6, t7]
    exact ⟨nofun, q⟩
  | int x =>
    (try dsimp only); rw [wSs_cons]; simp (maxSteps := 4000000) only [wS, wE, wA, wG, wGs, wT, wTall, wTany, wTs, wO, wAnd, wOr, binW, cmpW, eqW, ixW, slW, biW, intW, lenW, tupleW, listW, meW, truW, augW, itW, List.getElem?_cons_zero, List.getElem?_cons_succ, List.set_cons_zero, List.set_cons_succ, md, true_and, keyD, Option.some.injEq, exists_and_left, exists_eq_left', exists_eq_left, decide_true, decide_false, Bool.and_true, Bool.true_and, Bool.not_true, Bool.not_false, atI_0, atI_1, atI_2, atI_3, wipeD, Tg.slots, slotsL, List.cons_append, List.nil_append, ↓reduceIte, if_true, if_false, Bool.false_eq_true, tyD, t1, t2, t3, t4, t5, t6, t7]
    (try dsimp only); rw [wSs_nil]; dsimp only
    (try dsimp only); rw [wSs_cons]; simp (maxSteps := 4000000) only [wS, wE, wA, wG, wGs, wT, wTall, wTany, wTs, wO, wAnd, wOr, binW, cmpW, eqW, ixW, slW, biW, intW, lenW, tupleW, listW, meW, truW, augW, itW, List.getElem?_cons_zero, List.getElem?_cons_succ, List.set_cons_zero, List.set_cons_succ, md, true_and, keyD, Option.some.injEq, exists_and_left, exists_eq_left', exists_eq_left, decide_true, decide_false, Bool.and_true, Bool.true_and, Bool.not_true, Bool.not_false, atI_0, atI_1, atI_2, atI_3, wipeD, Tg.slots, slotsL, List.cons_append, List.nil_append, ↓reduceIte, if_true, if_false, Bool.false_eq_true]
    (try dsimp only); rw [wSs_nil]; dsimp only
    (try dsimp only); rw [wSs_cons]; simp (maxSteps := 4000000) only [wS, wE, wA, wG, wGs, wT, wTall, wTany, wTs, wO, wAnd, wOr, binW, cmpW, eqW, ixW, slW, biW, intW, lenW, tupleW, listW, meW, truW, augW, itW, List.getElem?_cons_zero, List.getElem?_cons_succ, List.set_cons_zero, List.set_cons_succ, md, true_and, keyD, Option.some.injEq, exists_and_left, exists_eq_left', exists_eq_left, decide_true, decide_false, Bool.and_true, Bool.true_and, Bool.not_true, Bool.not_false, atI_0, atI_1, atI_2, atI_3, wipeD, Tg.slots, slotsL, List.cons_append, List.nil_append, ↓reduceIte, if_true, if_false, Bool.false_eq_true, tyD, t1, t2, t3, t4, t5, t6, t7]
    (try dsimp only); rw [wSs_nil]; dsimp only
    (try dsimp only); rw [wSs_cons]; simp (maxSteps := 4000000) only [wS, wE, wA, wG, wGs, wT, wTall, wTany, wTs, wO, wAnd, wOr, binW, cmpW, eqW, ixW, slW, biW, intW, lenW, tupleW, listW, meW, truW, augW, itW, List.getElem?_cons_zero, List.getElem?_cons_succ, List.set_cons_zero, List.set_cons_succ, md, true_and, keyD, Option.some.injEq, exists_and_left, exists_eq_left', exists_eq_left, decide_true, decide_false, Bool.and_true, Bool.true_and, Bool.not_true, Bool.not_false, atI_0, atI_1, atI_2, atI_3, wipeD, Tg.slots, slotsL, List.cons_append, List.nil_append, ↓reduceIte, if_true, if_false, Bool.false_eq_true, tyD, t1, t2, t3, t4, t5, t6, t7]
    exact ⟨nofun, q⟩
  | _ => exact (show False from hd).elim
theorem dep_flat {r : Nat} {d : D} (h : dep r d) (n : ∀ l, d ≠ .tup l) : dep 0 d := by
  cases r with
  | zero => exact h
  | succ r => cases d <;> first | exact h | exact (n _ rfl).elim
theorem w_same0 {ds : List D} (h : sSame 0 ds Q QE) : wSs (Γ P w) E b_law_same0 (zz Q) (ent0 c_law_same0.N ds) := by
  obtain ⟨d, rfl, hd, q⟩ := h
  exact same_flat hd q
theorem dep_le {r : Nat} {l : List D} (h : dep (r + 1) (.tup l)) : l.length ≤ 10000 ∧ ∀ x ∈ l, dep r x := h
theorem w_same_tup {G : Nat → FSp} {r g : Nat} (hG : ∀ d Q QE, dep r d → Q (.bl true) → G g [d, d] Q QE) {l : List D} {s2 : Sl} {rst : Sxs} (h : dep (r + 1) (.tup l)) (q : Q (.bl true)) :
    wSs G E (.cons (.ife (.tr (.isT ["tuple"] (.v 1))) (.cons (.ife (.or (.not (.tr (.isT ["tuple"] (.v 0)))) (.cons (.cmp .ne (.bi .len (.cons (.v 0) .nil)) (.bi .len (.cons (.v 1) .nil))) .nil)) (.cons (.ret (.bl false))
  .nil) .nil)
  (.cons (.for_ (.nm 2) .rng1 (.cons (.bi .len (.cons (.v 1) .nil)) .nil) (.cons (.ife (.not (.tr (.call g (.cons (.ix (.v 0) (.v 2)) (.cons (.ix (.v 1) (.v 2)) .nil))))) (.cons (.ret (.bl false))
  .nil) .nil)
  .nil))
  (.cons (.ret (.bl true))
  .nil))) .nil) rst) (zz Q) [.sh (.tup l), .sh (.tup l), s2] := by
  obtain ⟨hl, hx⟩ := dep_le h
  (try dsimp only); rw [wSs_cons]; simp (maxSteps := 4000000) only [wS, wE, wA, wG, wGs, wT, wTall, wTany, wTs, wO, wAnd, wOr, binW, cmpW, eqW, ixW, slW, biW, intW, lenW, tupleW, listW, meW, truW, augW, itW, List.getElem?_cons_zero, List.getElem?_cons_succ, List.set_cons_zero, List.set_cons_succ, md, true_and, keyD, Option.some.injEq, exists_and_left, exists_eq_left', exists_eq_left, decide_true, decide_false, Bool.and_true, Bool.true_and, Bool.not_true, Bool.not_false, atI_0, atI_1, atI_2, atI_3, wipeD, Tg.slots, slotsL, List.cons_append, List.nil_append, ↓reduceIte, if_true, if_false, Bool.false_eq_true, tyD, t1, t2, t3, t4, t5, t6, t7]
  (try dsimp only); rw [wSs_cons]; simp (maxSteps := 4000000) only [wS, wE, wA, wG, wGs, wT, wTall, wTany, wTs, wO, wAnd, wOr, binW, cmpW, eqW, ixW, slW, biW, intW, lenW, tupleW, listW, meW, truW, augW, itW, List.getElem?_cons_zero, List.getElem?_cons_succ, List.set_cons_zero, List.set_cons_succ, md, true_and, keyD, Option.some.injEq, exists_and_left, exists_eq_left', exists_eq_left, decide_true, decide_false, Bool.and_true, Bool.true_and, Bool.not_true, Bool.not_false, atI_0, atI_1, atI_2, atI_3, wipeD, Tg.slots, slotsL, List.cons_append, List.nil_append, ↓reduceIte, if_true, if_false, Bool.false_eq_true, tyD, t1, t2, t3, t4, t5, t6, t7]
  (try dsimp only); rw [wSs_nil]; dsimp only
  (try dsimp only); rw [wSs_cons]; simp (maxSteps := 4000000) only [wS, wE, wA, wG, wGs, wT, wTall, wTany, wTs, wO, wAnd, wOr, binW, cmpW, eqW, ixW, slW, biW, intW, lenW, tupleW, listW, meW, truW, augW, itW, List.getElem?_cons_zero, List.getElem?_cons_succ, List.set_cons_zero, List.set_cons_succ, md, true_and, keyD, Option.some.injEq, exists_and_left, exists_eq_left', exists_eq_left, decide_true, decide_false, Bool.and_true, Bool.true_and, Bool.not_true, Bool.not_false, atI_0, atI_1, atI_2, atI_3, wipeD, Tg.slots, slotsL, List.cons_append, List.nil_append, ↓reduceIte, if_true, if_false, Bool.false_eq_true]
  refine ⟨(small62 (by omega)).1, (small62 (by omega)).2, ?_⟩
  rw [Int.toNat_natCast, List.range_eq_range']
  refine forL_ind (fun ds ρ => ∃ (k n : Nat) (s2 : Sl), ds = (List.range' k n).map (fun i => .int (i : Int)) ∧ k + n = l.length ∧ ρ = [.sh (.tup l), .sh (.tup l), s2]) ?_ ?_ _ _ ⟨0, l.length, s2, rfl, by omega, rfl⟩
  · rintro ρ ⟨k, n, s2, _, _, rfl⟩
    (try dsimp only); rw [wSs_cons]; simp (maxSteps := 4000000) only [wS, wE, wA, wG, wGs, wT, wTall, wTany, wTs, wO, wAnd, wOr, binW, cmpW, eqW, ixW, slW, biW, intW, lenW, tupleW, listW, meW, truW, augW, itW, List.getElem?_cons_zero, List.getElem?_cons_succ, List.set_cons_zero, List.set_cons_succ, md, true_and, keyD, Option.some.injEq, exists_and_left, exists_eq_left', exists_eq_left, decide_true, decide_false, Bool.and_true, Bool.true_and, Bool.not_true, Bool.not_false, atI_0, atI_1, atI_2, atI_3, wipeD, Tg.slots, slotsL, List.cons_append, List.nil_append, ↓reduceIte, if_true, if_false, Bool.false_eq_true]
    exact ⟨nofun, q⟩
  · rintro d ds ρ ⟨k, n, s2, e1, e2, rfl⟩ N hN
    cases n with
    | zero => cases e1
    | succ n =>
      rw [List.range'_succ, List.map_cons] at e1
      injection e1 with e1 e3
      subst e1 e3
      have hk : k < l.length := by omega
      have hz : atI l (k : Int) = some l[k] := atI_nat (List.getElem?_eq_getElem hk)
      simp (maxSteps := 4000000) only [wS, wE, wA, wG, wGs, wT, wTall, wTany, wTs, wO, wAnd, wOr, binW, cmpW, eqW, ixW, slW, biW, intW, lenW, tupleW, listW, meW, truW, augW, itW, List.getElem?_cons_zero, List.getElem?_cons_succ, List.set_cons_zero, List.set_cons_succ, md, true_and, keyD, Option.some.injEq, exists_and_left, exists_eq_left', exists_eq_left, decide_true, decide_false, Bool.and_true, Bool.true_and, Bool.not_true, Bool.not_false, atI_0, atI_1, atI_2, atI_3, wipeD, Tg.slots, slotsL, List.cons_append, List.nil_append, ↓reduceIte, if_true, if_false, Bool.false_eq_true]
      (try dsimp only); rw [wSs_cons]; simp (maxSteps := 4000000) only [wS, wE, wA, wG, wGs, wT, wTall, wTany, wTs, wO, wAnd, wOr, binW, cmpW, eqW, ixW, slW, biW, intW, lenW, tupleW, listW, meW, truW, augW, itW, List.getElem?_cons_zero, List.getElem?_cons_succ, List.set_cons_zero, List.set_cons_succ, md, true_and, keyD, Option.some.injEq, exists_and_left, exists_eq_left', exists_eq_left, decide_true, decide_false, Bool.and_true, Bool.true_and, Bool.not_true, Bool.not_false, atI_0, atI_1, atI_2, atI_3, wipeD, Tg.slots, slotsL, List.cons_append, List.nil_append, ↓reduceIte, if_true, if_false, Bool.false_eq_true, hz]
      refine hG _ _ _ (hx _ (List.getElem_mem hk)) ?_
      simp (maxSteps := 4000000) only [wS, wE, wA, wG, wGs, wT, wTall, wTany, wTs, wO, wAnd, wOr, binW, cmpW, eqW, ixW, slW, biW, intW, lenW, tupleW, listW, meW, truW, augW, itW, List.getElem?_cons_zero, List.getElem?_cons_succ, List.set_cons_zero, List.set_cons_succ, md, true_and, keyD, Option.some.injEq, exists_and_left, exists_eq_left', exists_eq_left, decide_true, decide_false, Bool.and_true, Bool.true_and, Bool.not_true, Bool.not_false, atI_0, atI_1, atI_2, atI_3, wipeD, Tg.slots, slotsL, List.cons_append, List.nil_append, ↓reduceIte, if_true, if_false, Bool.false_eq_true]
      (try dsimp only); rw [wSs_nil]; dsimp only
      exact hN _ ⟨k + 1, n, _, rfl, by omega, rfl⟩
theorem c_same0 {d : D} {Q : D → Prop} {QE : DX → Prop} (h : dep 0 d) (q : Q (.bl true)) : Γ P w 12 [d, d] Q QE := ⟨d, rfl, h, q⟩
theorem c_same1 {d : D} {Q : D → Prop} {QE : DX → Prop} (h : dep 1 d) (q : Q (.bl true)) : Γ P w 13 [d, d] Q QE := ⟨d, rfl, h, q⟩
theorem c_same2 {d : D} {Q : D → Prop} {QE : DX → Prop} (h : dep 2 d) (q : Q (.bl true)) : Γ P w 14 [d, d] Q QE := ⟨d, rfl, h, q⟩
theorem w_same1 {ds : List D} (h : sSame 1 ds Q QE) : wSs (Γ P w) E b_law_same1 (zz Q) (ent0 c_law_same1.N ds) := by
  obtain ⟨d, rfl, hd, q⟩ := h
  cases d with
  | tup l => exact w_same_tup (fun d Q QE h q => c_same0 h q) hd q
  | _ => exact same_flat (dep_flat hd nofun) q
theorem w_same2 {ds : List D} (h : sSame 2 ds Q QE) : wSs (Γ P w) E b_law_same2 (zz Q) (ent0 c_law_same2.N ds) := by
  obtain ⟨d, rfl, hd, q⟩ := h
  cases d with
  | tup l => exact w_same_tup (fun d Q QE h q => c_same1 h q) hd q
  | _ => exact same_flat (dep_flat hd nofun) q
theorem dep_parts {l : List Pt} (h : l.length ≤ 10000) : dep 2 (.tup (l.map Pt.d)) := by
  refine ⟨by rw [List.length_map]; exact h, fun x hx => ?_⟩
  obtain ⟨p, _, rfl⟩ := List.mem_map.mp hx
  cases p with
  | text b a =>
    refine ⟨by simp, fun y hy => ?_⟩
    rcases List.mem_cons.mp hy with rfl | hy
    · trivial
    rcases List.mem_cons.mp hy with rfl | hy
    · trivial
    rcases List.mem_cons.mp hy with rfl | hy
    · trivial
    · cases hy
  | slot a e k =>
    refine ⟨by simp, fun y hy => ?_⟩
    rcases List.mem_cons.mp hy with rfl | hy
    · trivial
    rcases List.mem_cons.mp hy with rfl | hy
    · trivial
    rcases List.mem_cons.mp hy with rfl | hy
    · trivial
    rcases List.mem_cons.mp hy with rfl | hy
    · trivial
    · cases hy
/-! ### drawn -/
theorem c_take {n : Int} {Q : D → Prop} {QE : DX → Prop} (hn : big n) (q : ∀ r : Nat, (r : Int) < n → Q (.int (r : Int))) : Γ P w 5 [poolL.d P w, .int n] Q QE := ⟨n, rfl, hn, fun r h0 h1 => by
  have : r = ((r.toNat : Nat) : Int) := by omega
  rw [this] at h1 ⊢
  exact q _ h1⟩
theorem w_signs {ds : List D} (h : sSigns ds Q QE) : wSs (Γ P w) E b_law_signs (zz Q) (ent0 c_law_signs.N ds) := by
  obtain ⟨rfl, q⟩ := h
  show wSs (Γ P w) E b_law_signs _ [.un]
  unfold b_law_signs
  (try dsimp only); rw [wSs_cons]; simp (maxSteps := 4000000) only [wS, wE, wA, wG, wGs, wT, wTall, wTany, wTs, wO, wAnd, wOr, binW, cmpW, eqW, ixW, slW, biW, intW, lenW, tupleW, listW, meW, truW, augW, itW, List.getElem?_cons_zero, List.getElem?_cons_succ, List.set_cons_zero, List.set_cons_succ, md, true_and, keyD, Option.some.injEq, exists_and_left, exists_eq_left', exists_eq_left, decide_true, decide_false, Bool.and_true, Bool.true_and, Bool.not_true, Bool.not_false, atI_0, atI_1, atI_2, atI_3, wipeD, Tg.slots, slotsL, List.cons_append, List.nil_append, ↓reduceIte, if_true, if_false, Bool.false_eq_true]
  (try dsimp only); rw [wSs_cons]; simp (maxSteps := 4000000) only [wS, wE, wA, wG, wGs, wT, wTall, wTany, wTs, wO, wAnd, wOr, binW, cmpW, eqW, ixW, slW, biW, intW, lenW, tupleW, listW, meW, truW, augW, itW, List.getElem?_cons_zero, List.getElem?_cons_succ, List.set_cons_zero, List.set_cons_succ, md, true_and, keyD, Option.some.injEq, exists_and_left, exists_eq_left', exists_eq_left, decide_true, decide_false, Bool.and_true, Bool.true_and, Bool.not_true, Bool.not_false, atI_0, atI_1, atI_2, atI_3, wipeD, Tg.slots, slotsL, List.cons_append, List.nil_append, ↓reduceIte, if_true, if_false, Bool.false_eq_true]
  refine ⟨by decide +kernel, nofun, q _ (by decide +kernel)⟩
end
end DL.K09
namespace DL.K09
open PySem PySem.Spec PyProof.Rows L2 DL
section
variable {P : Program} {w : World} {Q : D → Prop} {QE : DX → Prop} {E : DX → DEnv → Prop}
def isStr (c : Nat) (d : D) : Prop := ∃ s : Str, d = .str s ∧ s.length ≤ c
theorem to_strs {c : Nat} : ∀ {l : List D}, (∀ x ∈ l, isStr c x) → ∃ ys : List Str, l = ys.map .str ∧ ∀ y ∈ ys, y.length ≤ c
  | [], _ => ⟨[], rfl, by simp⟩
  | d :: l, h => by
    obtain ⟨ys, e, hy⟩ := to_strs (l := l) fun x hx => h x (List.mem_cons_of_mem _ hx)
    obtain ⟨s, rfl, hs⟩ := h d List.mem_cons_self
    refine ⟨s :: ys, by rw [e]; rfl, fun y hy' => ?_⟩
    rcases List.mem_cons.mp hy' with rfl | z
    · exact hs
    · exact hy y z
theorem str1 (c : Nat) : isStr 1 (.str ⟨#[c]⟩) := ⟨_, rfl, Nat.le_refl _⟩
theorem atI_chr {z : Str} {r : Nat} (h : r < z.length) : ∃ c, atI z.cps.toList (r : Int) = some c := by
  have xl : z.cps.toList.length = z.length := Array.length_toList
  exact ⟨z.cps.toList[r]'(by rw [xl]; exact h), atI_nat (List.getElem?_eq_getElem (by rw [xl]; exact h))⟩
theorem cat_len' {ys : List Str} {c n : Nat} (hy : ∀ y ∈ ys, y.length ≤ c) (hn : ys.length ≤ n) : (catF ys).length ≤ n * c := by
  have h3 : (catF ys).length = _ := cat_len ys Str.empty
  have h4 : Str.empty.length = 0 := by decide
  have := sum_le (f := fun x : Str => x.length) (c := c) (l := ys) hy
  have := Nat.mul_le_mul_right c hn
  omega
theorem join_i {l : List D} {c n : Nat} {R : D → Prop} (h : ∀ x ∈ l, isStr c x) (hn : l.length ≤ n) (hz : n * c ≤ 100000) (q : ∀ s : Str, s.length ≤ n * c → R (.str s)) :
    ∃ l', strsD (.lst l) = some l' ∧ ∃ ys : List Str, l' = ys.map D.str ∧ (ys.map (·.length)).sum + ys.length * (Str.ofString "").length ≤ 16777216 ∧ R (.str (Txt.join (Str.ofString "") ys)) := by
  obtain ⟨ys, rfl, hy⟩ := to_strs h
  rw [List.length_map] at hn
  have e0 : (Str.ofString "").length = 0 := by decide
  refine ⟨_, rfl, ys, rfl, ?_, ?_⟩
  · have := sum_le (f := fun x : Str => x.length) (c := c) (l := ys) hy
    have := Nat.mul_le_mul_right c hn
    rw [e0]; omega
  · rw [join_cat]; exact q _ (cat_len' hy hn)
theorem nodup_sub {α : Type} [DecidableEq α] : ∀ {l m : List α}, l.Nodup → (∀ x ∈ l, x ∈ m) → l.length ≤ m.length
  | [], m, _, _ => Nat.zero_le _
  | x :: l, m, hn, hs => by
    have hx : x ∈ m := hs x List.mem_cons_self
    rw [List.nodup_cons] at hn
    have ih := nodup_sub (l := l) (m := m.erase x) hn.2 fun y hy => by
      have hy' := hs y (List.mem_cons_of_mem _ hy)
      have hne : y ≠ x := fun e => hn.1 (e ▸ hy)
      exact (List.mem_erase_of_ne hne).mpr hy'
    rw [List.length_erase_of_mem hx] at ih
    have : 0 < m.length := List.length_pos_of_mem hx
    rw [List.length_cons]; omega
theorem all_flat (ps : List Str) : (ps.map D.str).all flatD = true := by
  rw [List.all_eq_true]
  intro x hx
  obtain ⟨p, _, rfl⟩ := List.mem_map.mp hx
  rfl
theorem any_str (ps : List Str) (s : Str) : ((ps.map D.str).any fun y => eqF y (.str s)) = decide (s ∈ ps) := by
  rw [Bool.eq_iff_iff, List.any_eq_true, decide_eq_true_eq]
  constructor
  · rintro ⟨x, hx, e⟩
    obtain ⟨p, hp, rfl⟩ := List.mem_map.mp hx
    have e : (p == s) = true := e
    rw [← eq_of_beq e]; exact hp
  · intro h
    exact ⟨_, List.mem_map_of_mem h, by show (s == s) = true; exact beq_self_eq_true s⟩
def oth (c : Str) : List Str := (List.range 8).map fun (i : Nat) => Txt.mul c ((i : Int) + 1)
theorem mulOk {c : Str} (hc : c.length = 1) {i : Nat} (h : i < 8) : MulOk c ((i : Int) + 1) := by
  refine ⟨?_, fun _ _ => ?_, fun _ _ => ?_⟩
  · rw [Bool.or_eq_false_iff]
    exact ⟨decide_eq_false (by omega), decide_eq_false (by omega)⟩
  · rw [hc]
    have : (1 : Int) ≤ (2 ^ 63 - 1) / ((i : Int) + 1) := by
      rw [Int.le_ediv_iff_mul_le (by omega)]; omega
    show ¬ ((1 : Nat) : Int) > _
    omega
  · rw [hc]
    have : 1 * ((i : Int) + 1).toNat ≤ 8 := by omega
    exact decide_eq_false (by have := sz (n := 1 * ((i : Int) + 1).toNat) (by omega); omega)
theorem oth_nd : (oth (Str.ofString "q") ++ oth (Str.ofString "w")).Nodup := by decide +kernel
theorem oth_len : ∀ s ∈ oth (Str.ofString "q") ++ oth (Str.ofString "w"), s.length ≤ 16 := by decide +kernel
/-- 'q' * (k + 1) for k in range(8) -/
theorem oth_lc {c : String} {e : Ex} (he : e = .bin .mul (.str (Str.ofString c)) (.bin .add (.v 6) (.int 1))) (hc : (Str.ofString c).length = 1) {ρ : DEnv} {G : Nat → FSp} {R : List D → Prop} (h6 : 6 < ρ.length) (q : R ((oth (Str.ofString c)).map .str)) :
    lcL (wG (.nm 6)) (wTs G (fun _ _ => False) .nil) (wE G (fun _ _ => False) e) ρ R ((List.range (8 : Int).toNat).map fun (i : Nat) => .int (i : Int)) [] := by
  subst he
  refine lcL_ind (fun ds acc => ∃ k n, ds = (List.range' k n).map (fun (i : Nat) => .int (i : Int)) ∧ k + n = 8 ∧ acc = ((List.range k).map fun (i : Nat) => Txt.mul (Str.ofString c) ((i : Int) + 1)).map .str) ?_ ?_ _ _ ⟨0, 8, by rw [← List.range_eq_range']; rfl, rfl, rfl⟩
  · rintro acc ⟨k, n, e1, e2, rfl⟩
    cases n with
    | succ n => cases e1
    | zero =>
      have : k = 8 := by omega
      subst this
      exact q
  · rintro d ds acc ⟨k, n, e1, e2, rfl⟩ R' hR
    cases n with
    | zero => cases e1
    | succ n =>
      rw [List.range'_succ, List.map_cons] at e1
      injection e1 with e1 e3
      subst e1 e3
      have hs : (ρ.set 6 (.sh (.int (k : Int))))[6]? = some (.sh (.int (k : Int))) := List.getElem?_set_self h6
      simp (maxSteps := 4000000) only [wS, wE, wA, wG, wGs, wT, wTall, wTany, wTs, wO, wAnd, wOr, binW, cmpW, eqW, ixW, slW, biW, intW, lenW, tupleW, listW, meW, truW, augW, itW, List.getElem?_cons_zero, List.getElem?_cons_succ, List.set_cons_zero, List.set_cons_succ, md, true_and, keyD, Option.some.injEq, exists_and_left, exists_eq_left', exists_eq_left, decide_true, decide_false, Bool.and_true, Bool.true_and, Bool.not_true, Bool.not_false, atI_0, atI_1, atI_2, atI_3, wipeD, Tg.slots, slotsL, List.cons_append, List.nil_append, ↓reduceIte, if_true, if_false, Bool.false_eq_true, hs]
      refine ⟨mulOk hc (by omega), sz' (by rw [List.length_map, List.length_map, List.length_range]; omega), hR _ ⟨k + 1, n, rfl, by omega, ?_⟩⟩
      rw [List.range_succ, List.map_append, List.map_append]
      rfl
theorem c_word {ps : List Str} {Q : D → Prop} {QE : DX → Prop} (h : ps.length ≤ 10) (q : ∀ s : Str, s.length ≤ 16 → Q (.str s)) : Γ P w 7 [poolL.d P w, .lst (ps.map .str)] Q QE := ⟨ps, rfl, h, q⟩
theorem bg {n : Int} (h0 : 0 < n := by decide) (h1 : n < 1073741824 := by decide) : big n := ⟨h0, h1⟩
theorem lt4 {r : Nat} (h : (r : Int) < 4) : r = 0 ∨ r = 1 ∨ r = 2 ∨ r = 3 := by omega
theorem lt2 {r : Nat} (h : (r : Int) < 2) : r = 0 ∨ r = 1 := by omega
theorem w_word {ds : List D} (h : sWord P w ds Q QE) : wSs (Γ P w) E b_law_word (zz Q) (ent0 c_law_word.N ds) := by
  obtain ⟨ps, rfl, hp, q⟩ := h
  show wSs (Γ P w) E b_law_word _ [.sh (poolL.d P w), .sh (.lst (ps.map .str)), .un, .un, .un, .un, .un, .un]
  unfold b_law_word
  (try dsimp only); rw [wSs_cons]; simp (maxSteps := 4000000) only [wS, wE, wA, wG, wGs, wT, wTall, wTany, wTs, wO, wAnd, wOr, binW, cmpW, eqW, ixW, slW, biW, intW, lenW, tupleW, listW, meW, truW, augW, itW, List.getElem?_cons_zero, List.getElem?_cons_succ, List.set_cons_zero, List.set_cons_succ, md, true_and, keyD, Option.some.injEq, exists_and_left, exists_eq_left', exists_eq_left, decide_true, decide_false, Bool.and_true, Bool.true_and, Bool.not_true, Bool.not_false, atI_0, atI_1, atI_2, atI_3, wipeD, Tg.slots, slotsL, List.cons_append, List.nil_append, ↓reduceIte, if_true, if_false, Bool.false_eq_true]
  have hlet : (Str.ofString "abcdefghijklmnopqrstuvwxyz").length = 26 := by decide +kernel
  generalize hL : Str.ofString "abcdefghijklmnopqrstuvwxyz" = L at hlet ⊢
  refine seq_i (fun ρ => ∃ n : Nat, n ≤ 8 ∧ ρ = [.sh (poolL.d P w), .sh (.lst (ps.map .str)), .sh (.str L), .sh (.int n), .un, .un, .un, .un]) ?_ fun N hN => ?_
  · rintro ρ ⟨n, hn, rfl⟩
    refine seq_i (fun ρ => ∃ s : Str, s.length ≤ 16 ∧ ρ = [.sh (poolL.d P w), .sh (.lst (ps.map .str)), .sh (.str L), .sh (.int n), .sh (.str s), .un, .un, .un]) ?_ fun N hN => ?_
    · rintro ρ ⟨s, hs, rfl⟩
      refine seq_i (fun ρ => ∃ (s : Str) (s5 : Sl), s.length ≤ 16 ∧ ρ = [.sh (poolL.d P w), .sh (.lst (ps.map .str)), .sh (.str L), .sh (.int n), .sh (.str s), s5, .un, .un]) ?_ fun N hN => ?_
      · rintro ρ ⟨s, s5, hs, rfl⟩
        (try dsimp only); rw [wSs_cons]; simp (maxSteps := 4000000) only [wS, wE, wA, wG, wGs, wT, wTall, wTany, wTs, wO, wAnd, wOr, binW, cmpW, eqW, ixW, slW, biW, intW, lenW, tupleW, listW, meW, truW, augW, itW, List.getElem?_cons_zero, List.getElem?_cons_succ, List.set_cons_zero, List.set_cons_succ, md, true_and, keyD, Option.some.injEq, exists_and_left, exists_eq_left', exists_eq_left, decide_true, decide_false, Bool.and_true, Bool.true_and, Bool.not_true, Bool.not_false, atI_0, atI_1, atI_2, atI_3, wipeD, Tg.slots, slotsL, List.cons_append, List.nil_append, ↓reduceIte, if_true, if_false, Bool.false_eq_true]
        exact ⟨nofun, q s hs⟩
      · simp (maxSteps := 4000000) only [wS, wE, wA, wG, wGs, wT, wTall, wTany, wTs, wO, wAnd, wOr, binW, cmpW, eqW, ixW, slW, biW, intW, lenW, tupleW, listW, meW, truW, augW, itW, List.getElem?_cons_zero, List.getElem?_cons_succ, List.set_cons_zero, List.set_cons_succ, md, true_and, keyD, Option.some.injEq, exists_and_left, exists_eq_left', exists_eq_left, decide_true, decide_false, Bool.and_true, Bool.true_and, Bool.not_true, Bool.not_false, atI_0, atI_1, atI_2, atI_3, wipeD, Tg.slots, slotsL, List.cons_append, List.nil_append, ↓reduceIte, if_true, if_false, Bool.false_eq_true, inW, flatD, all_flat, any_str]
        split
        · (try dsimp only); rw [wSs_cons]; simp (maxSteps := 4000000) only [wS, wE, wA, wG, wGs, wT, wTall, wTany, wTs, wO, wAnd, wOr, binW, cmpW, eqW, ixW, slW, biW, intW, lenW, tupleW, listW, meW, truW, augW, itW, List.getElem?_cons_zero, List.getElem?_cons_succ, List.set_cons_zero, List.set_cons_succ, md, true_and, keyD, Option.some.injEq, exists_and_left, exists_eq_left', exists_eq_left, decide_true, decide_false, Bool.and_true, Bool.true_and, Bool.not_true, Bool.not_false, atI_0, atI_1, atI_2, atI_3, wipeD, Tg.slots, slotsL, List.cons_append, List.nil_append, ↓reduceIte, if_true, if_false, Bool.false_eq_true]
          refine ⟨by decide, by decide, ?_⟩
          refine oth_lc rfl (by decide) (by simp) ?_
          refine ⟨by decide, by decide, ?_⟩
          refine oth_lc rfl (by decide) (by simp) ?_
          refine ⟨sz (by simp [oth]), ?_⟩
          rw [← List.map_append]
          have hol := oth_len
          have hnd := oth_nd
          have hos : (oth (Str.ofString "q") ++ oth (Str.ofString "w")).length = 16 := by simp [oth]
          generalize oth (Str.ofString "q") ++ oth (Str.ofString "w") = os at hol hnd hos ⊢
          (try dsimp only); rw [wSs_cons]; simp (maxSteps := 4000000) only [wS, wE, wA, wG, wGs, wT, wTall, wTany, wTs, wO, wAnd, wOr, binW, cmpW, eqW, ixW, slW, biW, intW, lenW, tupleW, listW, meW, truW, augW, itW, List.getElem?_cons_zero, List.getElem?_cons_succ, List.set_cons_zero, List.set_cons_succ, md, true_and, keyD, Option.some.injEq, exists_and_left, exists_eq_left', exists_eq_left, decide_true, decide_false, Bool.and_true, Bool.true_and, Bool.not_true, Bool.not_false, atI_0, atI_1, atI_2, atI_3, wipeD, Tg.slots, slotsL, List.cons_append, List.nil_append, ↓reduceIte, if_true, if_false, Bool.false_eq_true]
          refine lcL_ind (fun ds acc => ∃ dn td : List Str, ds = td.map .str ∧ os = dn ++ td ∧ acc = (dn.filter fun x => !decide (x ∈ ps)).map .str) ?_ ?_ _ _ ⟨[], os, rfl, rfl, rfl⟩
          · rintro acc ⟨dn, td, e1, e2, rfl⟩
            cases td with
            | cons _ _ => cases e1
            | nil =>
              rw [List.append_nil] at e2
              subst e2
              cases hh : os.filter (fun x => !decide (x ∈ ps)) with
              | nil =>
                exfalso
                have hsub : ∀ x ∈ os, x ∈ ps := fun x hx => by
                  by_cases c : x ∈ ps
                  · exact c
                  · have : x ∈ os.filter (fun x => !decide (x ∈ ps)) := List.mem_filter.mpr ⟨hx, by simp [c]⟩
                    rw [hh] at this; cases this
                have := nodup_sub hnd hsub
                omega
              | cons t r =>
                have ht : t ∈ os := by
                  have : t ∈ os.filter (fun x => !decide (x ∈ ps)) := by rw [hh]; exact List.mem_cons_self
                  exact (List.mem_filter.mp this).1
                rw [List.map_cons]
                refine ⟨_, atI_0, ?_⟩
                (try dsimp only); rw [wSs_nil]; dsimp only
                exact hN _ ⟨t, _, hol t ht, rfl⟩
          · rintro d ds acc ⟨dn, td, e1, e2, rfl⟩ R hR
            cases td with
            | nil => cases e1
            | cons t td =>
              rw [List.map_cons] at e1
              injection e1 with e1 e3
              subst e1 e3
              simp (maxSteps := 4000000) only [e_law_word_0, t_law_word_0, wS, wE, wA, wG, wGs, wT, wTall, wTany, wTs, wO, wAnd, wOr, binW, cmpW, eqW, ixW, slW, biW, intW, lenW, tupleW, listW, meW, truW, augW, itW, List.getElem?_cons_zero, List.getElem?_cons_succ, List.set_cons_zero, List.set_cons_succ, md, true_and, keyD, Option.some.injEq, exists_and_left, exists_eq_left', exists_eq_left, decide_true, decide_false, Bool.and_true, Bool.true_and, Bool.not_true, Bool.not_false, atI_0, atI_1, atI_2, atI_3, wipeD, Tg.slots, slotsL, List.cons_append, List.nil_append, ↓reduceIte, if_true, if_false, Bool.false_eq_true, inW, flatD, all_flat, any_str]
              have hf : (dn ++ [t]).filter (fun x => !decide (x ∈ ps)) = dn.filter (fun x => !decide (x ∈ ps)) ++ if (!decide (t ∈ ps)) = true then [t] else [] := by
                rw [List.filter_append]
                congr 1
                rw [List.filter_cons]
                rfl
              have e4 : os = (dn ++ [t]) ++ td := by rw [e2, List.append_assoc]; rfl
              split
              · rename_i c
                refine ⟨sz' ?_, hR _ ⟨dn ++ [t], td, rfl, e4, by rw [hf, if_pos c, List.map_append]; rfl⟩⟩
                rw [List.length_map]
                have := List.length_filter_le (fun x => !decide (x ∈ ps)) dn
                have h2 := congrArg List.length e2
                rw [List.length_append] at h2
                omega
              · rename_i c
                exact hR _ ⟨dn ++ [t], td, rfl, e4, by rw [hf, if_neg c, List.append_nil]⟩
        · (try dsimp only); rw [wSs_nil]; dsimp only
          exact hN _ ⟨s, _, hs, rfl⟩
    · simp (maxSteps := 4000000) only [wS, wE, wA, wG, wGs, wT, wTall, wTany, wTs, wO, wAnd, wOr, binW, cmpW, eqW, ixW, slW, biW, intW, lenW, tupleW, listW, meW, truW, augW, itW, List.getElem?_cons_zero, List.getElem?_cons_succ, List.set_cons_zero, List.set_cons_succ, md, true_and, keyD, Option.some.injEq, exists_and_left, exists_eq_left', exists_eq_left, decide_true, decide_false, Bool.and_true, Bool.true_and, Bool.not_true, Bool.not_false, atI_0, atI_1, atI_2, atI_3, wipeD, Tg.slots, slotsL, List.cons_append, List.nil_append, ↓reduceIte, if_true, if_false, Bool.false_eq_true]
      refine ⟨(small62 (by omega)).1, (small62 (by omega)).2, ?_⟩
      rw [Int.toNat_natCast]
      refine lcL_map (isStr 1) (sz (by rw [List.length_map, List.length_range]; omega)) (fun d acc hd ha hlt R hR => ?_) fun l hl hx => ?_
      · obtain ⟨j, _, rfl⟩ := List.mem_map.mp hd
        simp (maxSteps := 4000000) only [e_law_word_3, wS, wE, wA, wG, wGs, wT, wTall, wTany, wTs, wO, wAnd, wOr, binW, cmpW, eqW, ixW, slW, biW, intW, lenW, tupleW, listW, meW, truW, augW, itW, List.getElem?_cons_zero, List.getElem?_cons_succ, List.set_cons_zero, List.set_cons_succ, md, true_and, keyD, Option.some.injEq, exists_and_left, exists_eq_left', exists_eq_left, decide_true, decide_false, Bool.and_true, Bool.true_and, Bool.not_true, Bool.not_false, atI_0, atI_1, atI_2, atI_3, wipeD, Tg.slots, slotsL, List.cons_append, List.nil_append, ↓reduceIte, if_true, if_false, Bool.false_eq_true]
        refine ⟨sz (by simp), c_take bg fun r hr => ?_⟩
        have fin : ∀ m : Int, 0 < m → m ≤ 26 → Γ P w 5 [poolL.d P w, .int m] (fun d => ixW (.str L) d fun y => acc.length < sizeLine ∧ R (acc ++ [y])) (fun _ => False) := fun m h0 h1 => c_take (bg h0 (by omega)) fun r2 hr2 => by
          obtain ⟨c, hc⟩ := atI_chr (z := L) (r := r2) (by rw [hlet]; omega)
          exact ⟨sz (by omega), c, hc, hlt, hR _ (str1 c)⟩
        rcases lt2 hr with rfl | rfl
        · exact ⟨_, atI_0, fin 3 (by decide) (by decide)⟩
        · exact ⟨_, atI_1, fin 26 (by decide) (by decide)⟩
      · rw [List.length_map, List.length_range] at hl
        exact join_i (n := 8) (c := 1) (R := fun d => N [.sh (poolL.d P w), .sh (.lst (ps.map .str)), .sh (.str L), .sh (.int n), .sh d, .un, .un, .un]) hx (by omega) (by decide) fun s hs => hN _ ⟨s, by omega, rfl⟩
  · simp (maxSteps := 4000000) only [wS, wE, wA, wG, wGs, wT, wTall, wTany, wTs, wO, wAnd, wOr, binW, cmpW, eqW, ixW, slW, biW, intW, lenW, tupleW, listW, meW, truW, augW, itW, List.getElem?_cons_zero, List.getElem?_cons_succ, List.set_cons_zero, List.set_cons_succ, md, true_and, keyD, Option.some.injEq, exists_and_left, exists_eq_left', exists_eq_left, decide_true, decide_false, Bool.and_true, Bool.true_and, Bool.not_true, Bool.not_false, atI_0, atI_1, atI_2, atI_3, wipeD, Tg.slots, slotsL, List.cons_append, List.nil_append, ↓reduceIte, if_true, if_false, Bool.false_eq_true]
    refine c_take bg fun r hr => ?_
    simp (maxSteps := 4000000) only [wS, wE, wA, wG, wGs, wT, wTall, wTany, wTs, wO, wAnd, wOr, binW, cmpW, eqW, ixW, slW, biW, intW, lenW, tupleW, listW, meW, truW, augW, itW, List.getElem?_cons_zero, List.getElem?_cons_succ, List.set_cons_zero, List.set_cons_succ, md, true_and, keyD, Option.some.injEq, exists_and_left, exists_eq_left', exists_eq_left, decide_true, decide_false, Bool.and_true, Bool.true_and, Bool.not_true, Bool.not_false, atI_0, atI_1, atI_2, atI_3, wipeD, Tg.slots, slotsL, List.cons_append, List.nil_append, ↓reduceIte, if_true, if_false, Bool.false_eq_true]
    refine ⟨sz (by simp), c_take bg fun r2 hr2 => ?_⟩
    rcases lt4 hr2 with rfl | rfl | rfl | rfl
    · exact ⟨_, atI_0, hN _ ⟨1, by omega, rfl⟩⟩
    · exact ⟨_, atI_1, hN _ ⟨1, by omega, rfl⟩⟩
    · exact ⟨_, atI_2, hN _ ⟨2, by omega, rfl⟩⟩
    · exact ⟨_, atI_3, hN _ ⟨1 + r, by omega, by simp only [Int.natCast_add, Int.natCast_one]⟩⟩
end
end DL.K09
namespace DL.K09
open PySem PySem.Spec PyProof.Rows L2 DL
section
variable {P : Program} {w : World} {Q : D → Prop} {QE : DX → Prop} {E : DX → DEnv → Prop}
theorem c_signs {Q : D → Prop} {QE : DX → Prop} (q : ∀ s : Str, s.length = 94 → Q (.str s)) : Γ P w 6 [] Q QE := ⟨rfl, q⟩
/-- the slices [:40] and [:8] -/
theorem cut_to {s : Str} {n : Nat} : (cutS s none (some (n : Int))).length ≤ n := by
  have e : (cutS s none (some (n : Int))).length = (cutS s none (some (n : Int))).cps.toList.length := Array.length_toList.symm
  rw [e]
  unfold cutS
  rw [HT.sIx_nat, HT.sIx_none]
  simp only [List.toList_toArray, List.length_take]
  omega
/-- signs drawn from L -/
theorem chars_lc {n : Int} {L : Str} {i : Nat} {e : Ex} {G : D → DEnv → (DEnv → Prop) → Prop} {ρ : DEnv} {m : Nat} {R : List D → Prop} (hm : m ≤ 1000)
    (hstep : ∀ (acc : List D) (j : Nat) (R' : List D → Prop), acc.length < sizeLine → (∀ y, isStr 1 y → R' (acc ++ [y])) → G (.int (j : Int)) ρ fun ρ2 => wTs (Γ P w) (fun _ _ => False) .nil ρ2 fun b ρ3 => ρ3 = ρ2 ∧ if b = true then wE (Γ P w) (fun _ _ => False) e ρ3 fun y ρ4 => ρ4 = ρ3 ∧ acc.length < sizeLine ∧ R' (acc ++ [y]) else R' acc)
    (q : ∀ l : List D, l.length ≤ m → (∀ x ∈ l, isStr 1 x) → R l) : lcL G (wTs (Γ P w) (fun _ _ => False) .nil) (wE (Γ P w) (fun _ _ => False) e) ρ R ((List.range m).map fun (i : Nat) => .int (i : Int)) [] := by
  refine lcL_map (isStr 1) (sz (by rw [List.length_map, List.length_range]; omega)) (fun d acc hd ha hlt R' hR => ?_) fun l hl hx => q l (by rw [List.length_map, List.length_range] at hl; omega) hx
  obtain ⟨j, _, rfl⟩ := List.mem_map.mp hd
  exact hstep acc j R' hlt hR
theorem lt5 {r : Nat} (h : (r : Int) < 5) : r = 0 ∨ r = 1 ∨ r = 2 ∨ r = 3 ∨ r = 4 := by omega
theorem atI_in {l : List D} {r : Nat} (h : r < l.length) : ∃ d, atI l (r : Int) = some d ∧ d ∈ l := ⟨l[r], atI_nat (List.getElem?_eq_getElem h), List.getElem_mem h⟩
theorem ite_both {a b X Y : Prop} [Decidable a] [Decidable b] (hX : a → b → X) (hY : Y) : if a then (if b then X else Y) else Y := by
  by_cases c : a
  · rw [if_pos c]
    by_cases c2 : b
    · rw [if_pos c2]; exact hX c c2
    · rw [if_neg c2]; exact hY
  · rw [if_neg c]; exact hY
theorem w_line {ds : List D} (h : sLine P w ds Q QE) : wSs (Γ P w) E b_law_line (zz Q) (ent0 c_law_line.N ds) := by
  obtain ⟨ps, rfl, hp, hp2, q⟩ := h
  show wSs (Γ P w) E b_law_line _ [.sh (poolL.d P w), .sh (tS ps), .un, .un, .un, .un, .un, .un, .un, .un]
  unfold b_law_line
  (try dsimp only); rw [wSs_cons]; simp (maxSteps := 4000000) only [wS, wE, wA, wG, wGs, wT, wTall, wTany, wTs, wO, wAnd, wOr, binW, cmpW, eqW, ixW, slW, biW, intW, lenW, tupleW, listW, meW, truW, augW, itW, List.getElem?_cons_zero, List.getElem?_cons_succ, List.set_cons_zero, List.set_cons_succ, md, true_and, keyD, Option.some.injEq, exists_and_left, exists_eq_left', exists_eq_left, decide_true, decide_false, Bool.and_true, Bool.true_and, Bool.not_true, Bool.not_false, atI_0, atI_1, atI_2, atI_3, wipeD, Tg.slots, slotsL, List.cons_append, List.nil_append, ↓reduceIte, if_true, if_false, Bool.false_eq_true]
  refine c_signs fun L hL => ?_
  try simp (maxSteps := 4000000) only [wS, wE, wA, wG, wGs, wT, wTall, wTany, wTs, wO, wAnd, wOr, binW, cmpW, eqW, ixW, slW, biW, intW, lenW, tupleW, listW, meW, truW, augW, itW, List.getElem?_cons_zero, List.getElem?_cons_succ, List.set_cons_zero, List.set_cons_succ, md, true_and, keyD, Option.some.injEq, exists_and_left, exists_eq_left', exists_eq_left, decide_true, decide_false, Bool.and_true, Bool.true_and, Bool.not_true, Bool.not_false, atI_0, atI_1, atI_2, atI_3, wipeD, Tg.slots, slotsL, List.cons_append, List.nil_append, ↓reduceIte, if_true, if_false, Bool.false_eq_true]
  (try dsimp only); rw [wSs_cons]; simp (maxSteps := 4000000) only [wS, wE, wA, wG, wGs, wT, wTall, wTany, wTs, wO, wAnd, wOr, binW, cmpW, eqW, ixW, slW, biW, intW, lenW, tupleW, listW, meW, truW, augW, itW, List.getElem?_cons_zero, List.getElem?_cons_succ, List.set_cons_zero, List.set_cons_succ, md, true_and, keyD, Option.some.injEq, exists_and_left, exists_eq_left', exists_eq_left, decide_true, decide_false, Bool.and_true, Bool.true_and, Bool.not_true, Bool.not_false, atI_0, atI_1, atI_2, atI_3, wipeD, Tg.slots, slotsL, List.cons_append, List.nil_append, ↓reduceIte, if_true, if_false, Bool.false_eq_true]
  (try dsimp only); rw [wSs_cons]; simp (maxSteps := 4000000) only [wS, wE, wA, wG, wGs, wT, wTall, wTany, wTs, wO, wAnd, wOr, binW, cmpW, eqW, ixW, slW, biW, intW, lenW, tupleW, listW, meW, truW, augW, itW, List.getElem?_cons_zero, List.getElem?_cons_succ, List.set_cons_zero, List.set_cons_succ, md, true_and, keyD, Option.some.injEq, exists_and_left, exists_eq_left', exists_eq_left, decide_true, decide_false, Bool.and_true, Bool.true_and, Bool.not_true, Bool.not_false, atI_0, atI_1, atI_2, atI_3, wipeD, Tg.slots, slotsL, List.cons_append, List.nil_append, ↓reduceIte, if_true, if_false, Bool.false_eq_true]
  refine c_take bg fun r hr => ?_
  try simp (maxSteps := 4000000) only [wS, wE, wA, wG, wGs, wT, wTall, wTany, wTs, wO, wAnd, wOr, binW, cmpW, eqW, ixW, slW, biW, intW, lenW, tupleW, listW, meW, truW, augW, itW, List.getElem?_cons_zero, List.getElem?_cons_succ, List.set_cons_zero, List.set_cons_succ, md, true_and, keyD, Option.some.injEq, exists_and_left, exists_eq_left', exists_eq_left, decide_true, decide_false, Bool.and_true, Bool.true_and, Bool.not_true, Bool.not_false, atI_0, atI_1, atI_2, atI_3, wipeD, Tg.slots, slotsL, List.cons_append, List.nil_append, ↓reduceIte, if_true, if_false, Bool.false_eq_true]
  refine ⟨(small62 (by omega)).1, (small62 (by omega)).2, ?_⟩
  rw [Int.toNat_natCast]
  have e0 : (Str.ofString "").length = 0 := by decide
  refine forL_ind (fun ds ρ => ∃ (s : Str) (k : Nat) (s4 s5 s6 s7 s8 s9 : Sl), k + ds.length ≤ 5 ∧ s.length ≤ 30 * k ∧ ρ = [.sh (poolL.d P w), .sh (tS ps), .sh (.str L), .sh (.str s), s4, s5, s6, s7, s8, s9]) ?_ ?_ _ _ ⟨_, 0, .un, .un, .un, .un, .un, .un, by rw [List.length_map, List.length_range]; omega, by rw [e0]; omega, rfl⟩
  · rintro ρ ⟨s, k, s4, s5, s6, s7, s8, s9, hk, hs, rfl⟩
    (try dsimp only); rw [wSs_cons]; simp (maxSteps := 4000000) only [wS, wE, wA, wG, wGs, wT, wTall, wTany, wTs, wO, wAnd, wOr, binW, cmpW, eqW, ixW, slW, biW, intW, lenW, tupleW, listW, meW, truW, augW, itW, List.getElem?_cons_zero, List.getElem?_cons_succ, List.set_cons_zero, List.set_cons_succ, md, true_and, keyD, Option.some.injEq, exists_and_left, exists_eq_left', exists_eq_left, decide_true, decide_false, Bool.and_true, Bool.true_and, Bool.not_true, Bool.not_false, atI_0, atI_1, atI_2, atI_3, wipeD, Tg.slots, slotsL, List.cons_append, List.nil_append, ↓reduceIte, if_true, if_false, Bool.false_eq_true]
    have := cut_to (s := s) (n := 40)
    exact ⟨sz (by omega), nofun, q _ (by have : (40 : Nat) ≤ 1000 := by decide
                                         exact Nat.le_trans cut_to this)⟩
  · rintro d ds ρ ⟨s, k, s4, s5, s6, s7, s8, s9, hk, hs, rfl⟩ N hN
    rw [List.length_cons] at hk
    try simp (maxSteps := 4000000) only [wS, wE, wA, wG, wGs, wT, wTall, wTany, wTs, wO, wAnd, wOr, binW, cmpW, eqW, ixW, slW, biW, intW, lenW, tupleW, listW, meW, truW, augW, itW, List.getElem?_cons_zero, List.getElem?_cons_succ, List.set_cons_zero, List.set_cons_succ, md, true_and, keyD, Option.some.injEq, exists_and_left, exists_eq_left', exists_eq_left, decide_true, decide_false, Bool.and_true, Bool.true_and, Bool.not_true, Bool.not_false, atI_0, atI_1, atI_2, atI_3, wipeD, Tg.slots, slotsL, List.cons_append, List.nil_append, ↓reduceIte, if_true, if_false, Bool.false_eq_true]
    (try dsimp only); rw [wSs_cons]; simp (maxSteps := 4000000) only [wS, wE, wA, wG, wGs, wT, wTall, wTany, wTs, wO, wAnd, wOr, binW, cmpW, eqW, ixW, slW, biW, intW, lenW, tupleW, listW, meW, truW, augW, itW, List.getElem?_cons_zero, List.getElem?_cons_succ, List.set_cons_zero, List.set_cons_succ, md, true_and, keyD, Option.some.injEq, exists_and_left, exists_eq_left', exists_eq_left, decide_true, decide_false, Bool.and_true, Bool.true_and, Bool.not_true, Bool.not_false, atI_0, atI_1, atI_2, atI_3, wipeD, Tg.slots, slotsL, List.cons_append, List.nil_append, ↓reduceIte, if_true, if_false, Bool.false_eq_true]
    refine c_take bg fun wy hwy => ?_
    try simp (maxSteps := 4000000) only [wS, wE, wA, wG, wGs, wT, wTall, wTany, wTs, wO, wAnd, wOr, binW, cmpW, eqW, ixW, slW, biW, intW, lenW, tupleW, listW, meW, truW, augW, itW, List.getElem?_cons_zero, List.getElem?_cons_succ, List.set_cons_zero, List.set_cons_succ, md, true_and, keyD, Option.some.injEq, exists_and_left, exists_eq_left', exists_eq_left, decide_true, decide_false, Bool.and_true, Bool.true_and, Bool.not_true, Bool.not_false, atI_0, atI_1, atI_2, atI_3, wipeD, Tg.slots, slotsL, List.cons_append, List.nil_append, ↓reduceIte, if_true, if_false, Bool.false_eq_true]
    (try dsimp only); rw [wSs_cons]; simp (maxSteps := 4000000) only [wS, wE, wA, wG, wGs, wT, wTall, wTany, wTs, wO, wAnd, wOr, binW, cmpW, eqW, ixW, slW, biW, intW, lenW, tupleW, listW, meW, truW, augW, itW, List.getElem?_cons_zero, List.getElem?_cons_succ, List.set_cons_zero, List.set_cons_succ, md, true_and, keyD, Option.some.injEq, exists_and_left, exists_eq_left', exists_eq_left, decide_true, decide_false, Bool.and_true, Bool.true_and, Bool.not_true, Bool.not_false, atI_0, atI_1, atI_2, atI_3, wipeD, Tg.slots, slotsL, List.cons_append, List.nil_append, ↓reduceIte, if_true, if_false, Bool.false_eq_true]
    refine c_take bg fun m hm => ?_
    try simp (maxSteps := 4000000) only [wS, wE, wA, wG, wGs, wT, wTall, wTany, wTs, wO, wAnd, wOr, binW, cmpW, eqW, ixW, slW, biW, intW, lenW, tupleW, listW, meW, truW, augW, itW, List.getElem?_cons_zero, List.getElem?_cons_succ, List.set_cons_zero, List.set_cons_succ, md, true_and, keyD, Option.some.injEq, exists_and_left, exists_eq_left', exists_eq_left, decide_true, decide_false, Bool.and_true, Bool.true_and, Bool.not_true, Bool.not_false, atI_0, atI_1, atI_2, atI_3, wipeD, Tg.slots, slotsL, List.cons_append, List.nil_append, ↓reduceIte, if_true, if_false, Bool.false_eq_true]
    refine ⟨(small62 (by omega)).1, (small62 (by omega)).2, ?_⟩
    rw [Int.toNat_natCast]
    refine chars_lc (n := 94) (L := L) (i := 0) (by omega) (fun acc j R' hlt hR => ?_) fun l hl hx => ?_
    · simp (maxSteps := 4000000) only [e_law_line_0, wS, wE, wA, wG, wGs, wT, wTall, wTany, wTs, wO, wAnd, wOr, binW, cmpW, eqW, ixW, slW, biW, intW, lenW, tupleW, listW, meW, truW, augW, itW, List.getElem?_cons_zero, List.getElem?_cons_succ, List.set_cons_zero, List.set_cons_succ, md, true_and, keyD, Option.some.injEq, exists_and_left, exists_eq_left', exists_eq_left, decide_true, decide_false, Bool.and_true, Bool.true_and, Bool.not_true, Bool.not_false, atI_0, atI_1, atI_2, atI_3, wipeD, Tg.slots, slotsL, List.cons_append, List.nil_append, ↓reduceIte, if_true, if_false, Bool.false_eq_true]
      refine c_take bg fun r2 hr2 => ?_
      obtain ⟨c, hc⟩ := atI_chr (z := L) (r := r2) (by rw [hL]; omega)
      try simp (maxSteps := 4000000) only [wS, wE, wA, wG, wGs, wT, wTall, wTany, wTs, wO, wAnd, wOr, binW, cmpW, eqW, ixW, slW, biW, intW, lenW, tupleW, listW, meW, truW, augW, itW, List.getElem?_cons_zero, List.getElem?_cons_succ, List.set_cons_zero, List.set_cons_succ, md, true_and, keyD, Option.some.injEq, exists_and_left, exists_eq_left', exists_eq_left, decide_true, decide_false, Bool.and_true, Bool.true_and, Bool.not_true, Bool.not_false, atI_0, atI_1, atI_2, atI_3, wipeD, Tg.slots, slotsL, List.cons_append, List.nil_append, ↓reduceIte, if_true, if_false, Bool.false_eq_true]
      exact ⟨sz (by omega), c, hc, hlt, hR _ (str1 c)⟩
    · refine join_i (n := 6) (c := 1) (R := fun d' => wSs (Γ P w) E _ _ [.sh (poolL.d P w), .sh (tS ps), .sh (.str L), .sh (.str s), .sh d, .sh (.int wy), .sh d', s7, s8, s9]) hx (by omega) (by decide) fun pc hpc => ?_
      refine seq_i (fun ρ => ∃ (pc : Str) (s7 s8 s9 : Sl), pc.length ≤ 30 ∧ ρ = [.sh (poolL.d P w), .sh (tS ps), .sh (.str L), .sh (.str s), .sh d, .sh (.int wy), .sh (.str pc), s7, s8, s9]) ?_ fun N2 hN2 => ?_
      · rintro ρ ⟨pc, s7, s8, s9, hpc, rfl⟩
        (try dsimp only); rw [wSs_cons]; simp (maxSteps := 4000000) only [wS, wE, wA, wG, wGs, wT, wTall, wTany, wTs, wO, wAnd, wOr, binW, cmpW, eqW, ixW, slW, biW, intW, lenW, tupleW, listW, meW, truW, augW, itW, List.getElem?_cons_zero, List.getElem?_cons_succ, List.set_cons_zero, List.set_cons_succ, md, true_and, keyD, Option.some.injEq, exists_and_left, exists_eq_left', exists_eq_left, decide_true, decide_false, Bool.and_true, Bool.true_and, Bool.not_true, Bool.not_false, atI_0, atI_1, atI_2, atI_3, wipeD, Tg.slots, slotsL, List.cons_append, List.nil_append, ↓reduceIte, if_true, if_false, Bool.false_eq_true]
        refine ⟨sz (by omega), ?_⟩
        (try dsimp only); rw [wSs_nil]; dsimp only
        exact hN _ ⟨s ++ pc, k + 1, _, _, _, _, _, _, by omega, by rw [len_app]; omega, rfl⟩
      · have pick : 0 < ps.length → ∀ r : Nat, (r : Int) < ps.length → ∃ p, atI (ps.map D.str) (r : Int) = some (.str p) ∧ p.length ≤ 16 := fun _ r hr => by
          have hr' : r < ps.length := by omega
          exact ⟨ps[r], atI_str (List.getElem?_eq_getElem hr'), hp2 _ (List.getElem_mem hr')⟩
        simp (maxSteps := 4000000) only [wS, wE, wA, wG, wGs, wT, wTall, wTany, wTs, wO, wAnd, wOr, binW, cmpW, eqW, ixW, slW, biW, intW, lenW, tupleW, listW, meW, truW, augW, itW, List.getElem?_cons_zero, List.getElem?_cons_succ, List.set_cons_zero, List.set_cons_succ, md, true_and, keyD, Option.some.injEq, exists_and_left, exists_eq_left', exists_eq_left, decide_true, decide_false, Bool.and_true, Bool.true_and, Bool.not_true, Bool.not_false, atI_0, atI_1, atI_2, atI_3, wipeD, Tg.slots, slotsL, List.cons_append, List.nil_append, ↓reduceIte, if_true, if_false, Bool.false_eq_true, List.length_map]
        refine ite_both (fun _ c => ?_) ?_
        · have c : 0 < ps.length := by simpa using c
          (try dsimp only); rw [wSs_cons]; simp (maxSteps := 4000000) only [wS, wE, wA, wG, wGs, wT, wTall, wTany, wTs, wO, wAnd, wOr, binW, cmpW, eqW, ixW, slW, biW, intW, lenW, tupleW, listW, meW, truW, augW, itW, List.getElem?_cons_zero, List.getElem?_cons_succ, List.set_cons_zero, List.set_cons_succ, md, true_and, keyD, Option.some.injEq, exists_and_left, exists_eq_left', exists_eq_left, decide_true, decide_false, Bool.and_true, Bool.true_and, Bool.not_true, Bool.not_false, atI_0, atI_1, atI_2, atI_3, wipeD, Tg.slots, slotsL, List.cons_append, List.nil_append, ↓reduceIte, if_true, if_false, Bool.false_eq_true, List.length_map]
          refine c_take (bg (by omega) (by omega)) fun r hr => ?_
          obtain ⟨p, hpz, hpl⟩ := pick c r hr
          obtain ⟨z1, z2⟩ := brace_sz (p := p) (by omega)
          try simp (maxSteps := 4000000) only [wS, wE, wA, wG, wGs, wT, wTall, wTany, wTs, wO, wAnd, wOr, binW, cmpW, eqW, ixW, slW, biW, intW, lenW, tupleW, listW, meW, truW, augW, itW, List.getElem?_cons_zero, List.getElem?_cons_succ, List.set_cons_zero, List.set_cons_succ, md, true_and, keyD, Option.some.injEq, exists_and_left, exists_eq_left', exists_eq_left, decide_true, decide_false, Bool.and_true, Bool.true_and, Bool.not_true, Bool.not_false, atI_0, atI_1, atI_2, atI_3, wipeD, Tg.slots, slotsL, List.cons_append, List.nil_append, ↓reduceIte, if_true, if_false, Bool.false_eq_true, hpz]
          refine ⟨z1, z2, ?_⟩
          (try dsimp only); rw [wSs_nil]; dsimp only
          exact hN2 _ ⟨brace p, _, _, _, by rw [brace_len]; omega, rfl⟩
        · (try dsimp only); rw [wSs_cons]; simp (maxSteps := 4000000) only [wS, wE, wA, wG, wGs, wT, wTall, wTany, wTs, wO, wAnd, wOr, binW, cmpW, eqW, ixW, slW, biW, intW, lenW, tupleW, listW, meW, truW, augW, itW, List.getElem?_cons_zero, List.getElem?_cons_succ, List.set_cons_zero, List.set_cons_succ, md, true_and, keyD, Option.some.injEq, exists_and_left, exists_eq_left', exists_eq_left, decide_true, decide_false, Bool.and_true, Bool.true_and, Bool.not_true, Bool.not_false, atI_0, atI_1, atI_2, atI_3, wipeD, Tg.slots, slotsL, List.cons_append, List.nil_append, ↓reduceIte, if_true, if_false, Bool.false_eq_true]
          split
          · (try dsimp only); rw [wSs_cons]; simp (maxSteps := 4000000) only [wS, wE, wA, wG, wGs, wT, wTall, wTany, wTs, wO, wAnd, wOr, binW, cmpW, eqW, ixW, slW, biW, intW, lenW, tupleW, listW, meW, truW, augW, itW, List.getElem?_cons_zero, List.getElem?_cons_succ, List.set_cons_zero, List.set_cons_succ, md, true_and, keyD, Option.some.injEq, exists_and_left, exists_eq_left', exists_eq_left, decide_true, decide_false, Bool.and_true, Bool.true_and, Bool.not_true, Bool.not_false, atI_0, atI_1, atI_2, atI_3, wipeD, Tg.slots, slotsL, List.cons_append, List.nil_append, ↓reduceIte, if_true, if_false, Bool.false_eq_true]
            refine ⟨sz (by simp), c_take bg fun r hr => ?_⟩
            obtain ⟨d', hd', hin⟩ := atI_in (l := [D.str (Str.ofString "{"), .str (Str.ofString "}"), .str (Str.ofString "{}"), .str (Str.ofString "{x}"), .str (Str.ofString "{X}"), .str (Str.ofString "{a b}"), .str (Str.ofString "{{"), .str (Str.ofString "}}"), .str (Str.ofString " "), .str (Str.ofString "    ")]) (r := r) (by simp; omega)
            try simp (maxSteps := 4000000) only [wS, wE, wA, wG, wGs, wT, wTall, wTany, wTs, wO, wAnd, wOr, binW, cmpW, eqW, ixW, slW, biW, intW, lenW, tupleW, listW, meW, truW, augW, itW, List.getElem?_cons_zero, List.getElem?_cons_succ, List.set_cons_zero, List.set_cons_succ, md, true_and, keyD, Option.some.injEq, exists_and_left, exists_eq_left', exists_eq_left, decide_true, decide_false, Bool.and_true, Bool.true_and, Bool.not_true, Bool.not_false, atI_0, atI_1, atI_2, atI_3, wipeD, Tg.slots, slotsL, List.cons_append, List.nil_append, ↓reduceIte, if_true, if_false, Bool.false_eq_true, hd']
            (try dsimp only); rw [wSs_nil]; dsimp only
            (try dsimp only); rw [wSs_nil]; dsimp only
            have : ∃ z : Str, d' = .str z ∧ z.length ≤ 30 := by
              simp only [List.mem_cons, List.not_mem_nil, or_false] at hin
              rcases hin with rfl | rfl | rfl | rfl | rfl | rfl | rfl | rfl | rfl | rfl <;> exact ⟨_, rfl, by decide⟩
            obtain ⟨z, rfl, hz⟩ := this
            exact hN2 _ ⟨z, _, _, _, hz, rfl⟩
          · (try dsimp only); rw [wSs_cons]; simp (maxSteps := 4000000) only [wS, wE, wA, wG, wGs, wT, wTall, wTany, wTs, wO, wAnd, wOr, binW, cmpW, eqW, ixW, slW, biW, intW, lenW, tupleW, listW, meW, truW, augW, itW, List.getElem?_cons_zero, List.getElem?_cons_succ, List.set_cons_zero, List.set_cons_succ, md, true_and, keyD, Option.some.injEq, exists_and_left, exists_eq_left', exists_eq_left, decide_true, decide_false, Bool.and_true, Bool.true_and, Bool.not_true, Bool.not_false, atI_0, atI_1, atI_2, atI_3, wipeD, Tg.slots, slotsL, List.cons_append, List.nil_append, ↓reduceIte, if_true, if_false, Bool.false_eq_true, List.length_map]
            refine ite_both (fun _ c => ?_) ?_
            · have c : 0 < ps.length := by simpa using c
              (try dsimp only); rw [wSs_cons]; simp (maxSteps := 4000000) only [wS, wE, wA, wG, wGs, wT, wTall, wTany, wTs, wO, wAnd, wOr, binW, cmpW, eqW, ixW, slW, biW, intW, lenW, tupleW, listW, meW, truW, augW, itW, List.getElem?_cons_zero, List.getElem?_cons_succ, List.set_cons_zero, List.set_cons_succ, md, true_and, keyD, Option.some.injEq, exists_and_left, exists_eq_left', exists_eq_left, decide_true, decide_false, Bool.and_true, Bool.true_and, Bool.not_true, Bool.not_false, atI_0, atI_1, atI_2, atI_3, wipeD, Tg.slots, slotsL, List.cons_append, List.nil_append, ↓reduceIte, if_true, if_false, Bool.false_eq_true, List.length_map]
              refine c_take (bg (by omega) (by omega)) fun r hr => ?_
              obtain ⟨p, hpz, hpl⟩ := pick c r hr
              try simp (maxSteps := 4000000) only [wS, wE, wA, wG, wGs, wT, wTall, wTany, wTs, wO, wAnd, wOr, binW, cmpW, eqW, ixW, slW, biW, intW, lenW, tupleW, listW, meW, truW, augW, itW, List.getElem?_cons_zero, List.getElem?_cons_succ, List.set_cons_zero, List.set_cons_succ, md, true_and, keyD, Option.some.injEq, exists_and_left, exists_eq_left', exists_eq_left, decide_true, decide_false, Bool.and_true, Bool.true_and, Bool.not_true, Bool.not_false, atI_0, atI_1, atI_2, atI_3, wipeD, Tg.slots, slotsL, List.cons_append, List.nil_append, ↓reduceIte, if_true, if_false, Bool.false_eq_true, hpz]
              (try dsimp only); rw [wSs_cons]; simp (maxSteps := 4000000) only [wS, wE, wA, wG, wGs, wT, wTall, wTany, wTs, wO, wAnd, wOr, binW, cmpW, eqW, ixW, slW, biW, intW, lenW, tupleW, listW, meW, truW, augW, itW, List.getElem?_cons_zero, List.getElem?_cons_succ, List.set_cons_zero, List.set_cons_succ, md, true_and, keyD, Option.some.injEq, exists_and_left, exists_eq_left', exists_eq_left, decide_true, decide_false, Bool.and_true, Bool.true_and, Bool.not_true, Bool.not_false, atI_0, atI_1, atI_2, atI_3, wipeD, Tg.slots, slotsL, List.cons_append, List.nil_append, ↓reduceIte, if_true, if_false, Bool.false_eq_true]
              have l1 : (Str.ofString "{").length = 1 := by decide
              have l2 : (Str.ofString "}").length = 1 := by decide
              have l3 : (Str.ofString " }").length = 2 := by decide
              have l4 : (Str.ofString "{ ").length = 2 := by decide
              have l5 : (Str.ofString "(").length = 1 := by decide
              have l6 : (Str.ofString ")").length = 1 := by decide
              refine ⟨sz (by omega), sz (by omega), sz (by omega), sz (by rw [len_app]; omega), sz (by omega), sz (by rw [len_app]; omega), sz (by omega), sz (by rw [len_app]; omega), sz (by simp), ?_⟩
              (try dsimp only); rw [wSs_cons]; simp (maxSteps := 4000000) only [wS, wE, wA, wG, wGs, wT, wTall, wTany, wTs, wO, wAnd, wOr, binW, cmpW, eqW, ixW, slW, biW, intW, lenW, tupleW, listW, meW, truW, augW, itW, List.getElem?_cons_zero, List.getElem?_cons_succ, List.set_cons_zero, List.set_cons_succ, md, true_and, keyD, Option.some.injEq, exists_and_left, exists_eq_left', exists_eq_left, decide_true, decide_false, Bool.and_true, Bool.true_and, Bool.not_true, Bool.not_false, atI_0, atI_1, atI_2, atI_3, wipeD, Tg.slots, slotsL, List.cons_append, List.nil_append, ↓reduceIte, if_true, if_false, Bool.false_eq_true]
              refine c_take bg fun r2 hr2 => ?_
              obtain ⟨d', hd', hin⟩ := atI_in (l := [D.str (Str.ofString "{" ++ p), .str (p ++ Str.ofString "}"), .str (Str.ofString "{" ++ p ++ Str.ofString " }"), .str (Str.ofString "{ " ++ p ++ Str.ofString "}"), .str (Str.ofString "(" ++ p ++ Str.ofString ")")]) (r := r2) (by simp; omega)
              try simp (maxSteps := 4000000) only [wS, wE, wA, wG, wGs, wT, wTall, wTany, wTs, wO, wAnd, wOr, binW, cmpW, eqW, ixW, slW, biW, intW, lenW, tupleW, listW, meW, truW, augW, itW, List.getElem?_cons_zero, List.getElem?_cons_succ, List.set_cons_zero, List.set_cons_succ, md, true_and, keyD, Option.some.injEq, exists_and_left, exists_eq_left', exists_eq_left, decide_true, decide_false, Bool.and_true, Bool.true_and, Bool.not_true, Bool.not_false, atI_0, atI_1, atI_2, atI_3, wipeD, Tg.slots, slotsL, List.cons_append, List.nil_append, ↓reduceIte, if_true, if_false, Bool.false_eq_true, hd']
              (try dsimp only); rw [wSs_nil]; dsimp only
              (try dsimp only); rw [wSs_nil]; dsimp only
              (try dsimp only); rw [wSs_nil]; dsimp only
              have : ∃ z : Str, d' = .str z ∧ z.length ≤ 30 := by
                simp only [List.mem_cons, List.not_mem_nil, or_false] at hin
                rcases hin with rfl | rfl | rfl | rfl | rfl <;> refine ⟨_, rfl, ?_⟩ <;> simp only [len_app] <;> omega
              obtain ⟨z, rfl, hz⟩ := this
              exact hN2 _ ⟨z, _, _, _, hz, rfl⟩
            · (try dsimp only); rw [wSs_nil]; dsimp only
              (try dsimp only); rw [wSs_nil]; dsimp only
              exact hN2 _ ⟨pc, _, _, _, by omega, rfl⟩
end
end DL.K09
namespace DL.K09
open PySem PySem.Spec PyProof.Rows L2 DL
section
variable {P : Program} {w : World} {Q : D → Prop} {QE : DX → Prop} {E : DX → DEnv → Prop}
theorem w_argument {ds : List D} (h : sArg P w ds Q QE) : wSs (Γ P w) E b_law_argument (zz Q) (ent0 c_law_argument.N ds) := by
  obtain ⟨ps, rfl, hp, hp2, q⟩ := h
  show wSs (Γ P w) E b_law_argument _ [.sh (poolL.d P w), .sh (tS ps), .un, .un, .un, .un, .un]
  unfold b_law_argument
  (try dsimp only); rw [wSs_cons]; simp (maxSteps := 4000000) only [wS, wE, wA, wG, wGs, wT, wTall, wTany, wTs, wO, wAnd, wOr, binW, cmpW, eqW, ixW, slW, biW, intW, lenW, tupleW, listW, meW, truW, augW, itW, List.getElem?_cons_zero, List.getElem?_cons_succ, List.set_cons_zero, List.set_cons_succ, md, true_and, keyD, Option.some.injEq, exists_and_left, exists_eq_left', exists_eq_left, decide_true, decide_false, Bool.and_true, Bool.true_and, Bool.not_true, Bool.not_false, atI_0, atI_1, atI_2, atI_3, wipeD, Tg.slots, slotsL, List.cons_append, List.nil_append, ↓reduceIte, if_true, if_false, Bool.false_eq_true]
  have hL0 : 0 < (Str.ofString "abcxyz019 .;:'{}+-=<>|*").length ∧ (Str.ofString "abcxyz019 .;:'{}+-=<>|*").length ≤ 100 := by decide +kernel
  generalize Str.ofString "abcxyz019 .;:'{}+-=<>|*" = L at hL0 ⊢
  obtain ⟨hL0, hL⟩ := hL0
  (try dsimp only); rw [wSs_cons]; simp (maxSteps := 4000000) only [wS, wE, wA, wG, wGs, wT, wTall, wTany, wTs, wO, wAnd, wOr, binW, cmpW, eqW, ixW, slW, biW, intW, lenW, tupleW, listW, meW, truW, augW, itW, List.getElem?_cons_zero, List.getElem?_cons_succ, List.set_cons_zero, List.set_cons_succ, md, true_and, keyD, Option.some.injEq, exists_and_left, exists_eq_left', exists_eq_left, decide_true, decide_false, Bool.and_true, Bool.true_and, Bool.not_true, Bool.not_false, atI_0, atI_1, atI_2, atI_3, wipeD, Tg.slots, slotsL, List.cons_append, List.nil_append, ↓reduceIte, if_true, if_false, Bool.false_eq_true]
  have e0 : (Str.ofString "").length = 0 := by decide
  refine seq_i (fun ρ => ∃ (s : Str) (s4 s5 s6 : Sl), s.length ≤ 120 ∧ ρ = [.sh (poolL.d P w), .sh (tS ps), .sh (.str L), .sh (.str s), s4, s5, s6]) ?_ fun N hN => ?_
  · rintro ρ ⟨s, s4, s5, s6, hs, rfl⟩
    (try dsimp only); rw [wSs_cons]; simp (maxSteps := 4000000) only [wS, wE, wA, wG, wGs, wT, wTall, wTany, wTs, wO, wAnd, wOr, binW, cmpW, eqW, ixW, slW, biW, intW, lenW, tupleW, listW, meW, truW, augW, itW, List.getElem?_cons_zero, List.getElem?_cons_succ, List.set_cons_zero, List.set_cons_succ, md, true_and, keyD, Option.some.injEq, exists_and_left, exists_eq_left', exists_eq_left, decide_true, decide_false, Bool.and_true, Bool.true_and, Bool.not_true, Bool.not_false, atI_0, atI_1, atI_2, atI_3, wipeD, Tg.slots, slotsL, List.cons_append, List.nil_append, ↓reduceIte, if_true, if_false, Bool.false_eq_true]
    refine ⟨sz (by omega), sz (Nat.le_trans cut_to (by decide)), ?_⟩
    have hst : (Txt.stripChars (cutS s none (some 40)) (Str.ofString " ")).length ≤ 40 := Nat.le_trans (PyProof.Rows.len_stripBy _ _ _ _) (cut_to (n := 40))
    generalize Txt.stripChars (cutS s none (some 40)) (Str.ofString " ") = z at hst ⊢
    (try dsimp only); rw [wSs_cons]; simp (maxSteps := 4000000) only [wS, wE, wA, wG, wGs, wT, wTall, wTany, wTs, wO, wAnd, wOr, binW, cmpW, eqW, ixW, slW, biW, intW, lenW, tupleW, listW, meW, truW, augW, itW, List.getElem?_cons_zero, List.getElem?_cons_succ, List.set_cons_zero, List.set_cons_succ, md, true_and, keyD, Option.some.injEq, exists_and_left, exists_eq_left', exists_eq_left, decide_true, decide_false, Bool.and_true, Bool.true_and, Bool.not_true, Bool.not_false, atI_0, atI_1, atI_2, atI_3, wipeD, Tg.slots, slotsL, List.cons_append, List.nil_append, ↓reduceIte, if_true, if_false, Bool.false_eq_true]
    split
    · (try dsimp only); rw [wSs_cons]; simp (maxSteps := 4000000) only [wS, wE, wA, wG, wGs, wT, wTall, wTany, wTs, wO, wAnd, wOr, binW, cmpW, eqW, ixW, slW, biW, intW, lenW, tupleW, listW, meW, truW, augW, itW, List.getElem?_cons_zero, List.getElem?_cons_succ, List.set_cons_zero, List.set_cons_succ, md, true_and, keyD, Option.some.injEq, exists_and_left, exists_eq_left', exists_eq_left, decide_true, decide_false, Bool.and_true, Bool.true_and, Bool.not_true, Bool.not_false, atI_0, atI_1, atI_2, atI_3, wipeD, Tg.slots, slotsL, List.cons_append, List.nil_append, ↓reduceIte, if_true, if_false, Bool.false_eq_true]
      exact ⟨nofun, q _ (by decide)⟩
    · (try dsimp only); rw [wSs_nil]; dsimp only
      (try dsimp only); rw [wSs_cons]; simp (maxSteps := 4000000) only [wS, wE, wA, wG, wGs, wT, wTall, wTany, wTs, wO, wAnd, wOr, binW, cmpW, eqW, ixW, slW, biW, intW, lenW, tupleW, listW, meW, truW, augW, itW, List.getElem?_cons_zero, List.getElem?_cons_succ, List.set_cons_zero, List.set_cons_succ, md, true_and, keyD, Option.some.injEq, exists_and_left, exists_eq_left', exists_eq_left, decide_true, decide_false, Bool.and_true, Bool.true_and, Bool.not_true, Bool.not_false, atI_0, atI_1, atI_2, atI_3, wipeD, Tg.slots, slotsL, List.cons_append, List.nil_append, ↓reduceIte, if_true, if_false, Bool.false_eq_true]
      exact ⟨nofun, q _ (by omega)⟩
  · try simp (maxSteps := 4000000) only [wS, wE, wA, wG, wGs, wT, wTall, wTany, wTs, wO, wAnd, wOr, binW, cmpW, eqW, ixW, slW, biW, intW, lenW, tupleW, listW, meW, truW, augW, itW, List.getElem?_cons_zero, List.getElem?_cons_succ, List.set_cons_zero, List.set_cons_succ, md, true_and, keyD, Option.some.injEq, exists_and_left, exists_eq_left', exists_eq_left, decide_true, decide_false, Bool.and_true, Bool.true_and, Bool.not_true, Bool.not_false, atI_0, atI_1, atI_2, atI_3, wipeD, Tg.slots, slotsL, List.cons_append, List.nil_append, ↓reduceIte, if_true, if_false, Bool.false_eq_true]
    refine c_take bg fun r hr => ?_
    try simp (maxSteps := 4000000) only [wS, wE, wA, wG, wGs, wT, wTall, wTany, wTs, wO, wAnd, wOr, binW, cmpW, eqW, ixW, slW, biW, intW, lenW, tupleW, listW, meW, truW, augW, itW, List.getElem?_cons_zero, List.getElem?_cons_succ, List.set_cons_zero, List.set_cons_succ, md, true_and, keyD, Option.some.injEq, exists_and_left, exists_eq_left', exists_eq_left, decide_true, decide_false, Bool.and_true, Bool.true_and, Bool.not_true, Bool.not_false, atI_0, atI_1, atI_2, atI_3, wipeD, Tg.slots, slotsL, List.cons_append, List.nil_append, ↓reduceIte, if_true, if_false, Bool.false_eq_true]
    have er : (1 + (r : Int)) = ((1 + r : Nat) : Int) := by omega
    rw [er]
    refine ⟨(small62 (by omega)).1, (small62 (by omega)).2, ?_⟩
    rw [Int.toNat_natCast]
    refine forL_ind (fun ds ρ => ∃ (s : Str) (k : Nat) (s4 s5 s6 : Sl), k + ds.length ≤ 4 ∧ s.length ≤ 30 * k ∧ ρ = [.sh (poolL.d P w), .sh (tS ps), .sh (.str L), .sh (.str s), s4, s5, s6]) ?_ ?_ _ _ ⟨_, 0, .un, .un, .un, by rw [List.length_map, List.length_range]; omega, by rw [e0]; omega, rfl⟩
    · rintro ρ ⟨s, k, s4, s5, s6, hk, hs, rfl⟩
      exact hN _ ⟨s, _, _, _, by have : k ≤ 4 := by have hk' : k + 0 ≤ 4 := hk
                                                    omega
                                 omega, rfl⟩
    · rintro d ds ρ ⟨s, k, s4, s5, s6, hk, hs, rfl⟩ N hN
      rw [List.length_cons] at hk
      try simp (maxSteps := 4000000) only [wS, wE, wA, wG, wGs, wT, wTall, wTany, wTs, wO, wAnd, wOr, binW, cmpW, eqW, ixW, slW, biW, intW, lenW, tupleW, listW, meW, truW, augW, itW, List.getElem?_cons_zero, List.getElem?_cons_succ, List.set_cons_zero, List.set_cons_succ, md, true_and, keyD, Option.some.injEq, exists_and_left, exists_eq_left', exists_eq_left, decide_true, decide_false, Bool.and_true, Bool.true_and, Bool.not_true, Bool.not_false, atI_0, atI_1, atI_2, atI_3, wipeD, Tg.slots, slotsL, List.cons_append, List.nil_append, ↓reduceIte, if_true, if_false, Bool.false_eq_true]
      (try dsimp only); rw [wSs_cons]; simp (maxSteps := 4000000) only [wS, wE, wA, wG, wGs, wT, wTall, wTany, wTs, wO, wAnd, wOr, binW, cmpW, eqW, ixW, slW, biW, intW, lenW, tupleW, listW, meW, truW, augW, itW, List.getElem?_cons_zero, List.getElem?_cons_succ, List.set_cons_zero, List.set_cons_succ, md, true_and, keyD, Option.some.injEq, exists_and_left, exists_eq_left', exists_eq_left, decide_true, decide_false, Bool.and_true, Bool.true_and, Bool.not_true, Bool.not_false, atI_0, atI_1, atI_2, atI_3, wipeD, Tg.slots, slotsL, List.cons_append, List.nil_append, ↓reduceIte, if_true, if_false, Bool.false_eq_true]
      refine c_take bg fun m hm => ?_
      try simp (maxSteps := 4000000) only [wS, wE, wA, wG, wGs, wT, wTall, wTany, wTs, wO, wAnd, wOr, binW, cmpW, eqW, ixW, slW, biW, intW, lenW, tupleW, listW, meW, truW, augW, itW, List.getElem?_cons_zero, List.getElem?_cons_succ, List.set_cons_zero, List.set_cons_succ, md, true_and, keyD, Option.some.injEq, exists_and_left, exists_eq_left', exists_eq_left, decide_true, decide_false, Bool.and_true, Bool.true_and, Bool.not_true, Bool.not_false, atI_0, atI_1, atI_2, atI_3, wipeD, Tg.slots, slotsL, List.cons_append, List.nil_append, ↓reduceIte, if_true, if_false, Bool.false_eq_true]
      refine ⟨(small62 (by omega)).1, (small62 (by omega)).2, ?_⟩
      rw [Int.toNat_natCast]
      refine chars_lc (n := 94) (L := L) (i := 0) (by omega) (fun acc j R' hlt hR => ?_) fun l hl hx => ?_
      · simp (maxSteps := 4000000) only [e_law_argument_0, wS, wE, wA, wG, wGs, wT, wTall, wTany, wTs, wO, wAnd, wOr, binW, cmpW, eqW, ixW, slW, biW, intW, lenW, tupleW, listW, meW, truW, augW, itW, List.getElem?_cons_zero, List.getElem?_cons_succ, List.set_cons_zero, List.set_cons_succ, md, true_and, keyD, Option.some.injEq, exists_and_left, exists_eq_left', exists_eq_left, decide_true, decide_false, Bool.and_true, Bool.true_and, Bool.not_true, Bool.not_false, atI_0, atI_1, atI_2, atI_3, wipeD, Tg.slots, slotsL, List.cons_append, List.nil_append, ↓reduceIte, if_true, if_false, Bool.false_eq_true]
        refine ⟨sz (by omega), c_take (bg (by omega) (by omega)) fun r2 hr2 => ?_⟩
        obtain ⟨c, hc⟩ := atI_chr (z := L) (r := r2) (by omega)
        try simp (maxSteps := 4000000) only [wS, wE, wA, wG, wGs, wT, wTall, wTany, wTs, wO, wAnd, wOr, binW, cmpW, eqW, ixW, slW, biW, intW, lenW, tupleW, listW, meW, truW, augW, itW, List.getElem?_cons_zero, List.getElem?_cons_succ, List.set_cons_zero, List.set_cons_succ, md, true_and, keyD, Option.some.injEq, exists_and_left, exists_eq_left', exists_eq_left, decide_true, decide_false, Bool.and_true, Bool.true_and, Bool.not_true, Bool.not_false, atI_0, atI_1, atI_2, atI_3, wipeD, Tg.slots, slotsL, List.cons_append, List.nil_append, ↓reduceIte, if_true, if_false, Bool.false_eq_true]
        exact ⟨sz (by omega), c, hc, hlt, hR _ (str1 c)⟩
      · refine join_i (n := 4) (c := 1) (R := fun d' => wSs (Γ P w) E _ _ [.sh (poolL.d P w), .sh (tS ps), .sh (.str L), .sh (.str s), .sh d, .sh d', s6]) hx (by omega) (by decide) fun pc hpc => ?_
        refine seq_i (fun ρ => ∃ (pc : Str), pc.length ≤ 30 ∧ ρ = [.sh (poolL.d P w), .sh (tS ps), .sh (.str L), .sh (.str s), .sh d, .sh (.str pc), s6]) ?_ fun N2 hN2 => ?_
        · rintro ρ ⟨pc, hpc, rfl⟩
          (try dsimp only); rw [wSs_cons]; simp (maxSteps := 4000000) only [wS, wE, wA, wG, wGs, wT, wTall, wTany, wTs, wO, wAnd, wOr, binW, cmpW, eqW, ixW, slW, biW, intW, lenW, tupleW, listW, meW, truW, augW, itW, List.getElem?_cons_zero, List.getElem?_cons_succ, List.set_cons_zero, List.set_cons_succ, md, true_and, keyD, Option.some.injEq, exists_and_left, exists_eq_left', exists_eq_left, decide_true, decide_false, Bool.and_true, Bool.true_and, Bool.not_true, Bool.not_false, atI_0, atI_1, atI_2, atI_3, wipeD, Tg.slots, slotsL, List.cons_append, List.nil_append, ↓reduceIte, if_true, if_false, Bool.false_eq_true]
          refine ⟨sz (by omega), ?_⟩
          (try dsimp only); rw [wSs_nil]; dsimp only
          exact hN _ ⟨s ++ pc, k + 1, _, _, _, by omega, by rw [len_app]; omega, rfl⟩
        · simp (maxSteps := 4000000) only [wS, wE, wA, wG, wGs, wT, wTall, wTany, wTs, wO, wAnd, wOr, binW, cmpW, eqW, ixW, slW, biW, intW, lenW, tupleW, listW, meW, truW, augW, itW, List.getElem?_cons_zero, List.getElem?_cons_succ, List.set_cons_zero, List.set_cons_succ, md, true_and, keyD, Option.some.injEq, exists_and_left, exists_eq_left', exists_eq_left, decide_true, decide_false, Bool.and_true, Bool.true_and, Bool.not_true, Bool.not_false, atI_0, atI_1, atI_2, atI_3, wipeD, Tg.slots, slotsL, List.cons_append, List.nil_append, ↓reduceIte, if_true, if_false, Bool.false_eq_true, List.length_map]
          split
          · rename_i c
            have c : 0 < ps.length := by simpa using c
            refine c_take bg fun r3 hr3 => ?_
            try simp (maxSteps := 4000000) only [wS, wE, wA, wG, wGs, wT, wTall, wTany, wTs, wO, wAnd, wOr, binW, cmpW, eqW, ixW, slW, biW, intW, lenW, tupleW, listW, meW, truW, augW, itW, List.getElem?_cons_zero, List.getElem?_cons_succ, List.set_cons_zero, List.set_cons_succ, md, true_and, keyD, Option.some.injEq, exists_and_left, exists_eq_left', exists_eq_left, decide_true, decide_false, Bool.and_true, Bool.true_and, Bool.not_true, Bool.not_false, atI_0, atI_1, atI_2, atI_3, wipeD, Tg.slots, slotsL, List.cons_append, List.nil_append, ↓reduceIte, if_true, if_false, Bool.false_eq_true]
            split
            · (try dsimp only); rw [wSs_cons]; simp (maxSteps := 4000000) only [wS, wE, wA, wG, wGs, wT, wTall, wTany, wTs, wO, wAnd, wOr, binW, cmpW, eqW, ixW, slW, biW, intW, lenW, tupleW, listW, meW, truW, augW, itW, List.getElem?_cons_zero, List.getElem?_cons_succ, List.set_cons_zero, List.set_cons_succ, md, true_and, keyD, Option.some.injEq, exists_and_left, exists_eq_left', exists_eq_left, decide_true, decide_false, Bool.and_true, Bool.true_and, Bool.not_true, Bool.not_false, atI_0, atI_1, atI_2, atI_3, wipeD, Tg.slots, slotsL, List.cons_append, List.nil_append, ↓reduceIte, if_true, if_false, Bool.false_eq_true, List.length_map]
              refine c_take (bg (by omega) (by omega)) fun r hr => ?_
              have hr' : r < ps.length := by omega
              have hpz := atI_str (List.getElem?_eq_getElem hr')
              have hpl := hp2 _ (List.getElem_mem hr')
              obtain ⟨z1, z2⟩ := brace_sz (p := ps[r]) (by omega)
              try simp (maxSteps := 4000000) only [wS, wE, wA, wG, wGs, wT, wTall, wTany, wTs, wO, wAnd, wOr, binW, cmpW, eqW, ixW, slW, biW, intW, lenW, tupleW, listW, meW, truW, augW, itW, List.getElem?_cons_zero, List.getElem?_cons_succ, List.set_cons_zero, List.set_cons_succ, md, true_and, keyD, Option.some.injEq, exists_and_left, exists_eq_left', exists_eq_left, decide_true, decide_false, Bool.and_true, Bool.true_and, Bool.not_true, Bool.not_false, atI_0, atI_1, atI_2, atI_3, wipeD, Tg.slots, slotsL, List.cons_append, List.nil_append, ↓reduceIte, if_true, if_false, Bool.false_eq_true, hpz]
              refine ⟨z1, z2, ?_⟩
              (try dsimp only); rw [wSs_nil]; dsimp only
              exact hN2 _ ⟨brace ps[r], by rw [brace_len]; omega, rfl⟩
            · (try dsimp only); rw [wSs_nil]; dsimp only
              exact hN2 _ ⟨pc, by omega, rfl⟩
          · (try dsimp only); rw [wSs_nil]; dsimp only
            exact hN2 _ ⟨pc, by omega, rfl⟩
theorem w_params {ds : List D} (h : sParams P w ds Q QE) : wSs (Γ P w) E b_law_params (zz Q) (ent0 c_law_params.N ds) := by
  obtain ⟨rfl, q⟩ := h
  show wSs (Γ P w) E b_law_params _ [.sh (poolL.d P w), .un, .un, .un]
  unfold b_law_params
  (try dsimp only); rw [wSs_cons]; simp (maxSteps := 4000000) only [wS, wE, wA, wG, wGs, wT, wTall, wTany, wTs, wO, wAnd, wOr, binW, cmpW, eqW, ixW, slW, biW, intW, lenW, tupleW, listW, meW, truW, augW, itW, List.getElem?_cons_zero, List.getElem?_cons_succ, List.set_cons_zero, List.set_cons_succ, md, true_and, keyD, Option.some.injEq, exists_and_left, exists_eq_left', exists_eq_left, decide_true, decide_false, Bool.and_true, Bool.true_and, Bool.not_true, Bool.not_false, atI_0, atI_1, atI_2, atI_3, wipeD, Tg.slots, slotsL, List.cons_append, List.nil_append, ↓reduceIte, if_true, if_false, Bool.false_eq_true]
  refine ⟨sz (by simp), ?_⟩
  (try dsimp only); rw [wSs_cons]; simp (maxSteps := 4000000) only [wS, wE, wA, wG, wGs, wT, wTall, wTany, wTs, wO, wAnd, wOr, binW, cmpW, eqW, ixW, slW, biW, intW, lenW, tupleW, listW, meW, truW, augW, itW, List.getElem?_cons_zero, List.getElem?_cons_succ, List.set_cons_zero, List.set_cons_succ, md, true_and, keyD, Option.some.injEq, exists_and_left, exists_eq_left', exists_eq_left, decide_true, decide_false, Bool.and_true, Bool.true_and, Bool.not_true, Bool.not_false, atI_0, atI_1, atI_2, atI_3, wipeD, Tg.slots, slotsL, List.cons_append, List.nil_append, ↓reduceIte, if_true, if_false, Bool.false_eq_true]
  refine c_take bg fun r hr => ?_
  try simp (maxSteps := 4000000) only [wS, wE, wA, wG, wGs, wT, wTall, wTany, wTs, wO, wAnd, wOr, binW, cmpW, eqW, ixW, slW, biW, intW, lenW, tupleW, listW, meW, truW, augW, itW, List.getElem?_cons_zero, List.getElem?_cons_succ, List.set_cons_zero, List.set_cons_succ, md, true_and, keyD, Option.some.injEq, exists_and_left, exists_eq_left', exists_eq_left, decide_true, decide_false, Bool.and_true, Bool.true_and, Bool.not_true, Bool.not_false, atI_0, atI_1, atI_2, atI_3, wipeD, Tg.slots, slotsL, List.cons_append, List.nil_append, ↓reduceIte, if_true, if_false, Bool.false_eq_true]
  refine ⟨(small62 (by omega)).1, (small62 (by omega)).2, ?_⟩
  rw [Int.toNat_natCast]
  refine forL_ind (fun ds ρ => ∃ (ws : List Str) (s2 s3 : Sl), ws.length + ds.length ≤ 3 ∧ (∀ p ∈ ws, p.length ≤ 16) ∧ ρ = [.sh (poolL.d P w), .own none (ws.map .str), s2, s3]) ?_ ?_ _ _ ⟨[], .un, .un, by rw [List.length_map, List.length_range]; simp; omega, by simp, rfl⟩
  · rintro ρ ⟨ws, s2, s3, hk, hw, rfl⟩
    (try dsimp only); rw [wSs_cons]; simp (maxSteps := 4000000) only [wS, wE, wA, wG, wGs, wT, wTall, wTany, wTs, wO, wAnd, wOr, binW, cmpW, eqW, ixW, slW, biW, intW, lenW, tupleW, listW, meW, truW, augW, itW, List.getElem?_cons_zero, List.getElem?_cons_succ, List.set_cons_zero, List.set_cons_succ, md, true_and, keyD, Option.some.injEq, exists_and_left, exists_eq_left', exists_eq_left, decide_true, decide_false, Bool.and_true, Bool.true_and, Bool.not_true, Bool.not_false, atI_0, atI_1, atI_2, atI_3, wipeD, Tg.slots, slotsL, List.cons_append, List.nil_append, ↓reduceIte, if_true, if_false, Bool.false_eq_true]
    exact ⟨nofun, q ws (by have hk' : ws.length + 0 ≤ 3 := hk
                           omega) hw⟩
  · rintro d ds ρ ⟨ws, s2, s3, hk, hw, rfl⟩ N hN
    rw [List.length_cons] at hk
    try simp (maxSteps := 4000000) only [wS, wE, wA, wG, wGs, wT, wTall, wTany, wTs, wO, wAnd, wOr, binW, cmpW, eqW, ixW, slW, biW, intW, lenW, tupleW, listW, meW, truW, augW, itW, List.getElem?_cons_zero, List.getElem?_cons_succ, List.set_cons_zero, List.set_cons_succ, md, true_and, keyD, Option.some.injEq, exists_and_left, exists_eq_left', exists_eq_left, decide_true, decide_false, Bool.and_true, Bool.true_and, Bool.not_true, Bool.not_false, atI_0, atI_1, atI_2, atI_3, wipeD, Tg.slots, slotsL, List.cons_append, List.nil_append, ↓reduceIte, if_true, if_false, Bool.false_eq_true]
    (try dsimp only); rw [wSs_cons]; simp (maxSteps := 4000000) only [wS, wE, wA, wG, wGs, wT, wTall, wTany, wTs, wO, wAnd, wOr, binW, cmpW, eqW, ixW, slW, biW, intW, lenW, tupleW, listW, meW, truW, augW, itW, List.getElem?_cons_zero, List.getElem?_cons_succ, List.set_cons_zero, List.set_cons_succ, md, true_and, keyD, Option.some.injEq, exists_and_left, exists_eq_left', exists_eq_left, decide_true, decide_false, Bool.and_true, Bool.true_and, Bool.not_true, Bool.not_false, atI_0, atI_1, atI_2, atI_3, wipeD, Tg.slots, slotsL, List.cons_append, List.nil_append, ↓reduceIte, if_true, if_false, Bool.false_eq_true]
    refine c_word (by omega) fun s hs => ⟨rfl, ?_⟩
    refine seq_i (fun ρ => ∃ (s : Str), s.length ≤ 16 ∧ ρ = [.sh (poolL.d P w), .own none (ws.map .str), .sh d, .sh (.str s)]) ?_ fun N2 hN2 => ?_
    · rintro ρ ⟨s, hs, rfl⟩
      (try dsimp only); rw [wSs_cons]; simp (maxSteps := 4000000) only [wS, wE, wA, wG, wGs, wT, wTall, wTany, wTs, wO, wAnd, wOr, binW, cmpW, eqW, ixW, slW, biW, intW, lenW, tupleW, listW, meW, truW, augW, itW, List.getElem?_cons_zero, List.getElem?_cons_succ, List.set_cons_zero, List.set_cons_succ, md, true_and, keyD, Option.some.injEq, exists_and_left, exists_eq_left', exists_eq_left, decide_true, decide_false, Bool.and_true, Bool.true_and, Bool.not_true, Bool.not_false, atI_0, atI_1, atI_2, atI_3, wipeD, Tg.slots, slotsL, List.cons_append, List.nil_append, ↓reduceIte, if_true, if_false, Bool.false_eq_true, inW, flatD, all_flat, any_str]
      split
      · (try dsimp only); rw [wSs_cons]; simp (maxSteps := 4000000) only [wS, wE, wA, wG, wGs, wT, wTall, wTany, wTs, wO, wAnd, wOr, binW, cmpW, eqW, ixW, slW, biW, intW, lenW, tupleW, listW, meW, truW, augW, itW, List.getElem?_cons_zero, List.getElem?_cons_succ, List.set_cons_zero, List.set_cons_succ, md, true_and, keyD, Option.some.injEq, exists_and_left, exists_eq_left', exists_eq_left, decide_true, decide_false, Bool.and_true, Bool.true_and, Bool.not_true, Bool.not_false, atI_0, atI_1, atI_2, atI_3, wipeD, Tg.slots, slotsL, List.cons_append, List.nil_append, ↓reduceIte, if_true, if_false, Bool.false_eq_true]
        refine ⟨sz' (by rw [List.length_map]; omega), ?_⟩
        (try dsimp only); rw [wSs_nil]; dsimp only
        (try dsimp only); rw [wSs_nil]; dsimp only
        exact hN _ ⟨ws ++ [s], _, _, by rw [List.length_append, List.length_singleton]; omega, fun p hp => by
          rcases List.mem_append.mp hp with z | z
          · exact hw p z
          · rw [List.mem_singleton.mp z]; exact hs, by rw [List.map_append]; rfl⟩
      · (try dsimp only); rw [wSs_nil]; dsimp only
        (try dsimp only); rw [wSs_nil]; dsimp only
        exact hN _ ⟨ws, _, _, by omega, hw, rfl⟩
    · simp (maxSteps := 4000000) only [wS, wE, wA, wG, wGs, wT, wTall, wTany, wTs, wO, wAnd, wOr, binW, cmpW, eqW, ixW, slW, biW, intW, lenW, tupleW, listW, meW, truW, augW, itW, List.getElem?_cons_zero, List.getElem?_cons_succ, List.set_cons_zero, List.set_cons_succ, md, true_and, keyD, Option.some.injEq, exists_and_left, exists_eq_left', exists_eq_left, decide_true, decide_false, Bool.and_true, Bool.true_and, Bool.not_true, Bool.not_false, atI_0, atI_1, atI_2, atI_3, wipeD, Tg.slots, slotsL, List.cons_append, List.nil_append, ↓reduceIte, if_true, if_false, Bool.false_eq_true, List.length_map]
      split
      · rename_i c
        have c : 0 < ws.length := by simpa using c
        refine c_take bg fun r3 hr3 => ?_
        try simp (maxSteps := 4000000) only [wS, wE, wA, wG, wGs, wT, wTall, wTany, wTs, wO, wAnd, wOr, binW, cmpW, eqW, ixW, slW, biW, intW, lenW, tupleW, listW, meW, truW, augW, itW, List.getElem?_cons_zero, List.getElem?_cons_succ, List.set_cons_zero, List.set_cons_succ, md, true_and, keyD, Option.some.injEq, exists_and_left, exists_eq_left', exists_eq_left, decide_true, decide_false, Bool.and_true, Bool.true_and, Bool.not_true, Bool.not_false, atI_0, atI_1, atI_2, atI_3, wipeD, Tg.slots, slotsL, List.cons_append, List.nil_append, ↓reduceIte, if_true, if_false, Bool.false_eq_true]
        split
        · cases ws with
          | nil => cases c
          | cons w0 wr =>
            have h0 := hw w0 List.mem_cons_self
            (try dsimp only); rw [wSs_cons]; simp (maxSteps := 4000000) only [wS, wE, wA, wG, wGs, wT, wTall, wTany, wTs, wO, wAnd, wOr, binW, cmpW, eqW, ixW, slW, biW, intW, lenW, tupleW, listW, meW, truW, augW, itW, List.getElem?_cons_zero, List.getElem?_cons_succ, List.set_cons_zero, List.set_cons_succ, md, true_and, keyD, Option.some.injEq, exists_and_left, exists_eq_left', exists_eq_left, decide_true, decide_false, Bool.and_true, Bool.true_and, Bool.not_true, Bool.not_false, atI_0, atI_1, atI_2, atI_3, wipeD, Tg.slots, slotsL, List.cons_append, List.nil_append, ↓reduceIte, if_true, if_false, Bool.false_eq_true, List.map_cons]
            refine c_take bg fun r4 hr4 => ?_
            have hl8 : (Str.ofString "abcdefgh").length = 8 := by decide
            obtain ⟨cc, hc⟩ := atI_chr (z := Str.ofString "abcdefgh") (r := r4) (by rw [hl8]; omega)
            try simp (maxSteps := 4000000) only [wS, wE, wA, wG, wGs, wT, wTall, wTany, wTs, wO, wAnd, wOr, binW, cmpW, eqW, ixW, slW, biW, intW, lenW, tupleW, listW, meW, truW, augW, itW, List.getElem?_cons_zero, List.getElem?_cons_succ, List.set_cons_zero, List.set_cons_succ, md, true_and, keyD, Option.some.injEq, exists_and_left, exists_eq_left', exists_eq_left, decide_true, decide_false, Bool.and_true, Bool.true_and, Bool.not_true, Bool.not_false, atI_0, atI_1, atI_2, atI_3, wipeD, Tg.slots, slotsL, List.cons_append, List.nil_append, ↓reduceIte, if_true, if_false, Bool.false_eq_true]
            have h1 : (⟨#[cc]⟩ : Str).length = 1 := rfl
            refine ⟨by rw [hl8]; exact sz (by omega), cc, hc, sz (by omega), sz (by rw [len_app]; omega), ?_⟩
            (try dsimp only); rw [wSs_nil]; dsimp only
            exact hN2 _ ⟨_, Nat.le_trans (cut_to (n := 8)) (by decide), rfl⟩
        · (try dsimp only); rw [wSs_nil]; dsimp only
          exact hN2 _ ⟨s, hs, rfl⟩
      · (try dsimp only); rw [wSs_nil]; dsimp only
        exact hN2 _ ⟨s, hs, rfl⟩
end
end DL.K09
namespace DL.K09
open PySem PySem.Spec PyProof.Rows L2 DL
section
variable {P : Program} {w : World} {Q : D → Prop} {QE : DX → Prop} {E : DX → DEnv → Prop} {G : Nat → FSp}
abbrev zN (Q : D → Prop) : EndD := { nx := fun _ => False, rt := fun d _ => notSeq d = false ∧ Q d, rtF := true }
theorem w_pool {ds : List D} (h : nPool ds Q) : wSs G E b_law_pool (zN Q) (ent0 c_law_pool.N ds) := by
  obtain ⟨cs, rfl, q⟩ := h
  show wSs G E b_law_pool _ [.sh (.lst (cs.map .int)), .un, .un, .un]
  unfold b_law_pool
  (try dsimp only); rw [wSs_cons]; simp (maxSteps := 4000000) only [wS, wE, wA, wG, wGs, wT, wTall, wTany, wTs, wO, wAnd, wOr, binW, cmpW, eqW, ixW, slW, biW, intW, lenW, tupleW, listW, meW, truW, augW, itW, List.getElem?_cons_zero, List.getElem?_cons_succ, List.set_cons_zero, List.set_cons_succ, md, true_and, keyD, Option.some.injEq, exists_and_left, exists_eq_left', exists_eq_left, decide_true, decide_false, Bool.and_true, Bool.true_and, Bool.not_true, Bool.not_false, atI_0, atI_1, atI_2, atI_3, wipeD, Tg.slots, slotsL, List.cons_append, List.nil_append, ↓reduceIte, if_true, if_false, Bool.false_eq_true]
  refine seq_i (fun ρ => ∃ (seed : Int) (s2 : Sl), ρ = [.sh (.lst (cs.map .int)), .sh (.int seed), s2, .un]) ?_ fun N hN => ?_
  · rintro ρ ⟨seed, s2, rfl⟩
    (try dsimp only); rw [wSs_cons]; simp (maxSteps := 4000000) only [wS, wE, wA, wG, wGs, wT, wTall, wTany, wTs, wO, wAnd, wOr, binW, cmpW, eqW, ixW, slW, biW, intW, lenW, tupleW, listW, meW, truW, augW, itW, List.getElem?_cons_zero, List.getElem?_cons_succ, List.set_cons_zero, List.set_cons_succ, md, true_and, keyD, Option.some.injEq, exists_and_left, exists_eq_left', exists_eq_left, decide_true, decide_false, Bool.and_true, Bool.true_and, Bool.not_true, Bool.not_false, atI_0, atI_1, atI_2, atI_3, wipeD, Tg.slots, slotsL, List.cons_append, List.nil_append, ↓reduceIte, if_true, if_false, Bool.false_eq_true]
    refine seq_i (fun ρ => ∃ cs' : List Int, ρ = [.sh (.lst (cs.map .int)), .sh (.int seed), s2, .own none (cs'.map .int)]) ?_ fun N hN => ?_
    · rintro ρ ⟨cs', rfl⟩
      refine seq_i (fun ρ => ∃ cs' : List Int, ρ = [.sh (.lst (cs.map .int)), .sh (.int seed), s2, .own none (cs'.map .int)]) ?_ fun N hN => ?_
      · rintro ρ ⟨cs', rfl⟩
        (try dsimp only); rw [wSs_cons]; simp (maxSteps := 4000000) only [wS, wE, wA, wG, wGs, wT, wTall, wTany, wTs, wO, wAnd, wOr, binW, cmpW, eqW, ixW, slW, biW, intW, lenW, tupleW, listW, meW, truW, augW, itW, List.getElem?_cons_zero, List.getElem?_cons_succ, List.set_cons_zero, List.set_cons_succ, md, true_and, keyD, Option.some.injEq, exists_and_left, exists_eq_left', exists_eq_left, decide_true, decide_false, Bool.and_true, Bool.true_and, Bool.not_true, Bool.not_false, atI_0, atI_1, atI_2, atI_3, wipeD, Tg.slots, slotsL, List.cons_append, List.nil_append, ↓reduceIte, if_true, if_false, Bool.false_eq_true]
        exact ⟨fun _ => trivial, rfl, q cs' seed⟩
      · simp (maxSteps := 4000000) only [wS, wE, wA, wG, wGs, wT, wTall, wTany, wTs, wO, wAnd, wOr, binW, cmpW, eqW, ixW, slW, biW, intW, lenW, tupleW, listW, meW, truW, augW, itW, List.getElem?_cons_zero, List.getElem?_cons_succ, List.set_cons_zero, List.set_cons_succ, md, true_and, keyD, Option.some.injEq, exists_and_left, exists_eq_left', exists_eq_left, decide_true, decide_false, Bool.and_true, Bool.true_and, Bool.not_true, Bool.not_false, atI_0, atI_1, atI_2, atI_3, wipeD, Tg.slots, slotsL, List.cons_append, List.nil_append, ↓reduceIte, if_true, if_false, Bool.false_eq_true]
        cases cs' with
        | nil =>
          try simp (maxSteps := 4000000) only [wS, wE, wA, wG, wGs, wT, wTall, wTany, wTs, wO, wAnd, wOr, binW, cmpW, eqW, ixW, slW, biW, intW, lenW, tupleW, listW, meW, truW, augW, itW, List.getElem?_cons_zero, List.getElem?_cons_succ, List.set_cons_zero, List.set_cons_succ, md, true_and, keyD, Option.some.injEq, exists_and_left, exists_eq_left', exists_eq_left, decide_true, decide_false, Bool.and_true, Bool.true_and, Bool.not_true, Bool.not_false, atI_0, atI_1, atI_2, atI_3, wipeD, Tg.slots, slotsL, List.cons_append, List.nil_append, ↓reduceIte, if_true, if_false, Bool.false_eq_true, List.map_nil, List.length_nil]
          rw [if_neg (by decide)]
          (try dsimp only); rw [wSs_nil]; dsimp only
          exact hN _ ⟨[], rfl⟩
        | cons c r =>
          try simp (maxSteps := 4000000) only [wS, wE, wA, wG, wGs, wT, wTall, wTany, wTs, wO, wAnd, wOr, binW, cmpW, eqW, ixW, slW, biW, intW, lenW, tupleW, listW, meW, truW, augW, itW, List.getElem?_cons_zero, List.getElem?_cons_succ, List.set_cons_zero, List.set_cons_succ, md, true_and, keyD, Option.some.injEq, exists_and_left, exists_eq_left', exists_eq_left, decide_true, decide_false, Bool.and_true, Bool.true_and, Bool.not_true, Bool.not_false, atI_0, atI_1, atI_2, atI_3, wipeD, Tg.slots, slotsL, List.cons_append, List.nil_append, ↓reduceIte, if_true, if_false, Bool.false_eq_true, List.map_cons, List.length_cons]
          rw [if_pos (by simp)]
          (try dsimp only); rw [wSs_cons]; simp (maxSteps := 4000000) only [wS, wE, wA, wG, wGs, wT, wTall, wTany, wTs, wO, wAnd, wOr, binW, cmpW, eqW, ixW, slW, biW, intW, lenW, tupleW, listW, meW, truW, augW, itW, List.getElem?_cons_zero, List.getElem?_cons_succ, List.set_cons_zero, List.set_cons_succ, md, true_and, keyD, Option.some.injEq, exists_and_left, exists_eq_left', exists_eq_left, decide_true, decide_false, Bool.and_true, Bool.true_and, Bool.not_true, Bool.not_false, atI_0, atI_1, atI_2, atI_3, wipeD, Tg.slots, slotsL, List.cons_append, List.nil_append, ↓reduceIte, if_true, if_false, Bool.false_eq_true]
          refine ⟨⟨by decide, by decide⟩, 0, ?_, ?_⟩
          · unfold ixN
            simp
          · (try dsimp only); rw [wSs_nil]; dsimp only
            exact hN _ ⟨c / 2 :: r, rfl⟩
    · simp (maxSteps := 4000000) only [wS, wE, wA, wG, wGs, wT, wTall, wTany, wTs, wO, wAnd, wOr, binW, cmpW, eqW, ixW, slW, biW, intW, lenW, tupleW, listW, meW, truW, augW, itW, List.getElem?_cons_zero, List.getElem?_cons_succ, List.set_cons_zero, List.set_cons_succ, md, true_and, keyD, Option.some.injEq, exists_and_left, exists_eq_left', exists_eq_left, decide_true, decide_false, Bool.and_true, Bool.true_and, Bool.not_true, Bool.not_false, atI_0, atI_1, atI_2, atI_3, wipeD, Tg.slots, slotsL, List.cons_append, List.nil_append, ↓reduceIte, if_true, if_false, Bool.false_eq_true]
      cases cs with
      | nil =>
        try simp (maxSteps := 4000000) only [wS, wE, wA, wG, wGs, wT, wTall, wTany, wTs, wO, wAnd, wOr, binW, cmpW, eqW, ixW, slW, biW, intW, lenW, tupleW, listW, meW, truW, augW, itW, List.getElem?_cons_zero, List.getElem?_cons_succ, List.set_cons_zero, List.set_cons_succ, md, true_and, keyD, Option.some.injEq, exists_and_left, exists_eq_left', exists_eq_left, decide_true, decide_false, Bool.and_true, Bool.true_and, Bool.not_true, Bool.not_false, atI_0, atI_1, atI_2, atI_3, wipeD, Tg.slots, slotsL, List.cons_append, List.nil_append, ↓reduceIte, if_true, if_false, Bool.false_eq_true, List.map_nil, List.length_nil]
        rw [if_neg (by decide)]
        (try dsimp only); rw [wSs_nil]; dsimp only
        exact hN _ ⟨[], rfl⟩
      | cons c r =>
        try simp (maxSteps := 4000000) only [wS, wE, wA, wG, wGs, wT, wTall, wTany, wTs, wO, wAnd, wOr, binW, cmpW, eqW, ixW, slW, biW, intW, lenW, tupleW, listW, meW, truW, augW, itW, List.getElem?_cons_zero, List.getElem?_cons_succ, List.set_cons_zero, List.set_cons_succ, md, true_and, keyD, Option.some.injEq, exists_and_left, exists_eq_left', exists_eq_left, decide_true, decide_false, Bool.and_true, Bool.true_and, Bool.not_true, Bool.not_false, atI_0, atI_1, atI_2, atI_3, wipeD, Tg.slots, slotsL, List.cons_append, List.nil_append, ↓reduceIte, if_true, if_false, Bool.false_eq_true, List.map_cons, List.length_cons]
        rw [if_pos (by simp)]
        refine ⟨by decide, ?_⟩
        split
        · (try dsimp only); rw [wSs_cons]; simp (maxSteps := 4000000) only [wS, wE, wA, wG, wGs, wT, wTall, wTany, wTs, wO, wAnd, wOr, binW, cmpW, eqW, ixW, slW, biW, intW, lenW, tupleW, listW, meW, truW, augW, itW, List.getElem?_cons_zero, List.getElem?_cons_succ, List.set_cons_zero, List.set_cons_succ, md, true_and, keyD, Option.some.injEq, exists_and_left, exists_eq_left', exists_eq_left, decide_true, decide_false, Bool.and_true, Bool.true_and, Bool.not_true, Bool.not_false, atI_0, atI_1, atI_2, atI_3, wipeD, Tg.slots, slotsL, List.cons_append, List.nil_append, ↓reduceIte, if_true, if_false, Bool.false_eq_true]
          refine ⟨sz (by simp), ?_⟩
          (try dsimp only); rw [wSs_nil]; dsimp only
          exact hN _ ⟨[], rfl⟩
        · (try dsimp only); rw [wSs_nil]; dsimp only
          exact hN _ ⟨c :: r, rfl⟩
  · simp (maxSteps := 4000000) only [wS, wE, wA, wG, wGs, wT, wTall, wTany, wTs, wO, wAnd, wOr, binW, cmpW, eqW, ixW, slW, biW, intW, lenW, tupleW, listW, meW, truW, augW, itW, List.getElem?_cons_zero, List.getElem?_cons_succ, List.set_cons_zero, List.set_cons_succ, md, true_and, keyD, Option.some.injEq, exists_and_left, exists_eq_left', exists_eq_left, decide_true, decide_false, Bool.and_true, Bool.true_and, Bool.not_true, Bool.not_false, atI_0, atI_1, atI_2, atI_3, wipeD, Tg.slots, slotsL, List.cons_append, List.nil_append, ↓reduceIte, if_true, if_false, Bool.false_eq_true]
    refine forL_ind (fun ds ρ => ∃ (td : List Int) (seed : Int) (s2 : Sl), ds = td.map .int ∧ ρ = [.sh (.lst (cs.map .int)), .sh (.int seed), s2, .un]) ?_ ?_ _ _ ⟨cs, _, .un, rfl, rfl⟩
    · rintro ρ ⟨td, seed, s2, _, rfl⟩
      exact hN _ ⟨seed, s2, rfl⟩
    · rintro d ds ρ ⟨td, seed, s2, e1, rfl⟩ N2 hN2
      cases td with
      | nil => cases e1
      | cons c td =>
        rw [List.map_cons] at e1
        injection e1 with e1 e3
        subst e1 e3
        try simp (maxSteps := 4000000) only [wS, wE, wA, wG, wGs, wT, wTall, wTany, wTs, wO, wAnd, wOr, binW, cmpW, eqW, ixW, slW, biW, intW, lenW, tupleW, listW, meW, truW, augW, itW, List.getElem?_cons_zero, List.getElem?_cons_succ, List.set_cons_zero, List.set_cons_succ, md, true_and, keyD, Option.some.injEq, exists_and_left, exists_eq_left', exists_eq_left, decide_true, decide_false, Bool.and_true, Bool.true_and, Bool.not_true, Bool.not_false, atI_0, atI_1, atI_2, atI_3, wipeD, Tg.slots, slotsL, List.cons_append, List.nil_append, ↓reduceIte, if_true, if_false, Bool.false_eq_true]
        (try dsimp only); rw [wSs_cons]; simp (maxSteps := 4000000) only [wS, wE, wA, wG, wGs, wT, wTall, wTany, wTs, wO, wAnd, wOr, binW, cmpW, eqW, ixW, slW, biW, intW, lenW, tupleW, listW, meW, truW, augW, itW, List.getElem?_cons_zero, List.getElem?_cons_succ, List.set_cons_zero, List.set_cons_succ, md, true_and, keyD, Option.some.injEq, exists_and_left, exists_eq_left', exists_eq_left, decide_true, decide_false, Bool.and_true, Bool.true_and, Bool.not_true, Bool.not_false, atI_0, atI_1, atI_2, atI_3, wipeD, Tg.slots, slotsL, List.cons_append, List.nil_append, ↓reduceIte, if_true, if_false, Bool.false_eq_true]
        refine ⟨.inr (by decide), by decide, ?_⟩
        (try dsimp only); rw [wSs_nil]; dsimp only
        exact hN2 _ ⟨td, _, _, rfl, rfl⟩
theorem c_pool {cs : List Int} {Q : D → Prop} {QE : DX → Prop} (q : Q (poolL.d P w)) : Γ P w 4 [.lst (cs.map .int)] Q QE := ⟨cs, rfl, q⟩
theorem c_params {Q : D → Prop} {QE : DX → Prop} (q : ∀ ps : List Str, ps.length ≤ 3 → (∀ p ∈ ps, p.length ≤ 16) → Q (tS ps)) : Γ P w 15 [poolL.d P w] Q QE := ⟨rfl, q⟩
theorem c_line {ps : List Str} {Q : D → Prop} {QE : DX → Prop} (h : ps.length ≤ 10) (h2 : ∀ p ∈ ps, p.length ≤ 16) (q : ∀ s : Str, s.length ≤ 1000 → Q (.str s)) : Γ P w 8 [poolL.d P w, tS ps] Q QE := ⟨ps, rfl, h, h2, q⟩
theorem c_arg {ps : List Str} {Q : D → Prop} {QE : DX → Prop} (h : ps.length ≤ 10) (h2 : ∀ p ∈ ps, p.length ≤ 16) (q : ∀ s : Str, s.length ≤ 1000 → Q (.str s)) : Γ P w 9 [poolL.d P w, tS ps] Q QE := ⟨ps, rfl, h, h2, q⟩
theorem c_fill {line : Str} {ps args : List Str} {Q : D → Prop} {QE : DX → Prop} (hl : line.length ≤ 1000) (hB : Bd ps) (hA : Bd args) (hn : args.length = ps.length) (q : Q (fillD line ps args)) : Γ P w 2 [.str line, tS ps, tS args] Q QE := ⟨line, ps, args, rfl, hl, hB, hA, hn, q⟩
theorem c_due {line : Str} {ps args : List Str} {Q : D → Prop} {QE : DX → Prop} (hl : line.length ≤ 1000) (hB : Bd ps) (hA : Bd args) (hn : args.length = ps.length) (q : Q (fillD line ps args)) : Γ P w 16 [.str line, tS ps, tS args] Q QE := ⟨line, ps, args, rfl, hl, hB, hA, hn, q⟩
theorem bd_of {ps : List Str} {n : Nat} (h : ps.length ≤ 10) (h2 : ∀ p ∈ ps, p.length ≤ n) (hn : n ≤ 1000) : Bd ps := ⟨by omega, fun p hp => Nat.le_trans (h2 p hp) hn⟩
theorem cut_x {x : Str} {hi : Option Int} (hx : x.length ≤ 16) : ∃ xs : List Str, cutD [D.str x] none hi = xs.map D.str ∧ xs.length ≤ 1 ∧ ∀ p ∈ xs, p.length ≤ 16 := by
  refine ⟨(([x].drop (HT.sIx 1 0 none)).take (HT.sIx 1 1 hi - HT.sIx 1 0 none)), ?_, ?_, fun p hp => ?_⟩
  · unfold cutD
    rw [List.map_take, List.map_drop]; rfl
  · have := List.length_take_le (HT.sIx 1 1 hi - HT.sIx 1 0 none) ([x].drop (HT.sIx 1 0 none))
    rw [List.length_take, List.length_drop]
    have : [x].length = 1 := rfl
    omega
  · have := List.mem_of_mem_drop (List.mem_of_mem_take hp)
    rw [List.mem_singleton.mp this]; exact hx
theorem w_law {ds : List D} (h : sLaw ds Q QE) : wSs (Γ P w) E b_law (zz Q) (ent0 c_law.N ds) := by
  obtain ⟨cs, rfl, q⟩ := h
  show wSs (Γ P w) E b_law _ [.sh (.lst (cs.map .int)), .un, .un, .un, .un, .un, .un, .un]
  unfold b_law
  (try dsimp only); rw [wSs_cons]; simp (maxSteps := 4000000) only [wS, wE, wA, wG, wGs, wT, wTall, wTany, wTs, wO, wAnd, wOr, binW, cmpW, eqW, ixW, slW, biW, intW, lenW, tupleW, listW, meW, truW, augW, itW, List.getElem?_cons_zero, List.getElem?_cons_succ, List.set_cons_zero, List.set_cons_succ, md, true_and, keyD, Option.some.injEq, exists_and_left, exists_eq_left', exists_eq_left, decide_true, decide_false, Bool.and_true, Bool.true_and, Bool.not_true, Bool.not_false, atI_0, atI_1, atI_2, atI_3, wipeD, Tg.slots, slotsL, List.cons_append, List.nil_append, ↓reduceIte, if_true, if_false, Bool.false_eq_true]
  refine c_pool ?_
  try simp (maxSteps := 4000000) only [wS, wE, wA, wG, wGs, wT, wTall, wTany, wTs, wO, wAnd, wOr, binW, cmpW, eqW, ixW, slW, biW, intW, lenW, tupleW, listW, meW, truW, augW, itW, List.getElem?_cons_zero, List.getElem?_cons_succ, List.set_cons_zero, List.set_cons_succ, md, true_and, keyD, Option.some.injEq, exists_and_left, exists_eq_left', exists_eq_left, decide_true, decide_false, Bool.and_true, Bool.true_and, Bool.not_true, Bool.not_false, atI_0, atI_1, atI_2, atI_3, wipeD, Tg.slots, slotsL, List.cons_append, List.nil_append, ↓reduceIte, if_true, if_false, Bool.false_eq_true]
  (try dsimp only); rw [wSs_cons]; simp (maxSteps := 4000000) only [wS, wE, wA, wG, wGs, wT, wTall, wTany, wTs, wO, wAnd, wOr, binW, cmpW, eqW, ixW, slW, biW, intW, lenW, tupleW, listW, meW, truW, augW, itW, List.getElem?_cons_zero, List.getElem?_cons_succ, List.set_cons_zero, List.set_cons_succ, md, true_and, keyD, Option.some.injEq, exists_and_left, exists_eq_left', exists_eq_left, decide_true, decide_false, Bool.and_true, Bool.true_and, Bool.not_true, Bool.not_false, atI_0, atI_1, atI_2, atI_3, wipeD, Tg.slots, slotsL, List.cons_append, List.nil_append, ↓reduceIte, if_true, if_false, Bool.false_eq_true]
  refine c_params fun ps hp hp2 => ?_
  try simp (maxSteps := 4000000) only [wS, wE, wA, wG, wGs, wT, wTall, wTany, wTs, wO, wAnd, wOr, binW, cmpW, eqW, ixW, slW, biW, intW, lenW, tupleW, listW, meW, truW, augW, itW, List.getElem?_cons_zero, List.getElem?_cons_succ, List.set_cons_zero, List.set_cons_succ, md, true_and, keyD, Option.some.injEq, exists_and_left, exists_eq_left', exists_eq_left, decide_true, decide_false, Bool.and_true, Bool.true_and, Bool.not_true, Bool.not_false, atI_0, atI_1, atI_2, atI_3, wipeD, Tg.slots, slotsL, List.cons_append, List.nil_append, ↓reduceIte, if_true, if_false, Bool.false_eq_true]
  have hB : Bd ps := bd_of (by omega) hp2 (by omega)
  (try dsimp only); rw [wSs_cons]; simp (maxSteps := 4000000) only [wS, wE, wA, wG, wGs, wT, wTall, wTany, wTs, wO, wAnd, wOr, binW, cmpW, eqW, ixW, slW, biW, intW, lenW, tupleW, listW, meW, truW, augW, itW, List.getElem?_cons_zero, List.getElem?_cons_succ, List.set_cons_zero, List.set_cons_succ, md, true_and, keyD, Option.some.injEq, exists_and_left, exists_eq_left', exists_eq_left, decide_true, decide_false, Bool.and_true, Bool.true_and, Bool.not_true, Bool.not_false, atI_0, atI_1, atI_2, atI_3, wipeD, Tg.slots, slotsL, List.cons_append, List.nil_append, ↓reduceIte, if_true, if_false, Bool.false_eq_true]
  refine c_line (by omega) hp2 fun s1 h1 => ?_
  try simp (maxSteps := 4000000) only [wS, wE, wA, wG, wGs, wT, wTall, wTany, wTs, wO, wAnd, wOr, binW, cmpW, eqW, ixW, slW, biW, intW, lenW, tupleW, listW, meW, truW, augW, itW, List.getElem?_cons_zero, List.getElem?_cons_succ, List.set_cons_zero, List.set_cons_succ, md, true_and, keyD, Option.some.injEq, exists_and_left, exists_eq_left', exists_eq_left, decide_true, decide_false, Bool.and_true, Bool.true_and, Bool.not_true, Bool.not_false, atI_0, atI_1, atI_2, atI_3, wipeD, Tg.slots, slotsL, List.cons_append, List.nil_append, ↓reduceIte, if_true, if_false, Bool.false_eq_true]
  refine ⟨sz (by simp), ?_⟩
  obtain ⟨xs, hxe, hxl, hx16⟩ := cut_x (x := Str.ofString "x") (hi := some (3 - ((ps.map D.str).length : Int))) (by decide)
  rw [hxe]
  refine ⟨sz (by rw [List.length_map, List.length_map]; omega), ?_⟩
  rw [← List.map_append]
  refine c_line (by rw [List.length_append]; omega) (fun p hp => ?_) fun s2 h2 => ?_
  · rcases List.mem_append.mp hp with z | z
    · exact hp2 p z
    · exact hx16 p z
  try simp (maxSteps := 4000000) only [wS, wE, wA, wG, wGs, wT, wTall, wTany, wTs, wO, wAnd, wOr, binW, cmpW, eqW, ixW, slW, biW, intW, lenW, tupleW, listW, meW, truW, augW, itW, List.getElem?_cons_zero, List.getElem?_cons_succ, List.set_cons_zero, List.set_cons_succ, md, true_and, keyD, Option.some.injEq, exists_and_left, exists_eq_left', exists_eq_left, decide_true, decide_false, Bool.and_true, Bool.true_and, Bool.not_true, Bool.not_false, atI_0, atI_1, atI_2, atI_3, wipeD, Tg.slots, slotsL, List.cons_append, List.nil_append, ↓reduceIte, if_true, if_false, Bool.false_eq_true]
  refine ⟨sz (by simp), ?_⟩
  (try dsimp only); rw [wSs_cons]; simp (maxSteps := 4000000) only [wS, wE, wA, wG, wGs, wT, wTall, wTany, wTs, wO, wAnd, wOr, binW, cmpW, eqW, ixW, slW, biW, intW, lenW, tupleW, listW, meW, truW, augW, itW, List.getElem?_cons_zero, List.getElem?_cons_succ, List.set_cons_zero, List.set_cons_succ, md, true_and, keyD, Option.some.injEq, exists_and_left, exists_eq_left', exists_eq_left, decide_true, decide_false, Bool.and_true, Bool.true_and, Bool.not_true, Bool.not_false, atI_0, atI_1, atI_2, atI_3, wipeD, Tg.slots, slotsL, List.cons_append, List.nil_append, ↓reduceIte, if_true, if_false, Bool.false_eq_true]
  refine lcL_ind (fun ds acc => ∃ dn td : List Str, ds = td.map .str ∧ ps = dn ++ td ∧ acc = (dn.map brace).map .str) ?_ ?_ _ _ ⟨[], ps, rfl, rfl, rfl⟩
  · rintro acc ⟨dn, td, e1, e2, rfl⟩
    cases td with
    | cons _ _ => cases e1
    | nil =>
      rw [List.append_nil] at e2
      subst e2
      try simp (maxSteps := 4000000) only [wS, wE, wA, wG, wGs, wT, wTall, wTany, wTs, wO, wAnd, wOr, binW, cmpW, eqW, ixW, slW, biW, intW, lenW, tupleW, listW, meW, truW, augW, itW, List.getElem?_cons_zero, List.getElem?_cons_succ, List.set_cons_zero, List.set_cons_succ, md, true_and, keyD, Option.some.injEq, exists_and_left, exists_eq_left', exists_eq_left, decide_true, decide_false, Bool.and_true, Bool.true_and, Bool.not_true, Bool.not_false, atI_0, atI_1, atI_2, atI_3, wipeD, Tg.slots, slotsL, List.cons_append, List.nil_append, ↓reduceIte, if_true, if_false, Bool.false_eq_true]
      (try dsimp only); rw [wSs_cons]; simp (maxSteps := 4000000) only [wS, wE, wA, wG, wGs, wT, wTall, wTany, wTs, wO, wAnd, wOr, binW, cmpW, eqW, ixW, slW, biW, intW, lenW, tupleW, listW, meW, truW, augW, itW, List.getElem?_cons_zero, List.getElem?_cons_succ, List.set_cons_zero, List.set_cons_succ, md, true_and, keyD, Option.some.injEq, exists_and_left, exists_eq_left', exists_eq_left, decide_true, decide_false, Bool.and_true, Bool.true_and, Bool.not_true, Bool.not_false, atI_0, atI_1, atI_2, atI_3, wipeD, Tg.slots, slotsL, List.cons_append, List.nil_append, ↓reduceIte, if_true, if_false, Bool.false_eq_true]
      refine ⟨sz ?_, ?_⟩
      · have : (cutD [D.str s1, D.str s2, D.str (Str.ofString "")] none (some 1)).length ≤ 3 := by
          unfold cutD
          rw [List.length_take, List.length_drop]
          have : [D.str s1, D.str s2, D.str (Str.ofString "")].length = 3 := rfl
          omega
        have h3 : [D.str s1, D.str s2, D.str (Str.ofString "")].length = 3 := rfl
        rw [h3]; omega
      refine forL_ind (fun ds ρ => (∀ x ∈ ds, isStr 1000 x) ∧ ∃ s5 s6 s7 : Sl, ρ = [.sh (.lst (cs.map .int)), .sh (poolL.d P w), .sh (tS ps), .sh (.lst [.str s1, .str s2, .str (Str.ofString "")]), .sh (tS (ps.map brace)), s5, s6, s7]) ?_ ?_ _ _ ⟨?_, .un, .un, .un, rfl⟩
      · rintro ρ ⟨_, s5, s6, s7, rfl⟩
        (try dsimp only); rw [wSs_cons]; simp (maxSteps := 4000000) only [wS, wE, wA, wG, wGs, wT, wTall, wTany, wTs, wO, wAnd, wOr, binW, cmpW, eqW, ixW, slW, biW, intW, lenW, tupleW, listW, meW, truW, augW, itW, List.getElem?_cons_zero, List.getElem?_cons_succ, List.set_cons_zero, List.set_cons_succ, md, true_and, keyD, Option.some.injEq, exists_and_left, exists_eq_left', exists_eq_left, decide_true, decide_false, Bool.and_true, Bool.true_and, Bool.not_true, Bool.not_false, atI_0, atI_1, atI_2, atI_3, wipeD, Tg.slots, slotsL, List.cons_append, List.nil_append, ↓reduceIte, if_true, if_false, Bool.false_eq_true]
        exact ⟨nofun, q⟩
      · rintro d ds ρ ⟨hd, s5, s6, s7, rfl⟩ N hN
        obtain ⟨line, rfl, hl⟩ := hd d List.mem_cons_self
        try simp (maxSteps := 4000000) only [wS, wE, wA, wG, wGs, wT, wTall, wTany, wTs, wO, wAnd, wOr, binW, cmpW, eqW, ixW, slW, biW, intW, lenW, tupleW, listW, meW, truW, augW, itW, List.getElem?_cons_zero, List.getElem?_cons_succ, List.set_cons_zero, List.set_cons_succ, md, true_and, keyD, Option.some.injEq, exists_and_left, exists_eq_left', exists_eq_left, decide_true, decide_false, Bool.and_true, Bool.true_and, Bool.not_true, Bool.not_false, atI_0, atI_1, atI_2, atI_3, wipeD, Tg.slots, slotsL, List.cons_append, List.nil_append, ↓reduceIte, if_true, if_false, Bool.false_eq_true]
        (try dsimp only); rw [wSs_cons]; simp (maxSteps := 4000000) only [wS, wE, wA, wG, wGs, wT, wTall, wTany, wTs, wO, wAnd, wOr, binW, cmpW, eqW, ixW, slW, biW, intW, lenW, tupleW, listW, meW, truW, augW, itW, List.getElem?_cons_zero, List.getElem?_cons_succ, List.set_cons_zero, List.set_cons_succ, md, true_and, keyD, Option.some.injEq, exists_and_left, exists_eq_left', exists_eq_left, decide_true, decide_false, Bool.and_true, Bool.true_and, Bool.not_true, Bool.not_false, atI_0, atI_1, atI_2, atI_3, wipeD, Tg.slots, slotsL, List.cons_append, List.nil_append, ↓reduceIte, if_true, if_false, Bool.false_eq_true]
        refine lcL_map (isStr 1000) (sz (by rw [List.length_map]; omega)) (fun d acc hd ha hlt R hR => ?_) fun l hll hx => ?_
        · simp (maxSteps := 4000000) only [e_law_0, wS, wE, wA, wG, wGs, wT, wTall, wTany, wTs, wO, wAnd, wOr, binW, cmpW, eqW, ixW, slW, biW, intW, lenW, tupleW, listW, meW, truW, augW, itW, List.getElem?_cons_zero, List.getElem?_cons_succ, List.set_cons_zero, List.set_cons_succ, md, true_and, keyD, Option.some.injEq, exists_and_left, exists_eq_left', exists_eq_left, decide_true, decide_false, Bool.and_true, Bool.true_and, Bool.not_true, Bool.not_false, atI_0, atI_1, atI_2, atI_3, wipeD, Tg.slots, slotsL, List.cons_append, List.nil_append, ↓reduceIte, if_true, if_false, Bool.false_eq_true]
          refine c_arg (by omega) hp2 fun s hs => ?_
          exact ⟨hlt, hR _ ⟨s, rfl, hs⟩⟩
        · obtain ⟨args, rfl, hargs⟩ := to_strs hx
          rw [List.length_map, List.length_map] at hll
          have hA : Bd args := ⟨by omega, hargs⟩
          have hBr : Bd (ps.map brace) := ⟨by rw [List.length_map]; omega, fun p hp => by
            obtain ⟨z, hz, rfl⟩ := List.mem_map.mp hp
            have := hp2 z hz
            rw [brace_len]; omega⟩
          have hpl := partsF_len (line := line) (ps := ps) line.length 0 0
          try simp (maxSteps := 4000000) only [wS, wE, wA, wG, wGs, wT, wTall, wTany, wTs, wO, wAnd, wOr, binW, cmpW, eqW, ixW, slW, biW, intW, lenW, tupleW, listW, meW, truW, augW, itW, List.getElem?_cons_zero, List.getElem?_cons_succ, List.set_cons_zero, List.set_cons_succ, md, true_and, keyD, Option.some.injEq, exists_and_left, exists_eq_left', exists_eq_left, decide_true, decide_false, Bool.and_true, Bool.true_and, Bool.not_true, Bool.not_false, atI_0, atI_1, atI_2, atI_3, wipeD, Tg.slots, slotsL, List.cons_append, List.nil_append, ↓reduceIte, if_true, if_false, Bool.false_eq_true]
          (try dsimp only); rw [wSs_cons]; simp (maxSteps := 4000000) only [wS, wE, wA, wG, wGs, wT, wTall, wTany, wTs, wO, wAnd, wOr, binW, cmpW, eqW, ixW, slW, biW, intW, lenW, tupleW, listW, meW, truW, augW, itW, List.getElem?_cons_zero, List.getElem?_cons_succ, List.set_cons_zero, List.set_cons_succ, md, true_and, keyD, Option.some.injEq, exists_and_left, exists_eq_left', exists_eq_left, decide_true, decide_false, Bool.and_true, Bool.true_and, Bool.not_true, Bool.not_false, atI_0, atI_1, atI_2, atI_3, wipeD, Tg.slots, slotsL, List.cons_append, List.nil_append, ↓reduceIte, if_true, if_false, Bool.false_eq_true]
          refine c_parts hl hB ?_
          refine c_parts2 hl hB ?_
          refine c_same2 (dep_parts (by omega)) ?_
          try simp (maxSteps := 4000000) only [wS, wE, wA, wG, wGs, wT, wTall, wTany, wTs, wO, wAnd, wOr, binW, cmpW, eqW, ixW, slW, biW, intW, lenW, tupleW, listW, meW, truW, augW, itW, List.getElem?_cons_zero, List.getElem?_cons_succ, List.set_cons_zero, List.set_cons_succ, md, true_and, keyD, Option.some.injEq, exists_and_left, exists_eq_left', exists_eq_left, decide_true, decide_false, Bool.and_true, Bool.true_and, Bool.not_true, Bool.not_false, atI_0, atI_1, atI_2, atI_3, wipeD, Tg.slots, slotsL, List.cons_append, List.nil_append, ↓reduceIte, if_true, if_false, Bool.false_eq_true]
          (try dsimp only); rw [wSs_nil]; dsimp only
          (try dsimp only); rw [wSs_cons]; simp (maxSteps := 4000000) only [wS, wE, wA, wG, wGs, wT, wTall, wTany, wTs, wO, wAnd, wOr, binW, cmpW, eqW, ixW, slW, biW, intW, lenW, tupleW, listW, meW, truW, augW, itW, List.getElem?_cons_zero, List.getElem?_cons_succ, List.set_cons_zero, List.set_cons_succ, md, true_and, keyD, Option.some.injEq, exists_and_left, exists_eq_left', exists_eq_left, decide_true, decide_false, Bool.and_true, Bool.true_and, Bool.not_true, Bool.not_false, atI_0, atI_1, atI_2, atI_3, wipeD, Tg.slots, slotsL, List.cons_append, List.nil_append, ↓reduceIte, if_true, if_false, Bool.false_eq_true]
          refine c_fill hl hB hA hll ?_
          refine c_due hl hB hA hll ?_
          refine c_same2 trivial ?_
          try simp (maxSteps := 4000000) only [wS, wE, wA, wG, wGs, wT, wTall, wTany, wTs, wO, wAnd, wOr, binW, cmpW, eqW, ixW, slW, biW, intW, lenW, tupleW, listW, meW, truW, augW, itW, List.getElem?_cons_zero, List.getElem?_cons_succ, List.set_cons_zero, List.set_cons_succ, md, true_and, keyD, Option.some.injEq, exists_and_left, exists_eq_left', exists_eq_left, decide_true, decide_false, Bool.and_true, Bool.true_and, Bool.not_true, Bool.not_false, atI_0, atI_1, atI_2, atI_3, wipeD, Tg.slots, slotsL, List.cons_append, List.nil_append, ↓reduceIte, if_true, if_false, Bool.false_eq_true]
          (try dsimp only); rw [wSs_nil]; dsimp only
          (try dsimp only); rw [wSs_cons]; simp (maxSteps := 4000000) only [wS, wE, wA, wG, wGs, wT, wTall, wTany, wTs, wO, wAnd, wOr, binW, cmpW, eqW, ixW, slW, biW, intW, lenW, tupleW, listW, meW, truW, augW, itW, List.getElem?_cons_zero, List.getElem?_cons_succ, List.set_cons_zero, List.set_cons_succ, md, true_and, keyD, Option.some.injEq, exists_and_left, exists_eq_left', exists_eq_left, decide_true, decide_false, Bool.and_true, Bool.true_and, Bool.not_true, Bool.not_false, atI_0, atI_1, atI_2, atI_3, wipeD, Tg.slots, slotsL, List.cons_append, List.nil_append, ↓reduceIte, if_true, if_false, Bool.false_eq_true, List.filterMap_cons, List.filterMap_nil]
          refine ⟨rfl, ?_⟩
          refine c_fill hl hB hBr (by rw [List.length_map]) ?_
          unfold fillD
          rw [fill_self]
          refine c_same2 trivial ?_
          try simp (maxSteps := 4000000) only [wS, wE, wA, wG, wGs, wT, wTall, wTany, wTs, wO, wAnd, wOr, binW, cmpW, eqW, ixW, slW, biW, intW, lenW, tupleW, listW, meW, truW, augW, itW, List.getElem?_cons_zero, List.getElem?_cons_succ, List.set_cons_zero, List.set_cons_succ, md, true_and, keyD, Option.some.injEq, exists_and_left, exists_eq_left', exists_eq_left, decide_true, decide_false, Bool.and_true, Bool.true_and, Bool.not_true, Bool.not_false, atI_0, atI_1, atI_2, atI_3, wipeD, Tg.slots, slotsL, List.cons_append, List.nil_append, ↓reduceIte, if_true, if_false, Bool.false_eq_true]
          (try dsimp only); rw [wSs_nil]; dsimp only
          (try dsimp only); rw [wSs_nil]; dsimp only
          exact hN _ ⟨fun x hx => hd x (List.mem_cons_of_mem _ hx), _, _, _, rfl⟩
      · have h3 : ∀ x ∈ [D.str s1, D.str s2, D.str (Str.ofString "")], isStr 1000 x := fun x hx => by
          simp only [List.mem_cons, List.not_mem_nil, or_false] at hx
          rcases hx with rfl | rfl | rfl
          · exact ⟨_, rfl, h1⟩
          · exact ⟨_, rfl, h2⟩
          · exact ⟨_, rfl, by decide⟩
        intro x hx
        rcases List.mem_append.mp (show x ∈ [D.str s1, D.str s2, D.str (Str.ofString "")] ++ cutD [D.str s1, D.str s2, D.str (Str.ofString "")] none (some 1) from hx) with z | z
        · exact h3 x z
        · exact h3 x (List.mem_of_mem_drop (List.mem_of_mem_take z))
  · rintro d ds acc ⟨dn, td, e1, e2, rfl⟩ R hR
    cases td with
    | nil => cases e1
    | cons t td =>
      rw [List.map_cons] at e1
      injection e1 with e1 e3
      subst e1 e3
      have ht : t.length ≤ 16 := hp2 t (by rw [e2]; simp)
      obtain ⟨z1, z2⟩ := brace_sz (p := t) (by omega)
      simp (maxSteps := 4000000) only [e_law_1, wS, wE, wA, wG, wGs, wT, wTall, wTany, wTs, wO, wAnd, wOr, binW, cmpW, eqW, ixW, slW, biW, intW, lenW, tupleW, listW, meW, truW, augW, itW, List.getElem?_cons_zero, List.getElem?_cons_succ, List.set_cons_zero, List.set_cons_succ, md, true_and, keyD, Option.some.injEq, exists_and_left, exists_eq_left', exists_eq_left, decide_true, decide_false, Bool.and_true, Bool.true_and, Bool.not_true, Bool.not_false, atI_0, atI_1, atI_2, atI_3, wipeD, Tg.slots, slotsL, List.cons_append, List.nil_append, ↓reduceIte, if_true, if_false, Bool.false_eq_true]
      refine ⟨z1, z2, sz' ?_, hR _ ⟨dn ++ [t], td, rfl, by rw [e2, List.append_assoc]; rfl, by rw [List.map_append, List.map_append]; rfl⟩⟩
      have h2 := congrArg List.length e2
      rw [List.length_append] at h2
      rw [List.length_map, List.length_map]
      omega
end
end DL.K09
namespace DL.K09
open PySem PySem.Spec PyProof.Rows L2 DL
section
variable {P : Program} {w : World} {ds : List D} {Q : D → Prop} {E : DX → Prop}
theorem len_slot_at (h : Γ P w 0 ds Q E) : ds.length = 3 := by obtain ⟨_, _, _, rfl, _⟩ := h; rfl
theorem len_parts_of (h : Γ P w 1 ds Q E) : ds.length = 2 := by obtain ⟨_, _, rfl, _⟩ := h; rfl
theorem len_filled (h : Γ P w 2 ds Q E) : ds.length = 3 := by obtain ⟨_, _, _, rfl, _⟩ := h; rfl
theorem len_law_mixed (h : Γ P w 3 ds Q E) : ds.length = 3 := by obtain ⟨_, _, _, rfl, _⟩ := h; rfl
theorem len_law_take (h : Γ P w 5 ds Q E) : ds.length = 2 := by obtain ⟨_, rfl, _⟩ := h; rfl
theorem len_law_signs (h : Γ P w 6 ds Q E) : ds.length = 0 := by obtain ⟨rfl, _⟩ := h; rfl
theorem len_law_word (h : Γ P w 7 ds Q E) : ds.length = 2 := by obtain ⟨_, rfl, _⟩ := h; rfl
theorem len_law_line (h : Γ P w 8 ds Q E) : ds.length = 2 := by obtain ⟨_, rfl, _⟩ := h; rfl
theorem len_law_argument (h : Γ P w 9 ds Q E) : ds.length = 2 := by obtain ⟨_, rfl, _⟩ := h; rfl
theorem len_law_parts (h : Γ P w 10 ds Q E) : ds.length = 2 := by obtain ⟨_, _, rfl, _⟩ := h; rfl
theorem len_law_same0 (h : Γ P w 12 ds Q E) : ds.length = 2 := by obtain ⟨_, rfl, _⟩ := h; rfl
theorem len_law_same1 (h : Γ P w 13 ds Q E) : ds.length = 2 := by obtain ⟨_, rfl, _⟩ := h; rfl
theorem len_law_same2 (h : Γ P w 14 ds Q E) : ds.length = 2 := by obtain ⟨_, rfl, _⟩ := h; rfl
theorem len_law_params (h : Γ P w 15 ds Q E) : ds.length = 1 := by obtain ⟨rfl, _⟩ := h; rfl
theorem len_law_due (h : Γ P w 16 ds Q E) : ds.length = 3 := by obtain ⟨_, _, _, rfl, _⟩ := h; rfl
theorem len_law (h : Γ P w 17 ds Q E) : ds.length = 1 := by obtain ⟨_, rfl, _⟩ := h; rfl
end
theorem ek0 : EXok (fun _ _ _ _ => False) := fun _ _ _ _ _ _ h => h
abbrev xa0 : Nat → Addr := fun _ => 0
section
variable {P : Program} {w : World} {K : PySem.W.Frag} {mg : Str → Option Value} {base : Heap}
abbrev Fg (P : Program) (w : World) (K : PySem.W.Frag) (mg : Str → Option Value) (base : Heap) (i : Nat) : Prop := ∃ (fa : Addr) (fd : FuncData) (ps : List Str), mg (nmT i) = some (.ref fa) ∧ PySem.W.keepIn K (.ref fa) = true ∧ Binds K fd ps [] ∧ FnOk P w K mg base (L2.CX P w) (lvT i) fa fd ps (low K xa0 (Γ P w i))
abbrev Fk (P : Program) (w : World) (K : PySem.W.Frag) (mg : Str → Option Value) (base : Heap) (i : Nat) (ks : List Str) (pm : List Nat) : Prop := ∃ (fa : Addr) (fd : FuncData) (ps : List Str), mg (nmT i) = some (.ref fa) ∧ PySem.W.keepIn K (.ref fa) = true ∧ KB K fd ps ks pm ∧ FnOk P w K mg base (L2.CX P w) (lvT i) fa fd ps (low K xa0 (Γ P w i))
theorem ok_none11 {f : Addr} {fd : FuncData} {ps : List Str} : FnOk P w K mg base (L2.CX P w) (lvT 11) f fd ps (low K xa0 (Γ P w 11)) := ⟨fun vs H Q E ⟨_, _, _, _, _, _, h, _⟩ => h.elim, fun A outer s H args us vs Q E _ _ _ _ ⟨_, _, _, _, _, _, h, _⟩ => h.elim⟩
theorem ok_slot_at {f : Addr} {fd : FuncData} (F : Fun K "slot_at" "slot_at" s_slot_at f fd) (B : ∀ x ∈ bltNames, mg x = none) : FnOk P w K mg base (L2.CX P w) (lvT 0) f fd ["line", "at", "params"] (low K xa0 (Γ P w 0)) :=
  def_ok (C := c_slot_at) (Γ := Γ P w) (sp := Γ P w 0) F f_slot_at ek0 ⟨nofun, nofun, B⟩ k_slot_at (fun ds Q E h => len_slot_at h) fun ds QD QE h => w_slot_at (QE := QE) h
theorem ok_parts_of {f : Addr} {fd : FuncData} (F : Fun K "parts_of" "parts_of" s_parts_of f fd) (B : ∀ x ∈ bltNames, mg x = none) (g0 : Fg P w K mg base 0) : FnOk P w K mg base (L2.CX P w) (lvT 1) f fd ["line", "params"] (low K xa0 (Γ P w 1)) :=
  def_ok (C := c_parts_of) (Γ := Γ P w) (sp := Γ P w 1) F f_parts_of ek0 ⟨List.forall_mem_cons.mpr ⟨g0, nofun⟩, nofun, B⟩ k_parts_of (fun ds Q E h => len_parts_of h) fun ds QD QE h => w_parts_of (QE := QE) h
theorem ok_filled {f : Addr} {fd : FuncData} (F : Fun K "filled" "filled" s_filled f fd) (B : ∀ x ∈ bltNames, mg x = none) (g1 : Fg P w K mg base 1) : FnOk P w K mg base (L2.CX P w) (lvT 2) f fd ["line", "params", "arguments"] (low K xa0 (Γ P w 2)) :=
  def_ok (C := c_filled) (Γ := Γ P w) (sp := Γ P w 2) F f_filled ek0 ⟨List.forall_mem_cons.mpr ⟨g1, nofun⟩, nofun, B⟩ k_filled (fun ds Q E h => len_filled h) fun ds QD QE h => w_filled (QE := QE) h
theorem ok_law_mixed {f : Addr} {fd : FuncData} (F : Fun K "_law_mixed" "_law_mixed" s_law_mixed f fd) (B : ∀ x ∈ bltNames, mg x = none) : FnOk P w K mg base (L2.CX P w) (lvT 3) f fd ["_law_number", "_law_turn", "_law_many"] (low K xa0 (Γ P w 3)) :=
  def_ok (C := c_law_mixed) (Γ := Γ P w) (sp := Γ P w 3) F f_law_mixed ek0 ⟨nofun, nofun, B⟩ k_law_mixed (fun ds Q E h => len_law_mixed h) fun ds QD QE h => w_mixed (QE := QE) h
theorem ok_law_pool {f : Addr} {fd : FuncData} (F : Fun K "_law_pool" "_law_pool" s_law_pool f fd) (B : ∀ x ∈ bltNames, mg x = none) : FnOk P w K mg base (L2.CX P w) (lvT 4) f fd ["_law_script"] (low K xa0 (Γ P w 4)) :=
  make_ok poolL (def_okN (C := c_law_pool) (Γ := Γ P w) (xa := xa0) (sp := nPool) F f_law_pool ek0 ⟨nofun, nofun, B⟩ k_law_pool (fun ds Q h => by obtain ⟨cs, rfl, _⟩ := h; rfl) fun ds QD h => w_pool h) (fun H d o hN r => pool_ini H d o hN r) fun ds QD QE h => by
    obtain ⟨cs, rfl, q⟩ := h
    exact ⟨⟨cs, rfl, fun cs' seed => ⟨cs', seed, rfl⟩⟩, q⟩
theorem ok_law_take {f : Addr} {fd : FuncData} (F : Fun K "_law_take" "_law_take" s_law_take f fd) (B : ∀ x ∈ bltNames, mg x = none) (g3 : Fg P w K mg base 3) : FnOk P w K mg base (L2.CX P w) (lvT 5) f fd ["_law_pool_here", "_law_many"] (low K xa0 (Γ P w 5)) :=
  take_ok poolL (def_okO (C := c_law_take) (Γ := Γ P w) (xa := xa0) (sp := oTake) F f_law_take ek0 ⟨List.forall_mem_cons.mpr ⟨g3, nofun⟩, nofun, B⟩ k_law_take (fun d0 ds Q h => by obtain ⟨n, θ, rfl, _⟩ := h; rfl) fun a d0 ds QD h => w_take h) (fun ds QD QE h => len_law_take h) fun ds QD QE h => by
    obtain ⟨n, rfl, hn, q⟩ := h
    exact ⟨[.int n], rfl, by simp [flatD], fun θ d0 hS => ⟨n, θ, rfl, hn, hS, fun r d' h0 h1 h2 => ⟨rfl, h2, q r h0 h1⟩⟩⟩
theorem ok_law_signs {f : Addr} {fd : FuncData} (F : Fun K "_law_signs" "_law_signs" s_law_signs f fd) (B : ∀ x ∈ bltNames, mg x = none) : FnOk P w K mg base (L2.CX P w) (lvT 6) f fd [] (low K xa0 (Γ P w 6)) :=
  def_ok (C := c_law_signs) (Γ := Γ P w) (sp := Γ P w 6) F f_law_signs ek0 ⟨nofun, nofun, B⟩ k_law_signs (fun ds Q E h => len_law_signs h) fun ds QD QE h => w_signs (QE := QE) h
theorem ok_law_word {f : Addr} {fd : FuncData} (F : Fun K "_law_word" "_law_word" s_law_word f fd) (B : ∀ x ∈ bltNames, mg x = none) (g5 : Fg P w K mg base 5) : FnOk P w K mg base (L2.CX P w) (lvT 7) f fd ["_law_pool_here", "_law_taken"] (low K xa0 (Γ P w 7)) :=
  def_ok (C := c_law_word) (Γ := Γ P w) (sp := Γ P w 7) F f_law_word ek0 ⟨List.forall_mem_cons.mpr ⟨g5, nofun⟩, nofun, B⟩ k_law_word (fun ds Q E h => len_law_word h) fun ds QD QE h => w_word (QE := QE) h
theorem ok_law_line {f : Addr} {fd : FuncData} (F : Fun K "_law_line" "_law_line" s_law_line f fd) (B : ∀ x ∈ bltNames, mg x = none) (g5 : Fg P w K mg base 5) (g6 : Fg P w K mg base 6) : FnOk P w K mg base (L2.CX P w) (lvT 8) f fd ["_law_pool_here", "_law_params_here"] (low K xa0 (Γ P w 8)) :=
  def_ok (C := c_law_line) (Γ := Γ P w) (sp := Γ P w 8) F f_law_line ek0 ⟨List.forall_mem_cons.mpr ⟨g5, List.forall_mem_cons.mpr ⟨g6, nofun⟩⟩, nofun, B⟩ k_law_line (fun ds Q E h => len_law_line h) fun ds QD QE h => w_line (QE := QE) h
theorem ok_law_argument {f : Addr} {fd : FuncData} (F : Fun K "_law_argument" "_law_argument" s_law_argument f fd) (B : ∀ x ∈ bltNames, mg x = none) (g5 : Fg P w K mg base 5) : FnOk P w K mg base (L2.CX P w) (lvT 9) f fd ["_law_pool_here", "_law_params_here"] (low K xa0 (Γ P w 9)) :=
  def_ok (C := c_law_argument) (Γ := Γ P w) (sp := Γ P w 9) F f_law_argument ek0 ⟨List.forall_mem_cons.mpr ⟨g5, nofun⟩, nofun, B⟩ k_law_argument (fun ds Q E h => len_law_argument h) fun ds QD QE h => w_argument (QE := QE) h
theorem ok_law_parts {f : Addr} {fd : FuncData} (F : Fun K "_law_parts" "_law_parts" s_law_parts f fd) (B : ∀ x ∈ bltNames, mg x = none) : FnOk P w K mg base (L2.CX P w) (lvT 10) f fd ["_law_line_here", "_law_params_here"] (low K xa0 (Γ P w 10)) :=
  def_ok (C := c_law_parts) (Γ := Γ P w) (sp := Γ P w 10) F f_law_parts ek0 ⟨nofun, nofun, B⟩ k_law_parts (fun ds Q E h => len_law_parts h) fun ds QD QE h => w_law_parts (QE := QE) h
theorem ok_law_same0 {f : Addr} {fd : FuncData} (F : Fun K "_law_same" "_law_same" s_law_same f fd) (B : ∀ x ∈ bltNames, mg x = none) (g11 : Fg P w K mg base 11) : FnOk P w K mg base (L2.CX P w) (lvT 12) f fd ["_law_actual", "_law_due_here"] (low K xa0 (Γ P w 12)) :=
  def_ok (C := c_law_same0) (Γ := Γ P w) (sp := Γ P w 12) F f_law_same ek0 ⟨List.forall_mem_cons.mpr ⟨g11, nofun⟩, nofun, B⟩ k_law_same0 (fun ds Q E h => len_law_same0 h) fun ds QD QE h => w_same0 (QE := QE) h
theorem ok_law_same1 {f : Addr} {fd : FuncData} (F : Fun K "_law_same" "_law_same" s_law_same f fd) (B : ∀ x ∈ bltNames, mg x = none) (g12 : Fg P w K mg base 12) : FnOk P w K mg base (L2.CX P w) (lvT 13) f fd ["_law_actual", "_law_due_here"] (low K xa0 (Γ P w 13)) :=
  def_ok (C := c_law_same1) (Γ := Γ P w) (sp := Γ P w 13) F f_law_same ek0 ⟨List.forall_mem_cons.mpr ⟨g12, nofun⟩, nofun, B⟩ k_law_same1 (fun ds Q E h => len_law_same1 h) fun ds QD QE h => w_same1 (QE := QE) h
theorem ok_law_same2 {f : Addr} {fd : FuncData} (F : Fun K "_law_same" "_law_same" s_law_same f fd) (B : ∀ x ∈ bltNames, mg x = none) (g13 : Fg P w K mg base 13) : FnOk P w K mg base (L2.CX P w) (lvT 14) f fd ["_law_actual", "_law_due_here"] (low K xa0 (Γ P w 14)) :=
  def_ok (C := c_law_same2) (Γ := Γ P w) (sp := Γ P w 14) F f_law_same ek0 ⟨List.forall_mem_cons.mpr ⟨g13, nofun⟩, nofun, B⟩ k_law_same2 (fun ds Q E h => len_law_same2 h) fun ds QD QE h => w_same2 (QE := QE) h
theorem ok_law_params {f : Addr} {fd : FuncData} (F : Fun K "_law_params" "_law_params" s_law_params f fd) (B : ∀ x ∈ bltNames, mg x = none) (g5 : Fg P w K mg base 5) (g7 : Fg P w K mg base 7) : FnOk P w K mg base (L2.CX P w) (lvT 15) f fd ["_law_pool_here"] (low K xa0 (Γ P w 15)) :=
  def_ok (C := c_law_params) (Γ := Γ P w) (sp := Γ P w 15) F f_law_params ek0 ⟨List.forall_mem_cons.mpr ⟨g5, List.forall_mem_cons.mpr ⟨g7, nofun⟩⟩, nofun, B⟩ k_law_params (fun ds Q E h => len_law_params h) fun ds QD QE h => w_params (QE := QE) h
theorem ok_law_due {f : Addr} {fd : FuncData} (F : Fun K "_law_due" "_law_due" s_law_due f fd) (B : ∀ x ∈ bltNames, mg x = none) (g10 : Fg P w K mg base 10) : FnOk P w K mg base (L2.CX P w) (lvT 16) f fd ["_law_line_here", "_law_params_here", "_law_given"] (low K xa0 (Γ P w 16)) :=
  def_ok (C := c_law_due) (Γ := Γ P w) (sp := Γ P w 16) F f_law_due ek0 ⟨List.forall_mem_cons.mpr ⟨g10, nofun⟩, nofun, B⟩ k_law_due (fun ds Q E h => len_law_due h) fun ds QD QE h => w_due (QE := QE) h
theorem ok_law {f : Addr} {fd : FuncData} (F : Fun K "law" "law" s_law f fd) (B : ∀ x ∈ bltNames, mg x = none) (g14 : Fg P w K mg base 14) (g2 : Fg P w K mg base 2) (g16 : Fg P w K mg base 16) (g10 : Fg P w K mg base 10) (g1 : Fg P w K mg base 1) (g9 : Fg P w K mg base 9) (g8 : Fg P w K mg base 8) (g15 : Fg P w K mg base 15) (g4 : Fg P w K mg base 4) (q0 : Fk P w K mg base 2 ["line", "params", "arguments"] [0, 1, 2]) : FnOk P w K mg base (L2.CX P w) (lvT 17) f fd ["_law_script"] (low K xa0 (Γ P w 17)) :=
  def_ok (C := c_law) (Γ := Γ P w) (sp := Γ P w 17) F f_law ek0 ⟨List.forall_mem_cons.mpr ⟨g14, List.forall_mem_cons.mpr ⟨g2, List.forall_mem_cons.mpr ⟨g16, List.forall_mem_cons.mpr ⟨g10, List.forall_mem_cons.mpr ⟨g1, List.forall_mem_cons.mpr ⟨g9, List.forall_mem_cons.mpr ⟨g8, List.forall_mem_cons.mpr ⟨g15, List.forall_mem_cons.mpr ⟨g4, nofun⟩⟩⟩⟩⟩⟩⟩⟩⟩, List.forall_mem_cons.mpr ⟨q0, nofun⟩, B⟩ k_law (fun ds Q E h => len_law h) fun ds QD QE h => w_law (QE := QE) h
end
theorem all_mk {l : PySem.W.OpenLaw} {w : World} {K : PySem.W.Frag} {h : Heap} {mg : Str → Option Value} {fa : Addr} (X : K.In h) (G : h.Ns mainGlobals mg) (hfa : mg "law" = some (.ref fa))
    {f0 f1 f2 f3 f4 f5 f6 f7 f8 f9 f10 f11 f12 f13 f14 : Addr} {od0 an0 od1 an1 od2 an2 od3 an3 od4 an4 od5 an5 od6 an6 od7 an7 od8 an8 od9 an9 od10 an10 od11 an11 od12 an12 od13 an13 od14 an14 : Option Addr} {sl0 sl1 sl2 sl3 sl4 sl5 sl6 sl7 sl8 sl9 sl10 sl11 sl12 sl13 sl14 : Array (Option Value)} {oc0 kV0 dc0 pm0 cd0 ct0 oc1 kV1 dc1 pm1 cd1 ct1 oc2 kV2 dc2 pm2 cd2 ct2 oc3 kV3 dc3 pm3 cd3 ct3 oc4 kV4 dc4 pm4 cd4 ct4 oc5 kV5 dc5 pm5 cd5 ct5 oc6 kV6 dc6 pm6 cd6 ct6 oc7 kV7 dc7 pm7 cd7 ct7 oc8 kV8 dc8 pm8 cd8 ct8 oc9 kV9 dc9 pm9 cd9 ct9 oc10 kV10 dc10 pm10 cd10 ct10 oc11 kV11 dc11 pm11 cd11 ct11 oc12 kV12 dc12 pm12 cd12 ct12 oc13 kV13 dc13 pm13 cd13 ct13 oc14 kV14 dc14 pm14 cd14 ct14 : Value}
    (a0 : PySem.W.nsIn K mainGlobals "slot_at" = some (some (.ref f0))) (l0 : K.lookup f0 = some ⟨oc0, od0, .func (PySem.W.fnOf "slot_at" "slot_at" (defArgs s_slot_at) (defBody s_slot_at) (defScope s_slot_at) .none kV0 dc0 pm0 an0 cd0 ct0), sl0⟩) (c0 : PySem.W.codeIn K cd0 "slot_at" = true) (k0 : PySem.W.keepIn K (.ref f0) = true)
    (a1 : PySem.W.nsIn K mainGlobals "parts_of" = some (some (.ref f1))) (l1 : K.lookup f1 = some ⟨oc1, od1, .func (PySem.W.fnOf "parts_of" "parts_of" (defArgs s_parts_of) (defBody s_parts_of) (defScope s_parts_of) .none kV1 dc1 pm1 an1 cd1 ct1), sl1⟩) (c1 : PySem.W.codeIn K cd1 "parts_of" = true) (k1 : PySem.W.keepIn K (.ref f1) = true)
    (a2 : PySem.W.nsIn K mainGlobals "filled" = some (some (.ref f2))) (l2 : K.lookup f2 = some ⟨oc2, od2, .func (PySem.W.fnOf "filled" "filled" (defArgs s_filled) (defBody s_filled) (defScope s_filled) .none kV2 dc2 pm2 an2 cd2 ct2), sl2⟩) (c2 : PySem.W.codeIn K cd2 "filled" = true) (k2 : PySem.W.keepIn K (.ref f2) = true)
    (a3 : PySem.W.nsIn K mainGlobals "_law_mixed" = some (some (.ref f3))) (l3 : K.lookup f3 = some ⟨oc3, od3, .func (PySem.W.fnOf "_law_mixed" "_law_mixed" (defArgs s_law_mixed) (defBody s_law_mixed) (defScope s_law_mixed) .none kV3 dc3 pm3 an3 cd3 ct3), sl3⟩) (c3 : PySem.W.codeIn K cd3 "_law_mixed" = true) (k3 : PySem.W.keepIn K (.ref f3) = true)
    (a4 : PySem.W.nsIn K mainGlobals "_law_pool" = some (some (.ref f4))) (l4 : K.lookup f4 = some ⟨oc4, od4, .func (PySem.W.fnOf "_law_pool" "_law_pool" (defArgs s_law_pool) (defBody s_law_pool) (defScope s_law_pool) .none kV4 dc4 pm4 an4 cd4 ct4), sl4⟩) (c4 : PySem.W.codeIn K cd4 "_law_pool" = true) (k4 : PySem.W.keepIn K (.ref f4) = true)
    (a5 : PySem.W.nsIn K mainGlobals "_law_take" = some (some (.ref f5))) (l5 : K.lookup f5 = some ⟨oc5, od5, .func (PySem.W.fnOf "_law_take" "_law_take" (defArgs s_law_take) (defBody s_law_take) (defScope s_law_take) .none kV5 dc5 pm5 an5 cd5 ct5), sl5⟩) (c5 : PySem.W.codeIn K cd5 "_law_take" = true) (k5 : PySem.W.keepIn K (.ref f5) = true)
    (a6 : PySem.W.nsIn K mainGlobals "_law_signs" = some (some (.ref f6))) (l6 : K.lookup f6 = some ⟨oc6, od6, .func (PySem.W.fnOf "_law_signs" "_law_signs" (defArgs s_law_signs) (defBody s_law_signs) (defScope s_law_signs) .none kV6 dc6 pm6 an6 cd6 ct6), sl6⟩) (c6 : PySem.W.codeIn K cd6 "_law_signs" = true) (k6 : PySem.W.keepIn K (.ref f6) = true)
    (a7 : PySem.W.nsIn K mainGlobals "_law_word" = some (some (.ref f7))) (l7 : K.lookup f7 = some ⟨oc7, od7, .func (PySem.W.fnOf "_law_word" "_law_word" (defArgs s_law_word) (defBody s_law_word) (defScope s_law_word) .none kV7 dc7 pm7 an7 cd7 ct7), sl7⟩) (c7 : PySem.W.codeIn K cd7 "_law_word" = true) (k7 : PySem.W.keepIn K (.ref f7) = true)
    (a8 : PySem.W.nsIn K mainGlobals "_law_line" = some (some (.ref f8))) (l8 : K.lookup f8 = some ⟨oc8, od8, .func (PySem.W.fnOf "_law_line" "_law_line" (defArgs s_law_line) (defBody s_law_line) (defScope s_law_line) .none kV8 dc8 pm8 an8 cd8 ct8), sl8⟩) (c8 : PySem.W.codeIn K cd8 "_law_line" = true) (k8 : PySem.W.keepIn K (.ref f8) = true)
    (a9 : PySem.W.nsIn K mainGlobals "_law_argument" = some (some (.ref f9))) (l9 : K.lookup f9 = some ⟨oc9, od9, .func (PySem.W.fnOf "_law_argument" "_law_argument" (defArgs s_law_argument) (defBody s_law_argument) (defScope s_law_argument) .none kV9 dc9 pm9 an9 cd9 ct9), sl9⟩) (c9 : PySem.W.codeIn K cd9 "_law_argument" = true) (k9 : PySem.W.keepIn K (.ref f9) = true)
    (a10 : PySem.W.nsIn K mainGlobals "_law_parts" = some (some (.ref f10))) (l10 : K.lookup f10 = some ⟨oc10, od10, .func (PySem.W.fnOf "_law_parts" "_law_parts" (defArgs s_law_parts) (defBody s_law_parts) (defScope s_law_parts) .none kV10 dc10 pm10 an10 cd10 ct10), sl10⟩) (c10 : PySem.W.codeIn K cd10 "_law_parts" = true) (k10 : PySem.W.keepIn K (.ref f10) = true)
    (a11 : PySem.W.nsIn K mainGlobals "_law_same" = some (some (.ref f11))) (l11 : K.lookup f11 = some ⟨oc11, od11, .func (PySem.W.fnOf "_law_same" "_law_same" (defArgs s_law_same) (defBody s_law_same) (defScope s_law_same) .none kV11 dc11 pm11 an11 cd11 ct11), sl11⟩) (c11 : PySem.W.codeIn K cd11 "_law_same" = true) (k11 : PySem.W.keepIn K (.ref f11) = true)
    (a12 : PySem.W.nsIn K mainGlobals "_law_params" = some (some (.ref f12))) (l12 : K.lookup f12 = some ⟨oc12, od12, .func (PySem.W.fnOf "_law_params" "_law_params" (defArgs s_law_params) (defBody s_law_params) (defScope s_law_params) .none kV12 dc12 pm12 an12 cd12 ct12), sl12⟩) (c12 : PySem.W.codeIn K cd12 "_law_params" = true) (k12 : PySem.W.keepIn K (.ref f12) = true)
    (a13 : PySem.W.nsIn K mainGlobals "_law_due" = some (some (.ref f13))) (l13 : K.lookup f13 = some ⟨oc13, od13, .func (PySem.W.fnOf "_law_due" "_law_due" (defArgs s_law_due) (defBody s_law_due) (defScope s_law_due) .none kV13 dc13 pm13 an13 cd13 ct13), sl13⟩) (c13 : PySem.W.codeIn K cd13 "_law_due" = true) (k13 : PySem.W.keepIn K (.ref f13) = true)
    (a14 : PySem.W.nsIn K mainGlobals "law" = some (some (.ref f14))) (l14 : K.lookup f14 = some ⟨oc14, od14, .func (PySem.W.fnOf "law" "law" (defArgs s_law) (defBody s_law) (defScope s_law) .none kV14 dc14 pm14 an14 cd14 ct14), sl14⟩) (c14 : PySem.W.codeIn K cd14 "law" = true) (k14 : PySem.W.keepIn K (.ref f14) = true)
    (z0 : PySem.W.nsIn K mainGlobals "len" = some none) (z1 : PySem.W.nsIn K mainGlobals "int" = some none) (z2 : PySem.W.nsIn K mainGlobals "tuple" = some none) (z3 : PySem.W.nsIn K mainGlobals "list" = some none) (z4 : PySem.W.nsIn K mainGlobals "isinstance" = some none) (z5 : PySem.W.nsIn K mainGlobals "any" = some none) (z6 : PySem.W.nsIn K mainGlobals "all" = some none) (z7 : PySem.W.nsIn K mainGlobals "ord" = some none) (z8 : PySem.W.nsIn K mainGlobals "min" = some none) (z9 : PySem.W.nsIn K mainGlobals "max" = some none) (z10 : PySem.W.nsIn K mainGlobals "abs" = some none) (z11 : PySem.W.nsIn K mainGlobals "sum" = some none) (z12 : PySem.W.nsIn K mainGlobals "range" = some none) (z13 : PySem.W.nsIn K mainGlobals "enumerate" = some none) (z14 : PySem.W.nsIn K mainGlobals "zip" = some none) (z15 : PySem.W.nsIn K mainGlobals "str" = some none) (z16 : PySem.W.nsIn K mainGlobals "bool" = some none) (z17 : PySem.W.nsIn K mainGlobals "dict" = some none) (z18 : PySem.W.nsIn K mainGlobals "set" = some none) (z19 : PySem.W.nsIn K mainGlobals "sorted" = some none) (z20 : PySem.W.nsIn K mainGlobals "reversed" = some none) (z21 : PySem.W.nsIn K mainGlobals "repr" = some none) :
    ∃ fd : FuncData, (∀ (s : Shared) (v : Value), BindsTo s fd ⟨[v], []⟩ [("_law_script", v)]) ∧ ∀ base : Heap, K.In base → base.Ns mainGlobals mg → FnOk l.prog w K mg base (L2.CX l.prog w) (lvT 17) fa fd ["_law_script"] (low K xa0 (Γ l.prog w 17)) := by
  have e := hfa.symm.trans (PySem.W.mg_of X G a14)
  cases e
  have B : ∀ x ∈ bltNames, mg x = none := List.forall_mem_cons.mpr ⟨PySem.W.mg_none_of X G z0, List.forall_mem_cons.mpr ⟨PySem.W.mg_none_of X G z1, List.forall_mem_cons.mpr ⟨PySem.W.mg_none_of X G z2, List.forall_mem_cons.mpr ⟨PySem.W.mg_none_of X G z3, List.forall_mem_cons.mpr ⟨PySem.W.mg_none_of X G z4, List.forall_mem_cons.mpr ⟨PySem.W.mg_none_of X G z5, List.forall_mem_cons.mpr ⟨PySem.W.mg_none_of X G z6, List.forall_mem_cons.mpr ⟨PySem.W.mg_none_of X G z7, List.forall_mem_cons.mpr ⟨PySem.W.mg_none_of X G z8, List.forall_mem_cons.mpr ⟨PySem.W.mg_none_of X G z9, List.forall_mem_cons.mpr ⟨PySem.W.mg_none_of X G z10, List.forall_mem_cons.mpr ⟨PySem.W.mg_none_of X G z11, List.forall_mem_cons.mpr ⟨PySem.W.mg_none_of X G z12, List.forall_mem_cons.mpr ⟨PySem.W.mg_none_of X G z13, List.forall_mem_cons.mpr ⟨PySem.W.mg_none_of X G z14, List.forall_mem_cons.mpr ⟨PySem.W.mg_none_of X G z15, List.forall_mem_cons.mpr ⟨PySem.W.mg_none_of X G z16, List.forall_mem_cons.mpr ⟨PySem.W.mg_none_of X G z17, List.forall_mem_cons.mpr ⟨PySem.W.mg_none_of X G z18, List.forall_mem_cons.mpr ⟨PySem.W.mg_none_of X G z19, List.forall_mem_cons.mpr ⟨PySem.W.mg_none_of X G z20, List.forall_mem_cons.mpr ⟨PySem.W.mg_none_of X G z21, nofun⟩⟩⟩⟩⟩⟩⟩⟩⟩⟩⟩⟩⟩⟩⟩⟩⟩⟩⟩⟩⟩⟩
  have F0 := fun_mk (st := s_slot_at) l0 c0 k0
  have b0 := F0.binds (ps := ["line", "at", "params"]) fun _ _ _ _ _ _ us hl => match us, hl with | [_, _, _], _ => rfl
  have m0 := PySem.W.mg_of X G a0
  have F1 := fun_mk (st := s_parts_of) l1 c1 k1
  have b1 := F1.binds (ps := ["line", "params"]) fun _ _ _ _ _ _ us hl => match us, hl with | [_, _], _ => rfl
  have m1 := PySem.W.mg_of X G a1
  have F2 := fun_mk (st := s_filled) l2 c2 k2
  have b2 := F2.binds (ps := ["line", "params", "arguments"]) fun _ _ _ _ _ _ us hl => match us, hl with | [_, _, _], _ => rfl
  have m2 := PySem.W.mg_of X G a2
  have F3 := fun_mk (st := s_law_mixed) l3 c3 k3
  have b3 := F3.binds (ps := ["_law_number", "_law_turn", "_law_many"]) fun _ _ _ _ _ _ us hl => match us, hl with | [_, _, _], _ => rfl
  have m3 := PySem.W.mg_of X G a3
  have F4 := fun_mk (st := s_law_pool) l4 c4 k4
  have b4 := F4.binds (ps := ["_law_script"]) fun _ _ _ _ _ _ us hl => match us, hl with | [_], _ => rfl
  have m4 := PySem.W.mg_of X G a4
  have F5 := fun_mk (st := s_law_take) l5 c5 k5
  have b5 := F5.binds (ps := ["_law_pool_here", "_law_many"]) fun _ _ _ _ _ _ us hl => match us, hl with | [_, _], _ => rfl
  have m5 := PySem.W.mg_of X G a5
  have F6 := fun_mk (st := s_law_signs) l6 c6 k6
  have b6 := F6.binds (ps := []) fun _ _ _ _ _ _ us hl => match us, hl with | [], _ => rfl
  have m6 := PySem.W.mg_of X G a6
  have F7 := fun_mk (st := s_law_word) l7 c7 k7
  have b7 := F7.binds (ps := ["_law_pool_here", "_law_taken"]) fun _ _ _ _ _ _ us hl => match us, hl with | [_, _], _ => rfl
  have m7 := PySem.W.mg_of X G a7
  have F8 := fun_mk (st := s_law_line) l8 c8 k8
  have b8 := F8.binds (ps := ["_law_pool_here", "_law_params_here"]) fun _ _ _ _ _ _ us hl => match us, hl with | [_, _], _ => rfl
  have m8 := PySem.W.mg_of X G a8
  have F9 := fun_mk (st := s_law_argument) l9 c9 k9
  have b9 := F9.binds (ps := ["_law_pool_here", "_law_params_here"]) fun _ _ _ _ _ _ us hl => match us, hl with | [_, _], _ => rfl
  have m9 := PySem.W.mg_of X G a9
  have F10 := fun_mk (st := s_law_parts) l10 c10 k10
  have b10 := F10.binds (ps := ["_law_line_here", "_law_params_here"]) fun _ _ _ _ _ _ us hl => match us, hl with | [_, _], _ => rfl
  have m10 := PySem.W.mg_of X G a10
  have F11 := fun_mk (st := s_law_same) l11 c11 k11
  have b11 := F11.binds (ps := ["_law_actual", "_law_due_here"]) fun _ _ _ _ _ _ us hl => match us, hl with | [_, _], _ => rfl
  have m11 := PySem.W.mg_of X G a11
  have F12 := fun_mk (st := s_law_params) l12 c12 k12
  have b12 := F12.binds (ps := ["_law_pool_here"]) fun _ _ _ _ _ _ us hl => match us, hl with | [_], _ => rfl
  have m12 := PySem.W.mg_of X G a12
  have F13 := fun_mk (st := s_law_due) l13 c13 k13
  have b13 := F13.binds (ps := ["_law_line_here", "_law_params_here", "_law_given"]) fun _ _ _ _ _ _ us hl => match us, hl with | [_, _, _], _ => rfl
  have m13 := PySem.W.mg_of X G a13
  have F14 := fun_mk (st := s_law) l14 c14 k14
  have b14 := F14.binds (ps := ["_law_script"]) fun _ _ _ _ _ _ us hl => match us, hl with | [_], _ => rfl
  have m14 := PySem.W.mg_of X G a14
  refine ⟨PySem.W.fnOf "law" "law" (defArgs s_law) (defBody s_law) (defScope s_law) .none kV14 dc14 pm14 an14 cd14 ct14, fun s v => .of_eq rfl, fun base _ _ => ?_⟩
  have g11 : Fg l.prog w K mg base 11 := ⟨_, _, _, m11, F11.kp, b11, ok_none11⟩
  have g12 : Fg l.prog w K mg base 12 := ⟨_, _, _, m11, F11.kp, b11, ok_law_same0 F11 B g11⟩
  have g13 : Fg l.prog w K mg base 13 := ⟨_, _, _, m11, F11.kp, b11, ok_law_same1 F11 B g12⟩
  have g14 : Fg l.prog w K mg base 14 := ⟨_, _, _, m11, F11.kp, b11, ok_law_same2 F11 B g13⟩
  have g0 : Fg l.prog w K mg base 0 := ⟨_, _, _, m0, F0.kp, b0, ok_slot_at F0 B⟩
  have g1 : Fg l.prog w K mg base 1 := ⟨_, _, _, m1, F1.kp, b1, ok_parts_of F1 B g0⟩
  have g2 : Fg l.prog w K mg base 2 := ⟨_, _, _, m2, F2.kp, b2, ok_filled F2 B g1⟩
  have g10 : Fg l.prog w K mg base 10 := ⟨_, _, _, m10, F10.kp, b10, ok_law_parts F10 B⟩
  have g16 : Fg l.prog w K mg base 16 := ⟨_, _, _, m13, F13.kp, b13, ok_law_due F13 B g10⟩
  have g3 : Fg l.prog w K mg base 3 := ⟨_, _, _, m3, F3.kp, b3, ok_law_mixed F3 B⟩
  have g5 : Fg l.prog w K mg base 5 := ⟨_, _, _, m5, F5.kp, b5, ok_law_take F5 B g3⟩
  have g9 : Fg l.prog w K mg base 9 := ⟨_, _, _, m9, F9.kp, b9, ok_law_argument F9 B g5⟩
  have g6 : Fg l.prog w K mg base 6 := ⟨_, _, _, m6, F6.kp, b6, ok_law_signs F6 B⟩
  have g8 : Fg l.prog w K mg base 8 := ⟨_, _, _, m8, F8.kp, b8, ok_law_line F8 B g5 g6⟩
  have g7 : Fg l.prog w K mg base 7 := ⟨_, _, _, m7, F7.kp, b7, ok_law_word F7 B g5⟩
  have g15 : Fg l.prog w K mg base 15 := ⟨_, _, _, m12, F12.kp, b12, ok_law_params F12 B g5 g7⟩
  have g4 : Fg l.prog w K mg base 4 := ⟨_, _, _, m4, F4.kp, b4, ok_law_pool F4 B⟩
  have q17_0 : Fk l.prog w K mg base 2 ["line", "params", "arguments"] [0, 1, 2] := ⟨_, _, ["line", "params", "arguments"], m2, F2.kp, fun s ws _ hl => match ws, hl with | [_, _, _], _ => .of_eq rfl, ok_filled F2 B g1⟩
  exact ok_law F14 B g14 g2 g16 g10 g1 g9 g8 g15 g4 q17_0
theorem law_low {K : PySem.W.Frag} {P : Program} {w : World} {H : Hp} {a : Addr} {ns : List Int} (hS : SqL K H a (ns.map V.int)) : low K xa0 (Γ P w 17) [.ref a] H (fun v _ => v = .bl true) fun _ _ _ => False :=
  ⟨[.lst (ns.map .int)], fun d => d = .bl true, fun _ => False, H, Same.refl _, .cons (.lst hS Reps.of_ints) .nil, ⟨ns, rfl, rfl⟩, fun d v Hf H1 _ _ _ _ r q => by subst q; cases r; rfl, fun _ _ _ _ _ _ _ _ _ _ _ _ q => q.elim⟩
theorem walk {l : PySem.W.OpenLaw} {q : Program} {loose : List Str} {XP : (Str → Option Value) → Heap → Prop} {YP : World → Heap → Prop} {d : DefRec} {K : Params → PySem.W.Frag} (hn : l.most = some 63) (hdf : d.params.defaults = [])
    (hY : ∀ (w : World) (h : Heap), YP w h → (K w.params).In h)
    (F : ∀ (w : World) (mg : Str → Option Value) (fa : Addr) (h : Heap), (K w.params).In h → h.Ns mainGlobals mg → mg d.name = some (.ref fa) →
      ∃ fd : FuncData, (∀ (s : Shared) (u : Value), BindsTo s fd ⟨[u], []⟩ [("_law_script", u)]) ∧ ∀ base : Heap, (K w.params).In base → base.Ns mainGlobals mg → FnOk l.prog w (K w.params) mg base (L2.CX l.prog w) (lvT 17) fa fd ["_law_script"] (low (K w.params) xa0 (Γ l.prog w 17))) :
    PySem.W.WalkO q loose XP YP l.row.toRowW d [] (fun f vs => PySem.call f vs) :=
  L2.walk_of (n := 63) (k := lvT 17) (x := "_law_script") (CX := fun w => L2.CX l.prog w) (sp := fun w => low (K w.params) xa0 (Γ l.prog w 17)) hn (by decide) hdf ⟨rfl, by decide, by decide⟩ hY F (fun w H a ns hl _ hS => law_low hS) fun w H s e s' ⟨_, _, _, _, _, _, _, _, _, _, _, _, z⟩ => z
end DL.K09
open PySem PySem.W PyProof.Rows
set_option maxRecDepth 100000 in
set_option maxHeartbeats 0 in
theorem PySem.Challenge.cw_proseknot_k09_slots_parts_and_filled_holds : PySem.Challenge.rw_proseknot_k09_slots_parts_and_filled.Holds := by
  w_on; o_law; k_head; (case hw => w_witness2)
  k_fill
  refine DL.K09.walk (l := PySem.Challenge.rw_proseknot_k09_slots_parts_and_filled) rfl rfl (fun w h Y => PySem.W.kIn_of Y) ?F
  case F =>
    intro w mg fa h KX G hmg
    refine' DL.K09.all_mk KX G hmg ?a0 ?l0 ?c0 ?k0 ?a1 ?l1 ?c1 ?k1 ?a2 ?l2 ?c2 ?k2 ?a3 ?l3 ?c3 ?k3 ?a4 ?l4 ?c4 ?k4 ?a5 ?l5 ?c5 ?k5 ?a6 ?l6 ?c6 ?k6 ?a7 ?l7 ?c7 ?k7 ?a8 ?l8 ?c8 ?k8 ?a9 ?l9 ?c9 ?k9 ?a10 ?l10 ?c10 ?k10 ?a11 ?l11 ?c11 ?k11 ?a12 ?l12 ?c12 ?k12 ?a13 ?l13 ?c13 ?k13 ?a14 ?l14 ?c14 ?k14 ?z0 ?z1 ?z2 ?z3 ?z4 ?z5 ?z6 ?z7 ?z8 ?z9 ?z10 ?z11 ?z12 ?z13 ?z14 ?z15 ?z16 ?z17 ?z18 ?z19 ?z20 ?z21
    (case a0 => k_is)
    (case l0 => k_is)
    (case c0 => k_is)
    (case k0 => k_is)
    (case a1 => k_is)
    (case l1 => k_is)
    (case c1 => k_is)
    (case k1 => k_is)
    (case a2 => k_is)
    (case l2 => k_is)
    (case c2 => k_is)
    (case k2 => k_is)
    (case a3 => k_is)
    (case l3 => k_is)
    (case c3 => k_is)
    (case k3 => k_is)
    (case a4 => k_is)
    (case l4 => k_is)
    (case c4 => k_is)
    (case k4 => k_is)
    (case a5 => k_is)
    (case l5 => k_is)
    (case c5 => k_is)
    (case k5 => k_is)
    (case a6 => k_is)
    (case l6 => k_is)
    (case c6 => k_is)
    (case k6 => k_is)
    (case a7 => k_is)
    (case l7 => k_is)
    (case c7 => k_is)
    (case k7 => k_is)
    (case a8 => k_is)
    (case l8 => k_is)
    (case c8 => k_is)
    (case k8 => k_is)
    (case a9 => k_is)
    (case l9 => k_is)
    (case c9 => k_is)
    (case k9 => k_is)
    (case a10 => k_is)
    (case l10 => k_is)
    (case c10 => k_is)
    (case k10 => k_is)
    (case a11 => k_is)
    (case l11 => k_is)
    (case c11 => k_is)
    (case k11 => k_is)
    (case a12 => k_is)
    (case l12 => k_is)
    (case c12 => k_is)
    (case k12 => k_is)
    (case a13 => k_is)
    (case l13 => k_is)
    (case c13 => k_is)
    (case k13 => k_is)
    (case a14 => k_is)
    (case l14 => k_is)
    (case c14 => k_is)
    (case k14 => k_is)
    (case z0 => k_is)
    (case z1 => k_is)
    (case z2 => k_is)
    (case z3 => k_is)
    (case z4 => k_is)
    (case z5 => k_is)
    (case z6 => k_is)
    (case z7 => k_is)
    (case z8 => k_is)
    (case z9 => k_is)
    (case z10 => k_is)
    (case z11 => k_is)
    (case z12 => k_is)
    (case z13 => k_is)
    (case z14 => k_is)
    (case z15 => k_is)
    (case z16 => k_is)
    (case z17 => k_is)
    (case z18 => k_is)
    (case z19 => k_is)
    (case z20 => k_is)
    (case z21 => k_is)
